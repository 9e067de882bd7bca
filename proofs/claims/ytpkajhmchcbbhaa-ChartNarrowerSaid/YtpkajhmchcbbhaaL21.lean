/- Part 21 of 44. -/
import Derived.Test.YtpkajhmchcbbhaaL17
import Derived.Test.YtpkajhmchcbbhaaL18
import Derived.Test.YtpkajhmchcbbhaaL20
import Derived.Maps.AppendAt
set_option linter.unusedSimpArgs false
set_option linter.unusedVariables false
section
namespace Go.Proofs.Ytpkajhmchcbbhaa.P
open Go.RowKit Go.Proofs.YtpkajhmchcbbhaaW.PrintWords Go.Proofs.YtpkajhmchcbbhaaW.PrintLast Go.Proofs.YtpkajhmchcbbhaaW.PrintMore
def forecourtref01_Less.f (a0_0 : Int) (a0_1 : Int) (a1_0 : Int) (a1_1 : Int) : Option Bool :=
 if a0_0 < 0 ∨ a1_0 < 0 ∨ a0_1 < 1 ∨ a1_1 < 1 then some false
 else if a0_0 ≤ 4611686018427387904 ∧ a1_0 ≤ 4611686018427387904 ∧ a0_1 ≤ 4611686018427387904 ∧ a1_1 ≤ 4611686018427387904 then some (decide (a0_0 * a1_1 < a1_0 * a0_1)) else none
theorem less_parts {a b c d : Int} (hb : 1 ≤ b) (hd : 1 ≤ d) (h : a / b < c / d) : a * d < c * b := by
 have e1 := Int.mul_ediv_add_emod a b
 have e2 := Int.mul_ediv_add_emod c d
 have r1 := Int.emod_lt_of_pos a (show 0 < b by omega)
 have r2 := Int.emod_nonneg c (show d ≠ 0 by omega)
 have r3 := Int.emod_nonneg a (show b ≠ 0 by omega)
 generalize a / b = p at *
 generalize c / d = q at *
 generalize a % b = u at *
 generalize c % d = v at *
 subst e1 e2
 have h1 : (p + 1) * (b * d) ≤ q * (b * d) := Int.mul_le_mul_of_nonneg_right (by omega) (Int.mul_nonneg (by omega) (by omega))
 have h2 : u * d < b * d := Int.mul_lt_mul_of_pos_right r1 (by omega)
 have h3 : 0 ≤ v * b := Int.mul_nonneg r2 (by omega)
 have e3 : (b * p + u) * d = p * (b * d) + u * d := by rw [Int.add_mul, Int.mul_comm b p, Int.mul_assoc]
 have e4 : (d * q + v) * b = q * (b * d) + v * b := by rw [Int.add_mul, Int.mul_comm d q, Int.mul_assoc, Int.mul_comm d b]
 have e5 : (p + 1) * (b * d) = p * (b * d) + b * d := by rw [Int.add_mul, Int.one_mul]
 rw [e3, e4]
 omega
theorem less_rest {a b c d : Int} (h : a / b = c / d) : (a * d < c * b) ↔ (a % b * d < c % d * b) := by
 have e1 := Int.mul_ediv_add_emod a b
 have e2 := Int.mul_ediv_add_emod c d
 rw [← h] at e2
 generalize a / b = p at *
 generalize a % b = u at *
 generalize c % d = v at *
 subst e1 e2
 have e3 : (b * p + u) * d = p * (b * d) + u * d := by rw [Int.add_mul, Int.mul_comm b p, Int.mul_assoc]
 have e4 : (d * p + v) * b = p * (b * d) + v * b := by rw [Int.add_mul, Int.mul_comm d p, Int.mul_assoc, Int.mul_comm d b]
 rw [e3, e4]
 omega
def lessT (t : Bool) (a b c d : Int) : Bool := if t then decide (c * b < a * d) else decide (a * d < c * b)
theorem lessT_parts {t : Bool} {a b c d : Int} (hb : 1 ≤ b) (hd : 1 ≤ d) (h : a / b ≠ c / d) : lessT t a b c d = (decide (a / b < c / d) != t) := by
 rcases Int.lt_or_gt_of_ne h with h1 | h1
 ·have := less_parts hb hd h1
  have h2 : ¬ c * b < a * d := by omega
  cases t <;> simp [lessT, h1, this, h2]
 have := less_parts hd hb h1
 have h2 : ¬ a * d < c * b := by omega
 have h3 : ¬ a / b < c / d := by omega
 cases t <;> simp [lessT, h3, this, h2]
theorem lessT_zero {t : Bool} {a b c d : Int} (hb : 1 ≤ b) (hd : 1 ≤ d) (h : a / b = c / d) (hz : a % b = 0 ∨ c % d = 0) : lessT t a b c d = (decide (a % b ≠ c % d) && (decide (a % b = 0) != t)) := by
 have h1 := less_rest h
 have h2 := less_rest h.symm
 have r2 := Int.emod_nonneg c (show d ≠ 0 by omega)
 have r3 := Int.emod_nonneg a (show b ≠ 0 by omega)
 have e : lessT t a b c d = lessT t (a % b) b (c % d) d := by
  unfold lessT
  cases t <;> simp [h1, h2]
 rw [e]
 generalize a % b = u at *
 generalize c % d = v at *
 by_cases hu : u = 0
 ·subst hu
  by_cases hv : v = 0
  ·subst hv; cases t <;> simp [lessT]
  have h4 : 0 < v * b := Int.mul_pos (by omega) (by omega)
  have h5 : ¬ v * b < 0 := by omega
  have h6 : (0 : Int) ≠ v := fun e => hv e.symm
  cases t <;> simp [lessT, h4, h5, h6]
 obtain rfl : v = 0 := by omega
 have h4 : 0 < u * d := Int.mul_pos (by omega) (by omega)
 have h5 : ¬ u * d < 0 := by omega
 cases t <;> simp [lessT, hu, h4, h5]
theorem lessT_turn {t : Bool} {a b c d : Int} (h : a / b = c / d) : lessT t a b c d = lessT (!t) b (a % b) d (c % d) := by
 have h1 := less_rest h
 have h2 := less_rest h.symm
 cases t
 ·exact decide_eq_decide.2 (by rw [h1, Int.mul_comm (a % b), Int.mul_comm (c % d)])
 exact decide_eq_decide.2 (by rw [h2, Int.mul_comm (a % b), Int.mul_comm (c % d)])
set_option maxRecDepth 100000 in
set_option maxHeartbeats 4000000 in
theorem forecourtref01_Less.calls (a0_0 : Int) (a0_1 : Int) (a1_0 : Int) (a1_1 : Int) (r : Bool) (w : World) (h : forecourtref01_Less.f a0_0 a0_1 a1_0 a1_1 = some r) :
  Calls Try.prog 44 #[.agg #[.int .i64 a0_0, .int .i64 a0_1], .agg #[.int .i64 a1_0, .int .i64 a1_1]] w fun e w' => e = .returned (.bool r) ∧ Below w.heap.size w w' := by
 have hu8 := Try.underlying39
 by_cases hneg : a0_0 < 0 ∨ a1_0 < 0 ∨ a0_1 < 1 ∨ a1_1 < 1
 ·have hr : r = false := by
   unfold forecourtref01_Less.f at h
   rw [if_pos hneg] at h
   exact (Option.some.inj h).symm
  subst hr
  have key : a0_0 < 0 ∨ (¬ a0_0 < 0 ∧ a1_0 < 0) ∨ (¬ a0_0 < 0 ∧ ¬ a1_0 < 0 ∧ a0_1 < 1) ∨ (¬ a0_0 < 0 ∧ ¬ a1_0 < 0 ∧ ¬ a0_1 < 1 ∧ a1_1 < 1) := by omega
  clear hneg h
  rcases key with q1 | ⟨q1, q2⟩ | ⟨q1, q2, q3⟩ | ⟨q1, q2, q3, q4⟩
  all_goals
   go_enter Try.func44, Try.ntmps44
   go_wp2
   go_ret
   exact ⟨rfl, ((Below.refl _ _).alloc (Nat.le_refl _) _).alloc (by simp) _⟩
 have hrg : a0_0 ≤ 4611686018427387904 ∧ a1_0 ≤ 4611686018427387904 ∧ a0_1 ≤ 4611686018427387904 ∧ a1_1 ≤ 4611686018427387904 := by
  unfold forecourtref01_Less.f at h
  rw [if_neg hneg] at h
  split at h
  ·assumption
  cases h
 have hr : r = lessT false a0_0 a0_1 a1_0 a1_1 := by
  unfold forecourtref01_Less.f at h
  rw [if_neg hneg, if_pos hrg] at h
  exact (Option.some.inj h).symm
 have HRR := Lib.hid hr
 obtain ⟨q1, q2, q3, q4⟩ : ¬ a0_0 < 0 ∧ ¬ a1_0 < 0 ∧ ¬ a0_1 < 1 ∧ ¬ a1_1 < 1 := by omega
 have HRG := Aside0.mk hrg
 clear hneg h hr hrg
 go_enter Try.func44, Try.ntmps44
 go_wp2_with fail
 obtain ⟨V0, hV0⟩ : ∃ V, (w.alloc (.cells #[.int .i64 a0_0, .int .i64 a0_1] 39)).alloc (.cells #[.int .i64 a1_0, .int .i64 a1_1] 39) = V := ⟨_, rfl⟩
 have K0 : Aside0 (V0.heap[w.heap.size]? = some (.cells #[.int .i64 a0_0, .int .i64 a0_1] 39 (0, 0))) := ⟨by rw [← hV0]; exact blk_old (blk_new _ _)⟩
 have K1 : Aside0 (V0.heap[w.heap.size + 1]? = some (.cells #[.int .i64 a1_0, .int .i64 a1_1] 39 (0, 0))) := ⟨by rw [← hV0]; exact blk_new' (by simp)⟩
 have KB : Aside0 (Below w.heap.size w V0) := ⟨by rw [← hV0]; exact ((Below.refl _ _).alloc (Nat.le_refl _) _).alloc (by simp) _⟩
 try rw [hV0]
 clear hV0
 have HQ := Aside0.mk (show (0 ≤ a0_0 ∧ 1 ≤ a0_1) ∧ 0 ≤ a1_0 ∧ 1 ≤ a1_1 by omega)
 clear q1 q2 q3 q4
 go_loopg [5] (a0_1.toNat) (fun g v5 w' => ∃ (a b c d : Int) (t : Bool), v5 = .bool t ∧ b.toNat ≤ g ∧ w'.heap[w.heap.size]? = some (.cells #[.int .i64 a, .int .i64 b] 39 (0, 0)) ∧ w'.heap[w.heap.size + 1]? = some (.cells #[.int .i64 c, .int .i64 d] 39 (0, 0)) ∧
  0 ≤ a ∧ 1 ≤ b ∧ 0 ≤ c ∧ 1 ≤ d ∧ a ≤ 4611686018427387904 ∧ b ≤ 4611686018427387904 ∧ c ≤ 4611686018427387904 ∧ d ≤ 4611686018427387904 ∧ Aside0 (r = lessT t a b c d) ∧ Below w.heap.size w w')
 case atStart => exact ⟨_, _, _, _, _, rfl, Nat.le_refl _, K0.out, K1.out, HQ.out.1.1, HQ.out.1.2, HQ.out.2.1, HQ.out.2.2, HRG.out.1, HRG.out.2.2.1, HRG.out.2.1, HRG.out.2.2.2, ⟨HRR.out⟩, KB.out⟩
 case round =>
  obtain ⟨a, b, c, d, t, rfl, hbg, p0, p1, b1, b2, b3, b4, b5, b6, b7, b8, HL, hB⟩ := hrel
  have P0 := Aside0.mk p0
  have P1 := Aside0.mk p1
  have PB := Aside0.mk hB
  have HBG := Lib.hid hbg
  clear p0 p1 hB hbg K0 K1 KB HQ HRG HRR
  have x0 : wr.cell? ⟨w.heap.size, 0, none⟩ = some (.int .i64 a) := blk_cell P0.out 0
  have x1 : wr.cell? ⟨w.heap.size, 1, none⟩ = some (.int .i64 b) := blk_cell P0.out 1
  have y0 : wr.cell? ⟨w.heap.size + 1, 0, none⟩ = some (.int .i64 c) := blk_cell P1.out 0
  have y1 : wr.cell? ⟨w.heap.size + 1, 1, none⟩ = some (.int .i64 d) := blk_cell P1.out 1
  have z0 := blk_frozen P0.out 0
  have z1 := blk_frozen P0.out 1
  have z2 := blk_frozen P1.out 0
  have z3 := blk_frozen P1.out 1
  go_wp2_with fail
  (refine start_ (n := 12) (S := fun w' => w' = _) (ds := []) (List.toArray (false :: false :: false :: false :: false :: false :: false :: false :: false :: false :: false :: false :: [])) (by kernel_rfl) rfl rfl rfl (fun plS => ?_); clear plS; refine pureY (i := 0) (N := (some 28)) ?_; refine pureY (i := 2) (N := (some 30)) ?_; refine pureY (i := 5) (N := (some 33)) ?_; refine pureY (i := 7) (N := (some 35)) ?_; refine takeE (i := 1) (N := (some 29)) ?_; refine takeE (i := 3) (N := (some 31)) ?_; refine pureY (i := 4) (N := (some 32)) ?_; refine pureY (i := 10) (N := (some 6)) ?_; refine takeE (i := 6) (N := (some 34)) ?_; refine takeE (i := 8) (N := (some 36)) ?_; refine pureY (i := 9) (N := (some 37)) ?_; refine pureY (i := 11) (N := (some 7)) ?_; refine done_ (by kernel_rfl) ?_)
  have e1 := Int.mul_ediv_add_emod a b
  have e2 := Int.mul_ediv_add_emod c d
  have s1 := Int.emod_nonneg a (show b ≠ 0 by omega)
  have s2 := Int.emod_nonneg c (show d ≠ 0 by omega)
  have s3 := Int.emod_lt_of_pos a (show 0 < b by omega)
  have s4 := Int.emod_lt_of_pos c (show 0 < d by omega)
  have s5 : 0 ≤ a / b := Int.ediv_nonneg b1 (by omega)
  have s6 : 0 ≤ c / d := Int.ediv_nonneg b3 (by omega)
  have s7 : 0 ≤ a / b * b := Int.mul_nonneg s5 (by omega)
  have s8 : 0 ≤ c / d * d := Int.mul_nonneg s6 (by omega)
  rw [Int.mul_comm] at e1 e2
  have hle1 : a / b ≤ a := Int.ediv_le_self _ b1
  have hle2 : c / d ≤ c := Int.ediv_le_self _ b3
  have HP := Lib.hid (fun (h : a / b ≠ c / d) => lessT_parts (t := t) b2 b4 h)
  have HZ := Lib.hid (fun (h : a / b = c / d) (hz : a % b = 0 ∨ c % d = 0) => lessT_zero (t := t) b2 b4 h hz)
  have HT := Lib.hid (fun (h : a / b = c / d) => lessT_turn (t := t) h)
  obtain ⟨P, hP⟩ : ∃ P, P = a / b := ⟨_, rfl⟩
  obtain ⟨Q, hQ⟩ : ∃ Q, Q = c / d := ⟨_, rfl⟩
  obtain ⟨u, hu⟩ : ∃ u, u = a % b := ⟨_, rfl⟩
  obtain ⟨v, hv⟩ : ∃ v, v = c % d := ⟨_, rfl⟩
  rw [← hP] at e1 s5 s7 hle1 HP HZ HT
  rw [← hQ] at e2 s6 s8 hle2 HP HZ HT
  rw [← hu] at e1 s1 s3 HZ HT
  rw [← hv] at e2 s2 s4 HZ HT
  rw [← hP, ← hQ]
  clear hP hQ hu hv
  by_cases hpq : P = Q
  ·subst hpq
   have HZ2 := Aside0.mk (HZ.out rfl)
   have HT2 := Aside0.mk (HT.out rfl)
   clear HZ HT HP
   have t1 : P * b ≤ 4611686018427387904 := by omega
   have t2 : P * d ≤ 4611686018427387904 := by omega
   have t3 : a - P * b = u := by omega
   have t4 : c - P * d = v := by omega
   have T3 := Lib.hid t3
   have T4 := Lib.hid t4
   have u1 : P * b ≤ a := by omega
   have u2 : P * d ≤ c := by omega
   clear t3 t4
   go_wp2_with fail
   (refine start_ (n := 16) (S := fun w' => w' = _) (ds := []) (List.toArray (false :: false :: false :: false :: false :: false :: false :: false :: false :: false :: false :: false :: false :: false :: false :: false :: [])) (by kernel_rfl) rfl rfl rfl (fun plS => ?_); clear plS; refine pureY (i := 0) (N := (some 46)) ?_; refine pureY (i := 2) (N := (some 48)) ?_; refine pureY (i := 3) (N := (some 49)) ?_; refine pureY (i := 7) (N := (some 53)) ?_; refine pureY (i := 9) (N := (some 55)) ?_; refine pureY (i := 10) (N := (some 56)) ?_; refine takeE (i := 1) (N := (some 47)) ?_; refine takeE (i := 4) (N := (some 50)) ?_; refine pureY (i := 5) (N := (some 51)) ?_; refine pureY (i := 6) (N := (some 52)) ?_; refine pureY (i := 14) (N := (some 8)) ?_; refine takeE (i := 8) (N := (some 54)) ?_; refine takeE (i := 11) (N := (some 57)) ?_; refine pureY (i := 12) (N := (some 58)) ?_; refine pureY (i := 13) (N := (some 59)) ?_; refine pureY (i := 15) (N := (some 9)) ?_; refine done_ (by kernel_rfl) ?_)
   rw [T3.out, T4.out]
   clear e1 e2 t1 t2 T3 T4 u1 u2 s5 s6 s7 s8 hle1 hle2
   by_cases hu0 : u = 0
   ·subst hu0
    by_cases hv0 : v = 0
    ·subst hv0
     obtain rfl : r = false := by rw [HL.out, HZ2.out (.inl rfl)]; simp
     clear HL HZ2 HT2
     go_wp2
     go_ret
     exact ⟨rfl, PB.out.drew.drew⟩
    have hv1 : ((0 : Int) == v) = false := by simpa using fun e => hv0 e.symm
    have hv2 : ((0 : Int) != v) = true := by simpa using fun e => hv0 e.symm
    obtain rfl : r = !t := by rw [HL.out, HZ2.out (.inl rfl)]; simp [show (0 : Int) ≠ v from fun e => hv0 e.symm]
    clear HL HZ2 HT2
    cases t <;> go_wp2 <;> go_ret <;> exact ⟨rfl, PB.out.drew.drew⟩
   have hu1 : (u == 0) = false := by simpa using hu0
   by_cases hv0 : v = 0
   ·subst hv0
    have hu2 : (u != 0) = true := by simpa using hu0
    obtain rfl : r = t := by rw [HL.out, HZ2.out (.inr rfl)]; simp [hu0]
    clear HL HZ2 HT2
    cases r <;> go_wp2 <;> go_ret <;> exact ⟨rfl, PB.out.drew.drew⟩
   have hv1 : (v == 0) = false := by simpa using hv0
   go_wp2_with fail
   have n1 : w.heap.size ≠ w.heap.size + 1 := by omega
   have n2 : w.heap.size + 1 ≠ w.heap.size := by omega
   go_region
   have p0' := blk_put (blk_put P0.out 0 (.int .i64 b) rfl) 1 (.int .i64 u) rfl
   have p1' := (Below.heap_setCell _ ⟨w.heap.size, 1, none⟩ (.int .i64 u) _ n2).trans ((Below.heap_setCell wr ⟨w.heap.size, 0, none⟩ (.int .i64 b) _ n2).trans P1.out)
   have p2' := blk_put (blk_put p1' 0 (.int .i64 d) rfl) 1 (.int .i64 v) rfl
   have p3' := (Below.heap_setCell _ ⟨w.heap.size + 1, 1, none⟩ (.int .i64 v) _ n1).trans ((Below.heap_setCell _ ⟨w.heap.size + 1, 0, none⟩ (.int .i64 d) _ n1).trans p0')
   have PB2 := (((PB.out.setCell (p := ⟨w.heap.size, 0, none⟩) (Nat.le_refl _) (.int .i64 b)).setCell (p := ⟨w.heap.size, 1, none⟩) (Nat.le_refl _) (.int .i64 u)).setCell (p := ⟨w.heap.size + 1, 0, none⟩) (Nat.le_succ _) (.int .i64 d)).setCell (p := ⟨w.heap.size + 1, 1, none⟩) (Nat.le_succ _) (.int .i64 v)
   have Q0 := Aside0.mk p3'
   have Q1 := Aside0.mk p2'
   have QB := Aside0.mk PB2.drew.drew.drew
   clear p0' p1' p2' p3' PB2 x0 x1 y0 y1 z0 z1 z2 z3
   go_wp2
   go_roundg u.toNat
   case measure => have := HBG.out; omega
   case rel => exact ⟨b, u, d, v, !t, rfl, Nat.le_refl _, Q0.out, Q1.out, by omega, by omega, by omega, by omega, by omega, by omega, by omega, by omega, ⟨by rw [HL.out, HT2.out]⟩, QB.out⟩
  have hpb : (P == Q) = false := by simpa using hpq
  have hpn : (P != Q) = true := by simpa using hpq
  obtain rfl : r = (decide (P < Q) != t) := by rw [HL.out, HP.out hpq]
  clear HZ HT HP HL
  go_wp2
  go_ret
  exact ⟨rfl, PB.out.drew⟩
end Go.Proofs.Ytpkajhmchcbbhaa.P
end
section
namespace Go.Proofs.Ytpkajhmchcbbhaa.P
open Go Go.BigFrame Go.RowKit Go.Proofs.YtpkajhmchcbbhaaW.PrintWords Go.Proofs.YtpkajhmchcbbhaaW.PrintLast Go.Proofs.YtpkajhmchcbbhaaW.PrintMore
section
variable {P : Program} {ops : Array Oper} {o : Oper} {a : Act} {Q : Exit → Act → World → Prop} {K : Act → World → Prop} {E : Prop}
theorem step_append_any {W : World} (base : Nat) (hg : o.guard = none) (s x : Operand) (t e : TypeId) (z : Value) (size bytes : Nat)
  (ho : o.op = .call { callee := .builtin .append, args := #[s, x], argTypes := #[t, t] })
  (ht : P.underlying t = some (.slice e)) (hinfo : (P.info? e).map (fun i => (i.zero, i.size, i.bytes)) = some (some z, size, bytes)) (hz : z.cells.size = size) (hs0 : 0 < size) (hb0 : 0 < bytes)
  (v : Value) (n : Nat) (xs ys : List Value) (ad : Addr) (hs : a.eval s = v) (hx : a.eval x = .slice (some ad) 1 1) (hys : ys.length = size) (hnews : ∀ j u, ys[j]? = some u → W.cell? (ad.add j) = some u) (h1 : ∀ u ∈ ys, u.oneCell' = true)
  (HO : W.ownsRow base e size v n xs) (hbase : base ≤ W.heap.size) (hl : (n + 1) * bytes ≤ 140737488355328)
  (h : ∀ v1 w1, w1.ownsRow base e size v1 (n + 1) (xs ++ ys) → W.grownBy w1 v.ownBlock → (v1.ownBlock = v.ownBlock ∨ v1.ownBlock = some W.heap.size) → K (a.put o.dst v1) w1) :
  if Region.wanted o (yielded ops a.tmps) = true then Oper.wp P o a W K Q else E := by
 have hw : Region.wanted o (yielded ops a.tmps) = true := by simp [Region.wanted, hg]
 obtain ⟨i0, hi, hzz⟩ := Option.map_eq_some_iff.1 hinfo
 simp only [Prod.mk.injEq] at hzz
 obtain ⟨hz0, hz1, hz2⟩ := hzz
 have hlen : n + 1 ≤ 140737488355328 := Nat.le_trans (Nat.le_mul_of_pos_right _ hb0) hl
 rw [if_pos hw]
 obtain ⟨v1, w1, hr, hown, hg1, _, hat⟩ := run_append_own_at (P := P) W base t o.type e i0 z size bytes ht hi hz0 hz1 hz2 hz hs0 v n xs HO ad 1 1 ys (by rw [hys]; simp) hnews h1 (by simp only [maxLen]; omega) hl hbase
 unfold Oper.wp execOp
 simp only [ho, resolve, invoke, builtin, Sem.run_bind, Sem.run_pure, Result.andThen_ok, List.map_toArray, List.map_cons, List.map_nil, hs, hx, hr]
 exact h v1 w1 hown hg1 hat
end
end Go.Proofs.Ytpkajhmchcbbhaa.P
end
section
namespace Go.Proofs.Ytpkajhmchcbbhaa.P
open Go Go.BigFrame Go.RowKit Go.Proofs.YtpkajhmchcbbhaaW.PrintWords Go.Proofs.YtpkajhmchcbbhaaW.PrintLast Go.Proofs.YtpkajhmchcbbhaaW.PrintMore
section
variable {B : Nat} {W w1 : World} {v u : Value} {n m : Nat} {xs ys : List Int}
theorem ne_none {x : Option Nat} : x = none ∨ x ≠ none := by cases x <;> simp
variable {ops : Array Oper} {o : Oper} {a : Act} {Q : Exit → Act → World → Prop} {K : Act → World → Prop} {E : Prop}
end
end Go.Proofs.Ytpkajhmchcbbhaa.P
end
section
namespace Go.Proofs.Ytpkajhmchcbbhaa.P
open Go.RowKit Go.Proofs.YtpkajhmchcbbhaaW.PrintWords Go.Proofs.YtpkajhmchcbbhaaW.PrintLast Go.Proofs.YtpkajhmchcbbhaaW.PrintMore
attribute [local go_sem] max2_mx min2_mn max_two min_two
set_option maxRecDepth 100000 in
set_option maxHeartbeats 4000000 in
theorem truly_calls (g : Nat) (A : Option Addr) (c : Nat) (l : List SRow) (p : Int) (lo hi : List Int) (dip : Int) (w : World) (hr : Kd.C kRow w A l.length l) (hD : DipOk l) (hd0 : -100000 ≤ dip) (hd1 : dip ≤ 100000) (hp0 : 0 ≤ p) (hp1 : p ≤ 50)
  (hg : Gauge w g A l.length c p lo hi) :
  Calls Try.prog 82 #[.pointer (some ⟨g, 0, none⟩), .int .i64 dip] w fun e w' => e = .returned (.agg #[.int .i64 (trueLo l p dip), .int .i64 (trueHi l p dip)]) ∧ Below w.heap.size w w' := by
 have HR := Aside0.mk hr
 have hc0 := hg.c0
 have hc1 := hg.c1
 have hgl := hg.lt
 have n2 := hD.n2
 have n16 := hD.n16
 clear hg hr hD
 have hu1 := Try.underlying24
 have hu2 := Try.underlying70
 have hu3 := Try.underlying99
 have hu4 := Try.underlying43
 obtain ⟨ad, rfl, d0, x1, x2⟩ := row_cells HR.out 0 (by omega)
 obtain ⟨ad', had, d1, x3, x4⟩ := row_cells HR.out (l.length - 1) (by omega)
 obtain rfl := Option.some.inj had
 clear had x1 x2 x3 x4
 have i0 : (0 : Int) < l.length := by omega
 have i2 : ((l.length : Int) - 1).toNat = l.length - 1 := by omega
 have i3 : (l.length : Int) - 1 < l.length := by omega
 have i4 : (0 : Int) ≤ (l.length : Int) - 1 := by omega
 have i5 : (1 : Int) ≤ (l.length : Int) := by omega
 obtain ⟨a, ha⟩ : ∃ a, a = (l.getD 0 zRow).f0 := ⟨_, rfl⟩
 obtain ⟨b, hb⟩ : ∃ b, b = (l.getD (l.length - 1) zRow).f0 := ⟨_, rfl⟩
 rw [← ha] at d0
 rw [← hb] at d1
 replace d0 : w.cell? ad = some (.int .i64 a) := by rw [Nat.zero_mul, addr_add0] at d0; exact d0
 have H1 := Lib.hid (show trueLo l p dip = mx a (dip - p) by rw [ha]; rfl)
 have H2 := Lib.hid (show trueHi l p dip = mn b (dip + p) by rw [hb]; rfl)
 clear ha hb
 go_enter Try.func82, Try.ntmps82
 go_wp2_with fail
 obtain ⟨W1, hW1⟩ : ∃ W1, w.alloc (.cells #[.int .i64 0, .int .i64 0] 43) = W1 := ⟨_, rfl⟩
 have hB1 : Below w.heap.size w W1 := by rw [← hW1]; exact (Below.refl _ _).alloc (Nat.le_refl _) _
 have HK : Aside0 (W1.heap[w.heap.size]? = some (.cells #[.int .i64 0, .int .i64 0] 43 (0, 0))) := ⟨by rw [← hW1]; exact blk_new _ _⟩
 rw [hW1]
 replace d0 := pw_cell_below hB1 d0
 replace d1 := pw_cell_below hB1 d1
 replace hc0 := pw_cell_below hB1 hc0
 replace hc1 := pw_cell_below hB1 hc1
 have hk0 := blk_cell HK.out 0
 have hk1 := blk_cell HK.out 1
 have hkf0 := blk_frozen HK.out 0
 have hkf1 := blk_frozen HK.out 1
 have HB1 := Aside0.mk hB1
 clear hW1 hB1
 (refine start_ (n := 41) (S := fun w' => w' = _) (ds := [40]) (List.toArray (false :: false :: false :: false :: false :: false :: false :: false :: false :: false :: false :: false :: false :: false :: false :: false :: false :: false :: false :: false :: false :: false :: false :: false :: false :: false :: false :: false :: false :: false :: false :: false :: false :: false :: false :: false :: false :: false :: false :: false :: false :: [])) (by kernel_rfl) rfl rfl rfl (fun plS => ?_); clear plS; refine pureY (i := 0) (N := (some 5)) ?_; refine pureY (i := 1) (N := (some 6)) ?_; refine pureY (i := 2) (N := (some 7)) ?_; refine pureY (i := 3) (N := (some 8)) ?_; refine pureY (i := 8) (N := (some 13)) ?_; refine pureY (i := 9) (N := (some 14)) ?_; refine pureY (i := 10) (N := (some 15)) ?_; refine pureY (i := 11) (N := (some 16)) ?_; refine pureY (i := 12) (N := (some 17)) ?_; refine pureY (i := 16) (N := (some 21)) ?_; refine pureY (i := 17) (N := (some 22)) ?_; refine pureY (i := 18) (N := (some 23)) ?_; refine pureY (i := 19) (N := (some 24)) ?_; refine pureY (i := 21) (N := (some 26)) ?_; refine pureY (i := 22) (N := (some 27)) ?_; refine pureY (i := 23) (N := (some 28)) ?_; refine pureY (i := 24) (N := (some 29)) ?_; refine pureY (i := 31) (N := (some 36)) ?_; refine pureY (i := 32) (N := (some 37)) ?_; refine pureY (i := 33) (N := (some 38)) ?_; refine pureY (i := 34) (N := (some 39)) ?_; refine pureY (i := 35) (N := (some 40)) ?_; refine takeE (i := 4) (N := (some 9)) ?_; refine pureY (i := 5) (N := (some 10)) ?_; refine pureY (i := 6) (N := (some 11)) ?_; refine takeE (i := 7) (N := (some 12)) ?_; refine takeE (i := 13) (N := (some 18)) ?_; refine pureY (i := 14) (N := (some 19)) ?_; refine pureY (i := 15) (N := (some 20)) ?_; refine takeE (i := 20) (N := (some 25)) ?_; refine takeE (i := 25) (N := (some 30)) ?_; refine pureY (i := 26) (N := (some 31)) ?_; refine pureY (i := 27) (N := (some 32)) ?_; refine pureY (i := 28) (N := (some 33)) ?_; refine pureY (i := 29) (N := (some 34)) ?_; refine takeE (i := 30) (N := (some 35)) ?_; refine takeE (i := 36) (N := (some 41)) ?_; refine pureY (i := 37) (N := (some 42)) ?_; refine pureY (i := 38) (N := (some 43)) ?_; refine pureY (i := 39) (N := (some 44)) ?_; refine lastY (i := 40) (fun plK plH => ?_); rw [if_pos (by rfl)]; (first | gi_big_move | go_big_op | go_simp))
 ((try simp only [Act.put, List.getElem_toArray, List.getElem_cons_succ, List.getElem_cons_zero, List.setIfInBounds_toArray, List.set_cons_succ, List.set_cons_zero]); refine plH _ _ ?_; clear plH plK; refine done_ (by kernel_rfl) ?_)
 go_wp2
 have hfin := blk_put (blk_put HK.out 0 (.int .i64 (mx a (dip - p))) rfl) 1 (.int .i64 (mn b (dip + p))) rfl
 refine bodyPost_ret (results_arr1 rfl rfl isAggR sizeOfR (SegOk.mk' hfin 0 2 (by simp))) rfl ⟨?_, ?_⟩
 ·rw [seg_drew, seg_whole (n := 2) hfin rfl, H1.out, H2.out]
  rfl
 exact ((HB1.out.setCell (p := ⟨w.heap.size, 0, none⟩) (Nat.le_refl _) _).setCell (p := ⟨w.heap.size, 1, none⟩) (Nat.le_refl _) _).drew
end Go.Proofs.Ytpkajhmchcbbhaa.P
end
section
namespace Go.Proofs.Ytpkajhmchcbbhaa.P
open Go.RowKit Go.Proofs.YtpkajhmchcbbhaaW.PrintWords Go.Proofs.YtpkajhmchcbbhaaW.PrintLast Go.Proofs.YtpkajhmchcbbhaaW.PrintMore
attribute [local go_sem ↓] exec_load97 exec_store97 sem_load97 sem_store97
attribute [local go_sem] load97_at store97_at SegOk_alloc seg_alloc SegOk_drew seg_drew SegOk_drewN seg_drewN ints_size Ones_ints store97_new store97_newD
theorem wts_within2 {l : List SRow} (h : DipOk l) (dip : Int) (h0 : 0 ≤ dip) (h1 : dip ≤ 4000) : ∀ x, x ∈ wts l dip → -100000000 ≤ x ∧ x ≤ 100000000 := by
 intro x hx
 obtain ⟨i, hi, rfl⟩ := List.getElem_of_mem hx
 have := wts_within h dip h0 h1 i (by rw [wts_length] at hi; exact hi)
 rw [List.getD_eq_getElem?_getD, List.getElem?_eq_getElem hi] at this
 simp only [Option.getD_some] at this
 omega
set_option maxRecDepth 100000 in
set_option maxHeartbeats 40000000 in
theorem chart_Below.calls (A0_0 : Option Addr) (c0_0 : Nat) (l0_0 : List SRow) (a0_1 : Int) (A1 : Option Addr) (c1 : Nat) (l1 : List Int) (a2 : Int) (r1 : Int) (r2 : Int) (r3 : Int) (w : World) (hr0_0 : Kd.C kRow w A0_0 l0_0.length l0_0) (hc0_0 : l0_0.length ≤ c0_0) (hr1 : Kd.C (Kd.int .i64) w A1 l1.length l1) (hc1 : l1.length ≤ c1) (h : chart_Below.f l0_0 a0_1 l1 a2 = some (r1, r2, r3)) :
  Calls Try.prog 26 #[.agg #[.slice A0_0 l0_0.length c0_0, .int .i64 a0_1], .slice A1 l1.length c1, .int .i64 a2] w fun e w' => e = .returned (.tuple #[.agg #[.int .i64 r1, .int .i64 r2], .int .i64 r3]) ∧ Below w.heap.size w w' := by
 have HE := Aside0.mk (Option.some.inj h)
 have HR := Aside0.mk hr0_0
 have HC := Aside0.mk hc0_0
 have HR1 := Aside0.mk hr1
 have HC1 := Aside0.mk hc1
 obtain ⟨kc, hkc⟩ := checkChart_some l0_0 a0_1 l1
 have HKC := Aside0.mk hkc
 clear h hr0_0 hc0_0 hr1 hc1 hkc
 have hu1 := Try.underlying24
 have hu2 := Try.underlying70
 have hu5 := Try.underlying97
 have hu8 := Try.underlying39
 go_enter Try.func26, Try.ntmps26
 go_wp2_with fail
 obtain ⟨V0, hV0⟩ : ∃ V, (w.alloc (.cells #[.slice A0_0 l0_0.length c0_0, .int .i64 a0_1] 24)).alloc (.cells #[.int .i64 0, .int .i64 0] 39) = V := ⟨_, rfl⟩
 have K0 : Aside0 (V0.heap[w.heap.size]? = some (.cells #[.slice A0_0 l0_0.length c0_0, .int .i64 a0_1] 24 (0, 0))) := ⟨by rw [← hV0]; exact blk_old (blk_new _ _)⟩
 have K1 : Aside0 (V0.heap[w.heap.size + 1]? = some (.cells #[.int .i64 0, .int .i64 0] 39 (0, 0))) := ⟨by rw [← hV0]; exact blk_new' (by simp)⟩
 have KB : Aside0 (Below w.heap.size w V0) := ⟨by rw [← hV0]; exact ((Below.refl _ _).alloc (Nat.le_refl _) _).alloc (by simp) _⟩
 rw [hV0]
 clear hV0
 refine (chart_CheckChart.calls kc A0_0 c0_0 l0_0 a0_1 A1 c1 l1 (checkChart l0_0 a0_1 l1) _ (Kd.C_below HR.out KB.out) HC.out (Kd.C_below HR1.out KB.out) HC1.out HKC.out).mono ?_
 rintro e w1 ⟨rfl, hB1⟩
 have M0 := Aside0.mk (below_blk hB1 K0.out (blk_lt K0.out))
 have M1 := Aside0.mk (below_blk hB1 K1.out (blk_lt K1.out))
 have MB := Aside0.mk (below_then KB.out hB1)
 clear hB1 K0 K1 KB V0
 have x0 : w1.cell? ⟨w.heap.size, 0, none⟩ = some (.slice A0_0 l0_0.length c0_0) := blk_cell M0.out 0
 have x1 : w1.cell? ⟨w.heap.size, 1, none⟩ = some (.int .i64 a0_1) := blk_cell M0.out 1
 have y0 : w1.cell? ⟨w.heap.size + 1, 0, none⟩ = some (.int .i64 0) := blk_cell M1.out 0
 have y1 : w1.cell? ⟨w.heap.size + 1, 1, none⟩ = some (.int .i64 0) := blk_cell M1.out 1
 have z0 := blk_frozen M1.out 0
 have z1 := blk_frozen M1.out 1
 by_cases h0 : checkChart l0_0 a0_1 l1 = 0
 ·obtain ⟨hct, hlen, _, hin⟩ := checkChart_spec h0
  have hT := tankOk_of hct
  have HT := Aside0.mk hT
  have HIN := Aside0.mk hin
  have HLEN := Lib.hid hlen
  have HE2 := Aside0.mk (HE.out.symm.trans (by rw [if_neg (by rw [h0]; simp)]))
  rw [h0]
  have n2 : 2 ≤ l0_0.length := hT.n2
  have n16 : l0_0.length ≤ 16 := hT.n16
  clear h0 hct hT HE hin hlen
  obtain ⟨ad, rfl, d0, _, _⟩ := row_cells HR.out 0 (by omega)
  obtain ⟨ad', had, e0, _, _⟩ := row_cells HR.out (l0_0.length - 1) (by omega)
  obtain rfl := Option.some.inj had
  clear had
  replace d0 := pw_cell_below MB.out d0
  replace e0 := pw_cell_below MB.out e0
  have i1 : (0 : Int) < l0_0.length := by omega
  have i2 : ((l0_0.length - 1 : Nat) : Int) = (l0_0.length : Int) - 1 := by omega
  have i3 : (l0_0.length : Int) - 1 < l0_0.length := by omega
  have i4 : (0 : Int) ≤ (l0_0.length : Int) - 1 := by omega
  have i5 : ((l0_0.length : Int) - 1).toNat = l0_0.length - 1 := by omega
  obtain ⟨a, ha⟩ : ∃ a, a = (l0_0.getD 0 zRow).f0 := ⟨_, rfl⟩
  obtain ⟨b, hb⟩ : ∃ b, b = (l0_0.getD (l0_0.length - 1) zRow).f0 := ⟨_, rfl⟩
  rw [← ha] at d0
  rw [← hb] at e0
  replace d0 : w1.cell? ad = some (.int .i64 a) := by rw [Nat.zero_mul, addr_add0] at d0; exact d0
  have HA := Lib.hid (show firstD l0_0 = a by rw [ha]; rfl)
  have HB := Lib.hid (show lastD l0_0 = b by rw [hb]; rfl)
  clear ha hb
  go_wp2_with fail
  (refine start_ (n := 18) (S := fun w' => Below (World.heap _).size _ w') (ds := []) (List.toArray (false :: false :: false :: false :: false :: false :: false :: false :: false :: false :: false :: false :: false :: false :: false :: false :: false :: false :: [])) (by kernel_rfl) rfl rfl (belowDrew _) (fun plS => ?_); refine pureY (i := 0) (N := (some 19)) ?_; refine pureY (i := 5) (N := (some 24)) ?_; refine pureY (i := 7) (N := (some 26)) ?_; refine pureY (i := 14) (N := (some 33)) ?_; refine takeF (i := 1) (N := (some 20)) (hS := plS) (hy := by (intro w' hw'; replace hw' : Below (World.heap w1).size w1 w' := hw'; have q0 := pw_cell_below hw' x1; have q1 := pw_cell_below hw' y0; have q2 := pw_cell_below hw' y1; have q3 := pw_cell_below hw' x0; have q4 := pw_cell_below hw' e0; have q5 := pw_cell_below hw' d0; exact yieldA)) (h := ?_); refine pureY (i := 2) (N := (some 21)) ?_; refine pureY (i := 3) (N := (some 22)) ?_; refine takeF (i := 4) (N := (some 23)) (hS := plS) (hy := by (intro w' hw'; replace hw' : Below (World.heap w1).size w1 w' := hw'; have q0 := pw_cell_below hw' x1; have q1 := pw_cell_below hw' y0; have q2 := pw_cell_below hw' y1; have q3 := pw_cell_below hw' x0; have q4 := pw_cell_below hw' e0; have q5 := pw_cell_below hw' d0; exact yieldA)) (h := ?_); refine takeF (i := 6) (N := (some 25)) (hS := plS) (hy := by (intro w' hw'; replace hw' : Below (World.heap w1).size w1 w' := hw'; have q0 := pw_cell_below hw' x1; have q1 := pw_cell_below hw' y0; have q2 := pw_cell_below hw' y1; have q3 := pw_cell_below hw' x0; have q4 := pw_cell_below hw' e0; have q5 := pw_cell_below hw' d0; exact yieldA)) (h := ?_); refine takeF (i := 8) (N := (some 27)) (hS := plS) (hy := by (intro w' hw'; replace hw' : Below (World.heap w1).size w1 w' := hw'; have q0 := pw_cell_below hw' x1; have q1 := pw_cell_below hw' y0; have q2 := pw_cell_below hw' y1; have q3 := pw_cell_below hw' x0; have q4 := pw_cell_below hw' e0; have q5 := pw_cell_below hw' d0; exact yieldA)) (h := ?_); refine pureY (i := 9) (N := (some 28)) ?_; refine pureY (i := 10) (N := (some 29)) ?_; refine pureY (i := 11) (N := (some 30)) ?_; refine pureY (i := 12) (N := (some 31)) ?_; refine takeF (i := 13) (N := (some 32)) (hS := plS) (hy := by (intro w' hw'; replace hw' : Below (World.heap w1).size w1 w' := hw'; have q0 := pw_cell_below hw' x1; have q1 := pw_cell_below hw' y0; have q2 := pw_cell_below hw' y1; have q3 := pw_cell_below hw' x0; have q4 := pw_cell_below hw' e0; have q5 := pw_cell_below hw' d0; exact yieldA)) (h := ?_); refine oneY (i := 15) (fun plK plH => ?_); rw [if_pos (by rfl)]; (first | gi_big_move | go_big_op | go_simp))
  have hBx := ((Below.refl w1.heap.size w1).alloc (Nat.le_refl _) (.cells #[.int .i64 a2] 2)).drew
  ((try simp only [Act.put, List.getElem_toArray, List.getElem_cons_succ, List.getElem_cons_zero, List.setIfInBounds_toArray, List.set_cons_succ, List.set_cons_zero]); refine plH _ _ hBx (fun plS => ?_); clear plH plK; refine oneY (i := 16) (fun plK plH => ?_); rw [if_pos (by rfl)]; (first | gi_big_move | go_big_op | go_simp))
  have hBc := (MB.out.alloc MB.out.size (.cells #[.int .i64 a2] 2)).drew
  refine (chart_within.calls a b (some ⟨w1.heap.size, 0, none⟩) 1 [a2] (inB a b a2) ((w1.alloc (.cells #[.int .i64 a2] 2)).drew) (C_arr (l := [a2]) (show (w1.alloc (.cells #[.int .i64 a2] 2)).drew.heap[w1.heap.size]? = _ from blk_new _ _) (by simp)) (by simp) (by simp [chart_within.f])).mono ?_
  rintro e w2 ⟨rfl, hB2⟩
  have N0 := Aside0.mk (below_blk hB2 (show (w1.alloc (.cells #[.int .i64 a2] 2)).drew.heap[w.heap.size]? = _ from blk_old M0.out) (by have := blk_lt M0.out; simp; omega))
  have N1 := Aside0.mk (below_blk hB2 (show (w1.alloc (.cells #[.int .i64 a2] 2)).drew.heap[w.heap.size + 1]? = _ from blk_old M1.out) (by have := blk_lt M1.out; simp; omega))
  have NB := Aside0.mk (below_then hBc hB2)
  have hBy : Below w1.heap.size w1 w2 := below_then hBx hB2
  clear hBc hB2 M0 M1 MB y0 y1 z0 z1
  ((try simp only [Act.put, List.getElem_toArray, List.getElem_cons_succ, List.getElem_cons_zero, List.setIfInBounds_toArray, List.set_cons_succ, List.set_cons_zero]); refine plH _ _ hBy (fun plS => ?_); clear plH plK; refine pureY (i := 17) (N := (some 36)) ?_; refine done_ (by kernel_rfl) ?_)
  clear x0 x1 d0 e0 hBx hBy
  have x0 : w2.cell? ⟨w.heap.size, 0, none⟩ = some (.slice (some ad) l0_0.length c0_0) := blk_cell N0.out 0
  have x1 : w2.cell? ⟨w.heap.size, 1, none⟩ = some (.int .i64 a0_1) := blk_cell N0.out 1
  cases hin : inB a b a2 with
  | false =>
   have y0 : w2.cell? ⟨w.heap.size + 1, 0, none⟩ = some (.int .i64 0) := blk_cell N1.out 0
   have y1 : w2.cell? ⟨w.heap.size + 1, 1, none⟩ = some (.int .i64 0) := blk_cell N1.out 1
   have z0 := blk_frozen N1.out 0
   have z1 := blk_frozen N1.out 1
   obtain ⟨rfl, rfl, rfl⟩ : r1 = 0 ∧ r2 = 0 ∧ r3 = 3 := by
    have := HE2.out
    rw [HA.out, HB.out, hin] at this
    simpa using this
   clear hin HE2
   go_wp2
   have hf := blk_put (blk_put N1.out 0 (.int .i64 0) rfl) 1 (.int .i64 0) rfl
   refine bodyPost_ret (results_arr2 rfl rfl isAggQ sizeOfQ (SegOk.mk' hf 0 2 (by simp))) rfl ⟨?_, ?_⟩
   ·rw [seg_whole (n := 2) hf rfl]; rfl
   exact (NB.out.setCell (p := ⟨w.heap.size + 1, 0, none⟩) (Nat.le_succ _) _).setCell (p := ⟨w.heap.size + 1, 1, none⟩) (Nat.le_succ _) _
  | true =>
   have hin2 := (inB_iff a b a2).1 hin
   have HE3 := Aside0.mk (show (leastN (dot (wts l0_0 a2) l1) (wden l0_0 a2), leastD (dot (wts l0_0 a2) l1) (wden l0_0 a2), (0 : Int)) = (r1, r2, r3) by
    have := HE2.out
    rw [HA.out, HB.out, hin, if_neg (by simp)] at this
    exact this.symm)
   have hfl := HT.out.first_last
   rw [HA.out, HB.out] at hfl
   have d0 : 0 ≤ a2 := by omega
   have d1 : a2 ≤ 4000 := by omega
   clear hin HE2 hin2 hfl
   go_wp2_with fail
   refine (newGauge_calls (some ad) c0_0 l0_0 a0_1 _ (Kd.C_below HR.out NB.out) n16).mono ?_
   rintro e w3 ⟨g, rfl, hg0, hG, hB3⟩
   have N1' := Aside0.mk (below_blk hB3 N1.out (blk_lt N1.out))
   have NB' := Aside0.mk (below_then NB.out hB3)
   clear N0 N1 NB x0 x1 hB3
   go_wp2_with fail
   refine (weigh_calls g (some ad) c0_0 l0_0 a0_1 _ _ a2 w3 (Kd.C_below HR.out NB'.out) HT.out.dipOk (by omega) (by omega) hG).mono ?_
   rintro e w4 ⟨rfl, hB4⟩
   have P1 := Aside0.mk (below_blk hB4 N1'.out (blk_lt N1'.out))
   have PB := Aside0.mk (below_then NB'.out hB4)
   clear hB4 N1' NB' hG hg0
   have hwl := wts_length l0_0 a2
   have HWB := Aside0.mk (wts_within2 HT.out.dipOk a2 d0 d1)
   have hwd := wden_within HT.out.dipOk a2
   have hwp := HT.out.wden_pos a2
   obtain ⟨W, hW⟩ : ∃ W, W = wts l0_0 a2 := ⟨_, rfl⟩
   obtain ⟨den, hdn⟩ : ∃ den, den = wden l0_0 a2 := ⟨_, rfl⟩
   rw [← hW] at hwl HWB HE3 ⊢
   rw [← hdn] at hwd hwp HE3 ⊢
   clear hW hdn
   have hS1 := SegOk.mk' (blk_new w4 (.cells (ints W) 97)) 0 16 (by simp [ints, hwl])
   have hV1 := seg_whole (n := 16) (blk_new w4 (.cells (ints W) 97)) (by simp [ints, hwl])
   go_wp2_with fail
   clear hS1 hV1
   have hBd := PB.out.alloc PB.out.size (.cells (ints W) 97)
   have hll := HLEN.out
   refine (sum_calls W hwl HWB.out A1 c1 l1 (by omega) (fun x hx => by have := HIN.out x hx; omega) _ (Kd.C_below HR1.out hBd)).mono ?_
   rintro e w5 ⟨rfl, hB5⟩
   have hdb := dot_within W l1 HWB.out (fun x hx => by have := HIN.out x hx; omega)
   obtain ⟨S, hS⟩ : ∃ S, S = dot W l1 := ⟨_, rfl⟩
   rw [← hS] at hdb HE3 ⊢
   clear hS
   have hdb1 : -1600000000000000 ≤ S ∧ S ≤ 1600000000000000 := by omega
   have P1' := Aside0.mk (below_blk hB5 (blk_old P1.out) (by have := blk_lt P1.out; simp; omega))
   have PB' := Aside0.mk (below_then hBd hB5)
   clear hdb hBd hB5 P1 PB hll
   go_wp2_with fail
   refine (least_calls S den (by omega) (by omega) (by omega) _).mono ?_
   rintro e w6 ⟨rfl, hB6⟩
   have R1 := Aside0.mk (below_blk hB6 P1'.out (blk_lt P1'.out))
   have RB := Aside0.mk (below_then PB'.out hB6)
   clear hB6 P1' PB'
   have y0 : w6.cell? ⟨w.heap.size + 1, 0, none⟩ = some (.int .i64 0) := blk_cell R1.out 0
   have y1 : w6.cell? ⟨w.heap.size + 1, 1, none⟩ = some (.int .i64 0) := blk_cell R1.out 1
   have z0 := blk_frozen R1.out 0
   have z1 := blk_frozen R1.out 1
   have he := HE3.out
   simp only [Prod.mk.injEq] at he
   obtain ⟨h1, h2, rfl⟩ := he
   rw [h1, h2]
   clear HE3 h1 h2
   go_wp2
   have hf := blk_put (blk_put R1.out 0 (.int .i64 r1) rfl) 1 (.int .i64 r2) rfl
   refine bodyPost_ret (results_arr2 rfl rfl isAggQ sizeOfQ (SegOk.mk' hf 0 2 (by simp))) rfl ⟨?_, ?_⟩
   ·rw [seg_whole (n := 2) hf rfl]; rfl
   exact (RB.out.setCell (p := ⟨w.heap.size + 1, 0, none⟩) (Nat.le_succ _) _).setCell (p := ⟨w.heap.size + 1, 1, none⟩) (Nat.le_succ _) _
 have H0 := Lib.hid h0
 have hb : ((checkChart l0_0 a0_1 l1) == 0) = false := by simpa using h0
 have hb' : ((checkChart l0_0 a0_1 l1) != 0) = true := by simpa using h0
 obtain ⟨rfl, rfl, rfl⟩ : r1 = 0 ∧ r2 = 0 ∧ r3 = checkChart l0_0 a0_1 l1 := by
  have := HE.out
  rw [if_pos h0] at this
  simp only [Prod.mk.injEq] at this
  exact ⟨this.1.symm, this.2.1.symm, this.2.2.symm⟩
 clear HE
 go_wp2
 have hf := blk_put (blk_put M1.out 0 (.int .i64 0) rfl) 1 (.int .i64 0) rfl
 refine bodyPost_ret (results_arr2 rfl rfl isAggQ sizeOfQ (SegOk.mk' hf 0 2 (by simp))) rfl ⟨?_, ?_⟩
 ·rw [seg_whole (n := 2) hf rfl]; rfl
 exact (MB.out.setCell (p := ⟨w.heap.size + 1, 0, none⟩) (Nat.le_succ _) _).setCell (p := ⟨w.heap.size + 1, 1, none⟩) (Nat.le_succ _) _
end Go.Proofs.Ytpkajhmchcbbhaa.P
end
section
namespace Go.Proofs.Ytpkajhmchcbbhaa.P
open Go.RowKit Go.Proofs.YtpkajhmchcbbhaaW.PrintWords Go.Proofs.YtpkajhmchcbbhaaW.PrintLast Go.Proofs.YtpkajhmchcbbhaaW.PrintMore
attribute [local go_sem] max2_mx min2_mn max_two min_two
set_option maxRecDepth 100000 in
set_option maxHeartbeats 40000000 in
theorem chart_Metered.calls (A0_0 : Option Addr) (c0_0 : Nat) (l0_0 : List SRow) (a0_1 : Int) (a1 : Int) (a2 : Int) (r1 : Int) (r2 : Int) (r3 : Int) (w : World) (hr0_0 : Kd.C kRow w A0_0 l0_0.length l0_0) (hc0_0 : l0_0.length ≤ c0_0) (h : chart_Metered.f l0_0 a0_1 a1 a2 = some (r1, r2, r3)) :
  Calls Try.prog 28 #[.agg #[.slice A0_0 l0_0.length c0_0, .int .i64 a0_1], .int .i64 a1, .int .i64 a2] w fun e w' => e = .returned (.tuple #[.agg #[.int .i64 r1, .int .i64 r2], .int .i64 r3]) ∧ Below w.heap.size w w' := by
 have HE := Aside0.mk (Option.some.inj h)
 have HR := Aside0.mk hr0_0
 have HC := Aside0.mk hc0_0
 clear h hr0_0 hc0_0
 have hu1 := Try.underlying24
 have hu2 := Try.underlying70
 have hu3 := Try.underlying99
 have hu4 := Try.underlying43
 have hu5 := Try.underlying97
 go_enter Try.func28, Try.ntmps28
 go_wp2_with fail
 obtain ⟨V0, hV0⟩ : ∃ V, (w.alloc (.cells #[.slice A0_0 l0_0.length c0_0, .int .i64 a0_1] 24)).alloc (.cells #[.int .i64 0, .int .i64 0] 43) = V := ⟨_, rfl⟩
 have K0 : Aside0 (V0.heap[w.heap.size]? = some (.cells #[.slice A0_0 l0_0.length c0_0, .int .i64 a0_1] 24 (0, 0))) := ⟨by rw [← hV0]; exact blk_old (blk_new _ _)⟩
 have K1 : Aside0 (V0.heap[w.heap.size + 1]? = some (.cells #[.int .i64 0, .int .i64 0] 43 (0, 0))) := ⟨by rw [← hV0]; exact blk_new' (by simp)⟩
 have KB : Aside0 (Below w.heap.size w V0) := ⟨by rw [← hV0]; exact ((Below.refl _ _).alloc (Nat.le_refl _) _).alloc (by simp) _⟩
 rw [hV0]
 clear hV0
 refine (chart_CheckTank.calls A0_0 c0_0 l0_0 a0_1 (checkTank l0_0 a0_1) _ (Kd.C_below HR.out KB.out) HC.out rfl).mono ?_
 rintro e w1 ⟨rfl, hB1⟩
 have M0 := Aside0.mk (below_blk hB1 K0.out (blk_lt K0.out))
 have M1 := Aside0.mk (below_blk hB1 K1.out (blk_lt K1.out))
 have MB := Aside0.mk (below_then KB.out hB1)
 clear hB1 K0 K1 KB V0
 have x0 : w1.cell? ⟨w.heap.size, 0, none⟩ = some (.slice A0_0 l0_0.length c0_0) := blk_cell M0.out 0
 have x1 : w1.cell? ⟨w.heap.size, 1, none⟩ = some (.int .i64 a0_1) := blk_cell M0.out 1
 have y0 : w1.cell? ⟨w.heap.size + 1, 0, none⟩ = some (.int .i64 0) := blk_cell M1.out 0
 have y1 : w1.cell? ⟨w.heap.size + 1, 1, none⟩ = some (.int .i64 0) := blk_cell M1.out 1
 have z0 := blk_frozen M1.out 0
 have z1 := blk_frozen M1.out 1
 have HBZ : Aside0 (Below w.heap.size w ((w1.setCell ⟨w.heap.size + 1, 0, none⟩ (.int .i64 0)).setCell ⟨w.heap.size + 1, 1, none⟩ (.int .i64 0))) := ⟨(MB.out.setCell (p := ⟨w.heap.size + 1, 0, none⟩) (Nat.le_succ _) _).setCell (p := ⟨w.heap.size + 1, 1, none⟩) (Nat.le_succ _) _⟩
 have HFZ := Aside0.mk (blk_put (blk_put M1.out 0 (.int .i64 0) rfl) 1 (.int .i64 0) rfl)
 have hzero : ∀ (tmps : Array Value) (r3 : Int), tmps.getD 6 undef = .pointer (some ⟨w.heap.size + 1, 0, none⟩) → tmps.getD 7 undef = .int .i64 r3 →
   (results Try.f28 tmps).run Try.prog ((w1.setCell ⟨w.heap.size + 1, 0, none⟩ (.int .i64 0)).setCell ⟨w.heap.size + 1, 1, none⟩ (.int .i64 0)) = .ok (.tuple #[.agg #[.int .i64 0, .int .i64 0], .int .i64 r3]) ((w1.setCell ⟨w.heap.size + 1, 0, none⟩ (.int .i64 0)).setCell ⟨w.heap.size + 1, 1, none⟩ (.int .i64 0)) := fun tmps r3 h6 h7 => by
  rw [results_arr2 rfl h6 isAggR sizeOfR (SegOk.mk' HFZ.out 0 2 (by simp)), seg_whole (n := 2) HFZ.out rfl, h7]
  rfl
 have HZ := Aside0.mk hzero
 clear hzero
 by_cases h0 : checkTank l0_0 a0_1 = 0
 ·have H0 := Lib.hid h0
  have hT := tankOk_of h0
  have n16 : (l0_0.length : Int) ≤ 16 := by have := hT.n16; omega
  have HT := Aside0.mk hT
  have HE2 := Aside0.mk (HE.out.symm.trans (by rw [if_neg (by rw [h0]; simp)]))
  rw [h0]
  clear h0 hT HE
  by_cases hrg : a1 < 0 ∨ (l0_0.length : Int) ≤ a1 ∨ a2 < 0 ∨ (l0_0.length : Int) ≤ a2
  ·have HE3 := Aside0.mk (HE2.out.trans (if_pos hrg))
   obtain ⟨rfl, rfl, rfl⟩ : r1 = 0 ∧ r2 = 0 ∧ r3 = 3 := by simpa using HE3.out
   have key : a1 < 0 ∨ (¬ a1 < 0 ∧ (l0_0.length : Int) ≤ a1) ∨ (¬ a1 < 0 ∧ ¬ (l0_0.length : Int) ≤ a1 ∧ a2 < 0) ∨ (¬ a1 < 0 ∧ ¬ (l0_0.length : Int) ≤ a1 ∧ ¬ a2 < 0 ∧ (l0_0.length : Int) ≤ a2) := by omega
   clear hrg HE2 HE3
   rcases key with q1 | ⟨q1, q2⟩ | ⟨q1, q2, q3⟩ | ⟨q1, q2, q3, q4⟩ <;> go_wp2
   all_goals exact bodyPost_ret (HZ.out _ _ rfl rfl) rfl ⟨rfl, HBZ.out⟩
  have HE3 := Aside0.mk (HE2.out.trans (if_neg hrg))
  obtain ⟨q1, q2, q3, q4⟩ : ¬ a1 < 0 ∧ ¬ (l0_0.length : Int) ≤ a1 ∧ ¬ a2 < 0 ∧ ¬ (l0_0.length : Int) ≤ a2 := by omega
  clear hrg HE2
  by_cases hgt : a2 < a1
  ·obtain ⟨rfl, rfl, rfl⟩ : r1 = 0 ∧ r2 = 0 ∧ r3 = 2 := by simpa [hgt] using HE3.out
   go_wp2
   exact bodyPost_ret (HZ.out _ _ rfl rfl) rfl ⟨rfl, HBZ.out⟩
  have HE4 := Aside0.mk (HE3.out.trans (if_neg hgt))
  clear HE3
  go_wp2_with fail
  refine (open_calls A0_0 c0_0 l0_0 a0_1 none 0 [] w1 (Kd.C_below HR.out MB.out) HC.out (C_none _) (Nat.le_refl _)).mono ?_
  rintro e w2 ⟨hB2, hO⟩
  have N1 := Aside0.mk (below_blk hB2 M1.out (blk_lt M1.out))
  have NB := Aside0.mk (below_then MB.out hB2)
  clear hB2 M0 M1 MB x0 x1 y0 y1 z0 z1 HBZ HFZ HZ
  have y0 : w2.cell? ⟨w.heap.size + 1, 0, none⟩ = some (.int .i64 0) := blk_cell N1.out 0
  have y1 : w2.cell? ⟨w.heap.size + 1, 1, none⟩ = some (.int .i64 0) := blk_cell N1.out 1
  have z0 := blk_frozen N1.out 0
  have z1 := blk_frozen N1.out 1
  have HBZ : Aside0 (Below w.heap.size w ((w2.setCell ⟨w.heap.size + 1, 0, none⟩ (.int .i64 0)).setCell ⟨w.heap.size + 1, 1, none⟩ (.int .i64 0))) := ⟨(NB.out.setCell (p := ⟨w.heap.size + 1, 0, none⟩) (Nat.le_succ _) _).setCell (p := ⟨w.heap.size + 1, 1, none⟩) (Nat.le_succ _) _⟩
  have HFZ := Aside0.mk (blk_put (blk_put N1.out 0 (.int .i64 0) rfl) 1 (.int .i64 0) rfl)
  have hzero : ∀ (tmps : Array Value) (r3 : Int), tmps.getD 6 undef = .pointer (some ⟨w.heap.size + 1, 0, none⟩) → tmps.getD 7 undef = .int .i64 r3 →
    (results Try.f28 tmps).run Try.prog ((w2.setCell ⟨w.heap.size + 1, 0, none⟩ (.int .i64 0)).setCell ⟨w.heap.size + 1, 1, none⟩ (.int .i64 0)) = .ok (.tuple #[.agg #[.int .i64 0, .int .i64 0], .int .i64 r3]) ((w2.setCell ⟨w.heap.size + 1, 0, none⟩ (.int .i64 0)).setCell ⟨w.heap.size + 1, 1, none⟩ (.int .i64 0)) := fun tmps r3 h6 h7 => by
   rw [results_arr2 rfl h6 isAggR sizeOfR (SegOk.mk' HFZ.out 0 2 (by simp)), seg_whole (n := 2) HFZ.out rfl, h7]
   rfl
  have HZ := Aside0.mk hzero
  clear hzero
  have hoe : openE l0_0 a0_1 [] = if tightOk l0_0 then 0 else 21 := by
   unfold openE
   rw [if_neg (by rw [H0.out]; simp)]
   simp
  have HOE := Lib.hid hoe
  clear hoe
  rcases hO with ⟨hne, rfl⟩ | ⟨heq, g, rfl, hg0, hG⟩
  ·have ht : tightOk l0_0 = false := by
    rw [HOE.out] at hne
    cases hq : tightOk l0_0 <;> simp [hq] at hne ⊢
   have ho : openE l0_0 a0_1 [] = 21 := by rw [HOE.out, ht]; rfl
   obtain ⟨rfl, rfl, rfl⟩ : r1 = 0 ∧ r2 = 0 ∧ r3 = 21 := by simpa [ht] using HE4.out
   rw [ho]
   clear ho ht hne HOE
   go_wp2
   exact bodyPost_ret (HZ.out _ _ rfl rfl) rfl ⟨rfl, HBZ.out⟩
  have ht : tightOk l0_0 = true := by
   rw [HOE.out] at heq
   cases hq : tightOk l0_0 <;> simp [hq] at heq ⊢
  have HE5 := Aside0.mk (HE4.out.trans (if_neg (by rw [ht]; simp)))
  clear heq ht HOE HE4
  by_cases heq : a1 = a2
  ·subst heq
   obtain ⟨rfl, rfl, rfl⟩ : r1 = 0 ∧ r2 = 0 ∧ r3 = 0 := by simpa using HE5.out
   go_wp2
   exact bodyPost_ret (HZ.out _ _ rfl rfl) rfl ⟨rfl, HBZ.out⟩
  have HE6 := Aside0.mk (HE5.out.trans (if_neg heq))
  have hne : (a1 == a2) = false := by simpa using heq
  clear HE5 HZ HBZ HFZ
  obtain ⟨i, rfl⟩ : ∃ i : Nat, a1 = i := ⟨a1.toNat, by omega⟩
  obtain ⟨k, rfl⟩ : ∃ k : Nat, a2 = k := ⟨a2.toNat, by omega⟩
  have hi : i < l0_0.length := by omega
  have hk : k < l0_0.length := by omega
  have h16 := HT.out.n16
  have c1 := hG.cl i (by omega)
  have c2 := hG.cl k (by omega)
  have c3 := hG.ch i (by omega)
  have c4 := hG.ch k (by omega)
  rw [LowAt_get l0_0 i hi h16] at c1
  rw [LowAt_get l0_0 k hk h16] at c2
  rw [HighAt_get l0_0 i hi h16] at c3
  rw [HighAt_get l0_0 k hk h16] at c4
  have e1 := HT.out.lowN_in i hi
  have e2 := HT.out.lowN_in k hk
  have e3 := HT.out.highN_in i hi
  have e4 := HT.out.highN_in k hk
  have hgl := hG.lt
  have HE7 := Aside0.mk (show (mx 0 (lowN l0_0 k - highN l0_0 i), highN l0_0 k - lowN l0_0 i, 0) = (r1, r2, r3) by rw [HE6.out, Int.toNat_natCast, Int.toNat_natCast])
  obtain ⟨u1, hu1'⟩ : ∃ u, u = lowN l0_0 i := ⟨_, rfl⟩
  obtain ⟨u2, hu2'⟩ : ∃ u, u = lowN l0_0 k := ⟨_, rfl⟩
  obtain ⟨u3, hu3'⟩ : ∃ u, u = highN l0_0 i := ⟨_, rfl⟩
  obtain ⟨u4, hu4'⟩ : ∃ u, u = highN l0_0 k := ⟨_, rfl⟩
  rw [← hu1'] at c1 e1 HE7
  rw [← hu2'] at c2 e2 HE7
  rw [← hu3'] at c3 e3 HE7
  rw [← hu4'] at c4 e4 HE7
  obtain ⟨e1a, e1b, _⟩ := e1
  obtain ⟨e2a, e2b, _⟩ := e2
  obtain ⟨e3a, e3b⟩ := e3
  obtain ⟨e4a, e4b⟩ := e4
  have i16 : i < 16 := by omega
  have k16 : k < 16 := by omega
  clear hu1' hu2' hu3' hu4' hG HE6 HT H0 hi hk
  go_wp2_with fail
  (refine start_ (n := 30) (S := fun w' => w' = _) (ds := [28]) (List.toArray (false :: false :: false :: false :: false :: false :: false :: false :: false :: false :: false :: false :: false :: false :: false :: false :: false :: false :: false :: false :: false :: false :: false :: false :: false :: false :: false :: false :: false :: false :: [])) (by kernel_rfl) rfl rfl rfl (fun plS => ?_); clear plS; refine pureY (i := 0) (N := (some 58)) ?_; refine pureY (i := 1) (N := (some 59)) ?_; refine pureY (i := 2) (N := (some 60)) ?_; refine pureY (i := 3) (N := (some 61)) ?_; refine pureY (i := 4) (N := (some 62)) ?_; refine pureY (i := 6) (N := (some 64)) ?_; refine pureY (i := 7) (N := (some 65)) ?_; refine pureY (i := 8) (N := (some 66)) ?_; refine pureY (i := 9) (N := (some 67)) ?_; refine pureY (i := 10) (N := (some 68)) ?_; refine pureY (i := 14) (N := (some 72)) ?_; refine pureY (i := 15) (N := (some 73)) ?_; refine pureY (i := 16) (N := (some 74)) ?_; refine pureY (i := 17) (N := (some 75)) ?_; refine pureY (i := 18) (N := (some 76)) ?_; refine pureY (i := 20) (N := (some 78)) ?_; refine pureY (i := 21) (N := (some 79)) ?_; refine pureY (i := 22) (N := (some 80)) ?_; refine pureY (i := 23) (N := (some 81)) ?_; refine pureY (i := 24) (N := (some 82)) ?_; refine takeE (i := 5) (N := (some 63)) ?_; refine takeE (i := 11) (N := (some 69)) ?_; refine pureY (i := 12) (N := (some 70)) ?_; refine pureY (i := 13) (N := (some 71)) ?_; refine takeE (i := 19) (N := (some 77)) ?_; refine takeE (i := 25) (N := (some 83)) ?_; refine pureY (i := 26) (N := (some 84)) ?_; refine pureY (i := 27) (N := (some 85)) ?_; refine lastY (i := 28) (fun plK plH => ?_); rw [if_pos (by rfl)]; (first | gi_big_move | go_big_op | go_simp))
  ((try simp only [Act.put, List.getElem_toArray, List.getElem_cons_succ, List.getElem_cons_zero, List.setIfInBounds_toArray, List.set_cons_succ, List.set_cons_zero]); refine plH _ _ ?_; clear plH plK; refine pureY (i := 29) (N := (some 7)) ?_; refine done_ (by kernel_rfl) ?_)
  go_wp2
  have hf := blk_put (blk_put N1.out 0 (.int .i64 (mx 0 (u2 - u3))) rfl) 1 (.int .i64 (u4 - u1)) rfl
  have he7 := HE7.out
  simp only [Prod.mk.injEq] at he7
  obtain ⟨rfl, rfl, rfl⟩ := he7
  refine bodyPost_ret (results_arr2 rfl rfl isAggR sizeOfR (SegOk.mk' hf 0 2 (by simp))) rfl ⟨?_, ?_⟩
  ·rw [seg_drew, seg_whole (n := 2) hf rfl]
   rfl
  exact ((NB.out.setCell (p := ⟨w.heap.size + 1, 0, none⟩) (Nat.le_succ _) _).setCell (p := ⟨w.heap.size + 1, 1, none⟩) (Nat.le_succ _) _).drew
 have H0 := Lib.hid h0
 have hb : ((checkTank l0_0 a0_1) == 0) = false := by simpa using h0
 have hb' : ((checkTank l0_0 a0_1) != 0) = true := by simpa using h0
 obtain ⟨rfl, rfl, rfl⟩ : r1 = 0 ∧ r2 = 0 ∧ r3 = checkTank l0_0 a0_1 := by
  have := HE.out
  rw [if_pos h0] at this
  simp only [Prod.mk.injEq] at this
  exact ⟨this.1.symm, this.2.1.symm, this.2.2.symm⟩
 clear HE
 go_wp2
 exact bodyPost_ret (HZ.out _ _ rfl rfl) rfl ⟨rfl, HBZ.out⟩
end Go.Proofs.Ytpkajhmchcbbhaa.P
end
