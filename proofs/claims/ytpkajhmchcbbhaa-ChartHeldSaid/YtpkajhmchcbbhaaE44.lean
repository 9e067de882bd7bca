/- Part 44 of 45. -/
import Derived.Test.YtpkajhmchcbbhaaE42
import Derived.Test.YtpkajhmchcbbhaaE43
set_option linter.unusedSimpArgs false
set_option linter.unusedVariables false
section
namespace Go.Proofs.Ytpkajhmchcbbhaa.P
open Go.RowKit Go.Proofs.YtpkajhmchcbbhaaW.PrintWords Go.Proofs.YtpkajhmchcbbhaaW.PrintLast Go.Proofs.YtpkajhmchcbbhaaW.PrintMore
section
variable {l : List SRow} {p wa le : Int}
theorem endsE_two (hF : Fine l p) (w0 : firstD l ≤ wa) (w1 : wa ≤ lastD l) (l0 : firstD l ≤ le) (l1 : le ≤ lastD l) : endsE l p wa le ≠ 0 → endsE l p wa le = 24 := by
 have hio : ([wa, le].all fun d => inB (firstD l) (lastD l) d) = true := by
  simp only [List.all_cons, List.all_nil, Bool.and_true, Bool.and_eq_true]
  exact ⟨(inB_iff _ _ _).2 ⟨w0, w1⟩, (inB_iff _ _ _).2 ⟨l0, l1⟩⟩
 have ho : openE l p [wa, le] = 0 := by
  unfold openE
  rw [if_neg (by simp [hF.check]), if_neg (by rw [hio]; simp), if_pos hF.tight]
 unfold endsE
 rw [if_neg (by simp [ho])]
 split <;> simp
theorem held_ok (hF : Fine l p) {q : List Int} (hq : Chart l q) (hA : Asked l p wa le) {n1 n2 n3 n4 : Int} (hnet : chart_Net.f l p wa le = some (n1, n2, n3, n4, 0)) {a b : Int}
  (a0 : trueLo l p wa ≤ a) (a1 : a ≤ trueHi l p wa) (b0 : trueLo l p le ≤ b) (b1 : b ≤ trueHi l p le) :
  ∃ K h1 h2 xF dF eF u1F u2F v1F v2F z1F z2F xT dT eT u1T u2T v1T v2T z1T z2T, ∀ k, K ≤ k → HeldOk l p k q wa le n1 n2 n3 n4 (trueLo l p wa) (trueHi l p wa) (trueLo l p le) (trueHi l p le) a b h1 h2 xF dF eF u1F u2F v1F v2F z1F z2F xT dT eT u1T u2T v1T v2T z1T z2T := by
 have hT := hF.tank
 obtain ⟨K1, xF, dF, eF, u1F, u2F, v1F, v2F, z1F, z2F, hlow⟩ := held_end hA hF false hnet
 obtain ⟨K2, xT, dT, eT, u1T, u2T, v1T, v2T, z1T, z2T, hhigh⟩ := held_end hA hF true hnet
 have htw := true_f hT wa hA.w0 hA.w1
 have htl := true_f hT le hA.l0 hA.l1
 have hpos : 0 ≤ n1 ∧ 1 ≤ n2 ∧ 1 ≤ n4 := by
  have he : endsE l p wa le = 0 := by
   by_cases h : endsE l p wa le = 0
   ·exact h
   unfold chart_Net.f at hnet
   rw [if_pos h] at hnet
   simp only [Option.some.injEq, Prod.mk.injEq] at hnet
   omega
  unfold chart_Net.f at hnet
  rw [if_neg (show ¬ endsE l p wa le ≠ 0 by simp [he])] at hnet
  simp only [Option.some.injEq, Prod.mk.injEq] at hnet
  obtain ⟨rfl, rfl, rfl, rfl, -⟩ := hnet
  obtain ⟨t1, t2, t3, t4, t5, t6, t7, t8⟩ := hA.dips
  obtain ⟨q1, q2, q3, q4, q5⟩ := lowDips_in hA
  obtain ⟨_, _, _, _, _, _, hfn⟩ := few_all hT hA.tight (show firstD l ≤ (lowDips l p wa le).1 by omega) q5 (show (lowDips l p wa le).2 ≤ lastD l by omega)
  obtain ⟨_, _, _, _, _, hmn⟩ := most_all (d0 := trueLo l p wa) (d1 := trueHi l p le) hT hA.tight t1 hA.order t8
  have f1 := frac_val hfn (bden_pos hT (lowDips l p wa le).1 (lowDips l p wa le).2)
  have f2 := frac_val hmn (bden_pos hT (trueLo l p wa) (trueHi l p le))
  exact ⟨f1.2.2.1, f1.2.1, f2.2.1⟩
 by_cases hab : a ≤ b
 ·obtain ⟨K3, h1, h2, hk, hl1, hl2⟩ := held_span hA hF hnet hq a0 a1 b0 b1 hab
  exact ⟨max K1 (max K2 K3), h1, h2, xF, dF, eF, u1F, u2F, v1F, v2F, z1F, z2F, xT, dT, eT, u1T, u2T, v1T, v2T, z1T, z2T, fun k hkk => ⟨hpos.1, hpos.2.1, hpos.2.2, htw, htl, fun _ => ⟨hk k (by omega), hl1, hl2⟩, hlow k (by omega), hhigh k (by omega)⟩⟩
 exact ⟨max K1 K2, 0, 0, xF, dF, eF, u1F, u2F, v1F, v2F, z1F, z2F, xT, dT, eT, u1T, u2T, v1T, v2T, z1T, z2T, fun k hkk => ⟨hpos.1, hpos.2.1, hpos.2.2, htw, htl, fun h => absurd h hab, hlow k (by omega), hhigh k (by omega)⟩⟩
end
theorem emod_self_le {x b : Int} (hx : 0 ≤ x) (hb : 0 < b) : x % b ≤ x := by
 have h1 := Int.mul_ediv_add_emod x b
 have h2 := Int.ediv_nonneg hx (show 0 ≤ b by omega)
 have h3 := Int.mul_nonneg (show 0 ≤ b by omega) h2
 omega
theorem wrapH {x y : Int} (h : -9223372036854775808 ≤ x ∧ x ≤ 9223372036854775807) (e : x = y) : IntKind.i64.wrap x = y := by rw [i64_w, wrap_id h, e]
theorem chartHeld_walk (A : Option Addr) (c : Nat) (l : List SRow) (p : Int) (A1 : Option Addr) (c1 : Nat) (l1 : List Int) (x0 x1 o0 o1 : Int) (w : World) (hC : Kd.C kRow w A l.length l) (hc : l.length ≤ c) (_hr : ∀ r, r ∈ l → Row64 r) (_hp : I64 p)
  (hC1 : Kd.C (Kd.int .u32) w A1 l1.length l1) (hc1 : l1.length ≤ c1) (hr1 : ∀ n, n ∈ l1 → (Lit.int .u32 n).wf = true) (hx0 : (Lit.int .u16 x0).wf = true) (hx1 : (Lit.int .u16 x1).wf = true) (ho0 : (Lit.int .u8 o0).wf = true) (ho1 : (Lit.int .u8 o1).wf = true) :
  Calls Try.prog 7 #[.agg #[.slice A l.length c, .int .i64 p], .slice A1 l1.length c1, .agg #[.int .u16 x0, .int .u16 x1], .agg #[.int .u8 o0, .int .u8 o1]] w fun e w' => e = .returned (.bool true) ∧ Below w.heap.size w w' := by
 replace hx0 := u16_of hx0
 replace hx1 := u16_of hx1
 replace ho0 := u8_of ho0
 replace ho1 := u8_of ho1
 obtain ⟨b, ⟨K1, hf⟩, hb⟩ := fine_ev l p
 by_cases hy : b = true ∧ l1.length ≤ 1000
 ·have hF := hb hy.1
  have hT := hF.tank
  have h16 := hT.n16
  obtain ⟨q, hq, K2, ht⟩ := true_ev hF l1 (fun x hx => u32_of (hr1 x hx)) hy.2
  obtain ⟨wa, hwa, w0, w1⟩ := read_f hT x0 hx0
  obtain ⟨le, hle, l0, l1'⟩ := read_f hT x1 hx1
  obtain ⟨K3, herr⟩ := netError_ev l p wa le (by omega)
  obtain ⟨K4, hcc⟩ := chartCheck_ev l p q
  have hcz : checkChart l p q = 0 := (chart_of hT hq.len hq.inn hq.up).2 hF.check
  rw [hcz] at hcc
  have hti : chart_Tight.f l p = some (tightL l, 0) := by
   have e : openE l p [] = 0 := by
    unfold openE
    rw [if_neg (by simp [hF.check]), if_neg (by simp), if_pos hF.tight]
   unfold chart_Tight.f
   rw [if_pos e]
  have h24 := endsE_two hF w0 w1 l0 l1'
  obtain ⟨n1, n2, n3, n4, hnet⟩ : ∃ n1 n2 n3 n4, chart_Net.f l p wa le = some (n1, n2, n3, n4, endsE l p wa le) := by
   unfold chart_Net.f
   by_cases h : endsE l p wa le = 0
   ·rw [if_neg (by simp [h]), h]; exact ⟨_, _, _, _, rfl⟩
   rw [if_pos h]; exact ⟨_, _, _, _, rfl⟩
  obtain ⟨e, he⟩ : ∃ e, e = endsE l p wa le := ⟨_, rfl⟩
  rw [← he] at hnet h24
  by_cases h0 : e = 0
  ·have hA := asked_of (he.symm.trans h0)
   obtain ⟨t1, t2, t3, t4, t5, t6, t7, t8⟩ := hA.dips
   have hfl := hT.first_last
   have m0 := Int.tmod_eq_emod_of_nonneg (b := trueHi l p wa - trueLo l p wa + 1) ho0.1
   have m1 := Int.tmod_eq_emod_of_nonneg (b := trueHi l p le - trueLo l p le + 1) ho1.1
   have r0 := Int.emod_nonneg o0 (show trueHi l p wa - trueLo l p wa + 1 ≠ 0 by omega)
   have r1 := Int.emod_lt_of_pos o0 (show 0 < trueHi l p wa - trueLo l p wa + 1 by omega)
   have r2 := Int.emod_nonneg o1 (show trueHi l p le - trueLo l p le + 1 ≠ 0 by omega)
   have r3 := Int.emod_lt_of_pos o1 (show 0 < trueHi l p le - trueLo l p le + 1 by omega)
   have r4 : o0 % (trueHi l p wa - trueLo l p wa + 1) ≤ 255 := Int.le_trans (emod_self_le ho0.1 (by omega)) ho0.2
   have r5 : o1 % (trueHi l p le - trueLo l p le + 1) ≤ 255 := Int.le_trans (emod_self_le ho1.1 (by omega)) ho1.2
   rw [← m0] at r0 r1 r4
   rw [← m1] at r2 r3 r5
   obtain ⟨s0, es0⟩ : ∃ s, s = o0.tmod (trueHi l p wa - trueLo l p wa + 1) := ⟨_, rfl⟩
   obtain ⟨s1, es1⟩ : ∃ s, s = o1.tmod (trueHi l p le - trueLo l p le + 1) := ⟨_, rfl⟩
   rw [← es0] at r0 r1 r4
   rw [← es1] at r2 r3 r5
   clear m0 m1
   obtain ⟨K5, h1, h2, xF, dF, eF, u1F, u2F, v1F, v2F, z1F, z2F, xT, dT, eT, u1T, u2T, v1T, v2T, z1T, z2T, hok⟩ := held_ok hF hq hA (h0 ▸ hnet) (a := trueLo l p wa + s0) (b := trueLo l p le + s1) (by omega) (by omega) (by omega) (by omega)
   by_cases hab : trueLo l p wa + s0 ≤ trueLo l p le + s1
   ·refine held_callsA A c l p A1 c1 l1 x0 x1 o0 o1 (max K1 (max K2 (max K3 (max K4 K5)))) b q wa le n1 n2 n3 n4 e (trueLo l p wa) (trueHi l p wa) (trueLo l p le) (trueHi l p le) _ _ s0 _ _ s1 (trueLo l p wa + s0) (trueLo l p le + s1) h1 h2 xF dF eF u1F u2F v1F v2F z1F z2F xT dT eT u1T u2T v1T v2T z1T z2T w w
     ⟨hC⟩ (Lib.hid hc) ⟨hC1⟩ (Lib.hid hc1) ⟨Below.refl _ _⟩ ho0 ho1 (Lib.hid fun _ => hab) (Lib.hid (hf _ (by omega))) (Lib.hid fun _ _ => ⟨hF, hq, ht _ (by omega), hwa, hle, hcc _ (by omega), hti, hnet, by rw [he]; exact herr _ (by omega), h24⟩) (Lib.hid fun _ => hok _ (by omega))
     (Lib.hid fun _ => ⟨wrapH (by omega) rfl, wrapH (by omega) rfl, by omega, es0.symm, wrapH (by omega) rfl, wrapH (by omega) rfl, wrapH (by omega) rfl, by omega, es1.symm, wrapH (by omega) rfl, r0, r4, r2, r5⟩)
   refine held_callsB A c l p A1 c1 l1 x0 x1 o0 o1 (max K1 (max K2 (max K3 (max K4 K5)))) b q wa le n1 n2 n3 n4 e (trueLo l p wa) (trueHi l p wa) (trueLo l p le) (trueHi l p le) _ _ s0 _ _ s1 (trueLo l p wa + s0) (trueLo l p le + s1) h1 h2 xF dF eF u1F u2F v1F v2F z1F z2F xT dT eT u1T u2T v1T v2T z1T z2T w w
    ⟨hC⟩ (Lib.hid hc) ⟨hC1⟩ (Lib.hid hc1) ⟨Below.refl _ _⟩ ho0 ho1 (Lib.hid fun _ => hab) (Lib.hid (hf _ (by omega))) (Lib.hid fun _ _ => ⟨hF, hq, ht _ (by omega), hwa, hle, hcc _ (by omega), hti, hnet, by rw [he]; exact herr _ (by omega), h24⟩) (Lib.hid fun _ => hok _ (by omega))
    (Lib.hid fun _ => ⟨wrapH (by omega) rfl, wrapH (by omega) rfl, by omega, es0.symm, wrapH (by omega) rfl, wrapH (by omega) rfl, wrapH (by omega) rfl, by omega, es1.symm, wrapH (by omega) rfl, r0, r4, r2, r5⟩)
  exact held_callsA A c l p A1 c1 l1 x0 x1 o0 o1 (max K1 (max K2 (max K3 K4))) b q wa le n1 n2 n3 n4 e 0 0 0 0 0 0 0 0 0 0 0 0 0 0 [] 0 0 0 0 0 0 0 0 [] 0 0 0 0 0 0 0 0 w w
   ⟨hC⟩ (Lib.hid hc) ⟨hC1⟩ (Lib.hid hc1) ⟨Below.refl _ _⟩ ho0 ho1 (Lib.hid fun h => absurd h h0) (Lib.hid (hf _ (by omega))) (Lib.hid fun _ _ => ⟨hF, hq, ht _ (by omega), hwa, hle, hcc _ (by omega), hti, hnet, by rw [he]; exact herr _ (by omega), h24⟩) (Lib.hid fun h => absurd h h0) (Lib.hid fun h => absurd h h0)
 exact held_callsA A c l p A1 c1 l1 x0 x1 o0 o1 K1 b [] 0 0 0 0 0 0 1 0 0 0 0 0 0 0 0 0 0 0 0 0 0 [] 0 0 0 0 0 0 0 0 [] 0 0 0 0 0 0 0 0 w w
  ⟨hC⟩ (Lib.hid hc) ⟨hC1⟩ (Lib.hid hc1) ⟨Below.refl _ _⟩ ho0 ho1 (Lib.hid fun h => by cases h) (Lib.hid (hf _ (by omega))) (Lib.hid fun h h40 => absurd (And.intro h (show l1.length ≤ 1000 by omega)) hy) (Lib.hid fun h => by cases h) (Lib.hid fun h => by cases h)
end Go.Proofs.Ytpkajhmchcbbhaa.P
end
