/- Part 50 of 51. -/
import Derived.Test.YtpkajhmchcbbhaaD47
import Derived.Test.YtpkajhmchcbbhaaD48
import Derived.Test.YtpkajhmchcbbhaaD49
set_option linter.unusedSimpArgs false
set_option linter.unusedVariables false
section
namespace Go.Proofs.Ytpkajhmchcbbhaa.P
open Go.RowKit Go.Proofs.YtpkajhmchcbbhaaW.PrintWords Go.Proofs.YtpkajhmchcbbhaaW.PrintLast Go.Proofs.YtpkajhmchcbbhaaW.PrintMore
theorem chartBetween_walk (A : Option Addr) (c : Nat) (l : List SRow) (p : Int) (a0 a1 : Int) (A1 : Option Addr) (c1 : Nat) (l1 : List Int) (x : Int) (w : World) (hC : Kd.C kRow w A l.length l) (hc : l.length ≤ c) (_hr : ∀ r, r ∈ l → Row64 r) (_hp : I64 p)
  (h0 : (Lit.int .u32 a0).wf = true) (h1 : (Lit.int .u32 a1).wf = true) (hC1 : Kd.C (Kd.int .u32) w A1 l1.length l1) (hc1 : l1.length ≤ c1) (hr1 : ∀ n, n ∈ l1 → (Lit.int .u32 n).wf = true) (hx : (Lit.int .u16 x).wf = true) :
  Calls Try.prog 11 #[.agg #[.slice A l.length c, .int .i64 p], .int .u32 a0, .int .u32 a1, .slice A1 l1.length c1, .int .u16 x] w fun e w' => e = .returned (.bool true) ∧ Below w.heap.size w w' := by
 replace h0 := u32_of h0
 replace h1 := u32_of h1
 replace hx := u16_of hx
 have m0 := Int.tmod_eq_emod_of_nonneg (b := 100001) h0.1
 have m1 := Int.tmod_eq_emod_of_nonneg (b := 100001) h1.1
 have hn1 : 0 ≤ a0.tmod 100001 ∧ a0.tmod 100001 ≤ 100000 := by omega
 have hn2 : 0 ≤ a1.tmod 100001 ∧ a1.tmod 100001 ≤ 100000 := by omega
 clear m0 m1
 obtain ⟨n1, e1⟩ : ∃ n, n = a0.tmod 100001 := ⟨_, rfl⟩
 obtain ⟨n2, e2⟩ : ∃ n, n = a1.tmod 100001 := ⟨_, rfl⟩
 rw [← e1] at hn1
 rw [← e2] at hn2
 have hmn : 0 ≤ mn n1 n2 ∧ mn n1 n2 ≤ mx n1 n2 ∧ mx n1 n2 ≤ 100000 := by unfold mn mx; (repeat' split) <;> omega
 obtain ⟨b, ⟨K1, hf⟩, hb⟩ := fine_ev l p
 by_cases hy : b = true ∧ l1.length ≤ 1000
 ·have hF := hb hy.1
  obtain ⟨q, hq, K2, ht⟩ := true_ev hF l1 (fun x hx => u32_of (hr1 x hx)) hy.2
  obtain ⟨d, hd, d0, d1⟩ := read_f hF.tank x hx
  obtain ⟨r1, r2, f1, s1, s2, f2, h2⟩ := bet_two hF hmn.1 hmn.2.1 hmn.2.2
  obtain ⟨v1, v2, t1, t2, ha⟩ := bet_at hF hq d0 d1
  rcases h2.k1 with g1 | g1 <;> rcases h2.k2 with g2 | g2
  all_goals first | refine bet_callsA A c l p A1 c1 l1 a0 a1 x n1 n2 _ _ (max K1 K2) b q d r1 r2 f1 s1 s2 f2 v1 v2 t1 t2 w w ⟨hC⟩ (Lib.hid hc) ⟨hC1⟩ (Lib.hid hc1) ⟨Below.refl _ _⟩ h0 h1 e1.symm e2.symm hn1 hn2 rfl rfl g1 g2 ?_ ?_ | refine bet_callsB A c l p A1 c1 l1 a0 a1 x n1 n2 _ _ (max K1 K2) b q d r1 r2 f1 s1 s2 f2 v1 v2 t1 t2 w w ⟨hC⟩ (Lib.hid hc) ⟨hC1⟩ (Lib.hid hc1) ⟨Below.refl _ _⟩ h0 h1 e1.symm e2.symm hn1 hn2 rfl rfl g1 g2 ?_ ?_ | refine bet_callsC A c l p A1 c1 l1 a0 a1 x n1 n2 _ _ (max K1 K2) b q d r1 r2 f1 s1 s2 f2 v1 v2 t1 t2 w w ⟨hC⟩ (Lib.hid hc) ⟨hC1⟩ (Lib.hid hc1) ⟨Below.refl _ _⟩ h0 h1 e1.symm e2.symm hn1 hn2 rfl rfl g1 g2 ?_ ?_ | refine bet_callsD A c l p A1 c1 l1 a0 a1 x n1 n2 _ _ (max K1 K2) b q d r1 r2 f1 s1 s2 f2 v1 v2 t1 t2 w w ⟨hC⟩ (Lib.hid hc) ⟨hC1⟩ (Lib.hid hc1) ⟨Below.refl _ _⟩ h0 h1 e1.symm e2.symm hn1 hn2 rfl rfl g1 g2 ?_ ?_
  all_goals first | exact Lib.hid (hf _ (by omega)) | exact Lib.hid fun _ _ => ⟨hF, ht _ (by omega), h2, hd, ha⟩
 exact bet_callsA A c l p A1 c1 l1 a0 a1 x n1 n2 _ _ K1 b [] 0 0 0 0 0 0 0 0 0 0 0 w w ⟨hC⟩ (Lib.hid hc) ⟨hC1⟩ (Lib.hid hc1) ⟨Below.refl _ _⟩ h0 h1 e1.symm e2.symm hn1 hn2 rfl rfl rfl rfl (Lib.hid (hf _ (by omega))) (Lib.hid fun h h40 => absurd (And.intro h (show l1.length ≤ 1000 by omega)) hy)
end Go.Proofs.Ytpkajhmchcbbhaa.P
end
