/- Part 44 of 46. -/
import Derived.Test.YtpkajhmchcbbhaaM43
import Derived.Test.YtpkajhmchcbbhaaM25
set_option linter.unusedSimpArgs false
set_option linter.unusedVariables false
section
namespace Go.Proofs.Ytpkajhmchcbbhaa.P
open Go.RowKit Go.Proofs.YtpkajhmchcbbhaaW.PrintWords Go.Proofs.YtpkajhmchcbbhaaW.PrintLast Go.Proofs.YtpkajhmchcbbhaaW.PrintMore
theorem Held.cons {F : List (Nat × Array Value × Nat)} {X : World} {b t : Nat} {cs : Array Value} (h1 : X.heap[b]? = some (.cells cs t (0, 0))) (h : Held F X) : Held ((b, cs, t) :: F) X := ⟨fun b' cs' t' hm => by
 rcases List.mem_cons.1 hm with hm | hm
 ·simp only [Prod.mk.injEq] at hm
  obtain ⟨rfl, rfl, rfl⟩ := hm
  exact h1
 exact h.get b' cs' t' hm⟩
theorem u8_of {x : Int} (h : (Lit.int .u8 x).wf = true) : 0 ≤ x ∧ x ≤ 255 := by
 unfold Lit.wf at h
 rw [Bool.and_eq_true, decide_eq_true_eq, decide_eq_true_eq] at h
 exact h
theorem u32_of {x : Int} (h : (Lit.int .u32 x).wf = true) : 0 ≤ x ∧ x ≤ 4294967295 := by
 unfold Lit.wf at h
 rw [Bool.and_eq_true, decide_eq_true_eq, decide_eq_true_eq] at h
 exact h
theorem tmod_nat {x : Int} {n : Nat} (hx : 0 ≤ x) (hn : 0 < n) : ∃ i : Nat, i < n ∧ Int.tmod x n = i := by
 have e := Int.tmod_eq_emod_of_nonneg (b := (n : Int)) hx
 have h0 := Int.emod_nonneg x (show (n : Int) ≠ 0 by omega)
 have h1 := Int.emod_lt_of_pos x (show (0 : Int) < n by omega)
 exact ⟨(x % n).toNat, by omega, by omega⟩
end Go.Proofs.Ytpkajhmchcbbhaa.P
end
