/- Part 46 of 51. -/
import Derived.Test.YtpkajhmchcbbhaaD45
import Derived.Test.YtpkajhmchcbbhaaD26
set_option linter.unusedSimpArgs false
set_option linter.unusedVariables false
section
namespace Go.Proofs.Ytpkajhmchcbbhaa.P
open Go.RowKit Go.Proofs.YtpkajhmchcbbhaaW.PrintWords Go.Proofs.YtpkajhmchcbbhaaW.PrintLast Go.Proofs.YtpkajhmchcbbhaaW.PrintMore
theorem Held.cons {F : List (Nat × Array Value × Nat)} {X : World} {b t : Nat} {cs : Array Value} (h1 : X.heap[b]? = some (.cells cs t (0, 0))) (h : Held F X) : Held ((b, cs, t) :: F) X := ⟨fun b' cs' t' hm => by
 rcases List.mem_cons.1 hm with hm | hm
 ·simp only [Prod.mk.injEq] at hm
  obtain ⟨rfl, rfl, rfl⟩ := hm
  exact h1
 exact h.get b' cs' t' hm⟩
theorem u32_of {x : Int} (h : (Lit.int .u32 x).wf = true) : 0 ≤ x ∧ x ≤ 4294967295 := by
 unfold Lit.wf at h
 rw [Bool.and_eq_true, decide_eq_true_eq, decide_eq_true_eq] at h
 exact h
theorem u16_of {x : Int} (h : (Lit.int .u16 x).wf = true) : 0 ≤ x ∧ x ≤ 65535 := by
 unfold Lit.wf at h
 rw [Bool.and_eq_true, decide_eq_true_eq, decide_eq_true_eq] at h
 exact h
end Go.Proofs.Ytpkajhmchcbbhaa.P
end
