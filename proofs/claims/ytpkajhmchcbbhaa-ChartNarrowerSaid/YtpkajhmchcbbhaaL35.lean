/- Part 35 of 44. -/
import Derived.Test.YtpkajhmchcbbhaaL31
import Derived.Test.YtpkajhmchcbbhaaL15
import Derived.Test.YtpkajhmchcbbhaaL11
set_option linter.unusedSimpArgs false
set_option linter.unusedVariables false
section
namespace Go.Proofs.Ytpkajhmchcbbhaa.P
open Go.RowKit Go.Proofs.YtpkajhmchcbbhaaW.PrintWords Go.Proofs.YtpkajhmchcbbhaaW.PrintLast Go.Proofs.YtpkajhmchcbbhaaW.PrintMore
section
variable {l : List SRow} {p water level : Int}
theorem lowDips_in (hA : Asked l p water level) : trueLo l p water ≤ (lowDips l p water level).1 ∧ (lowDips l p water level).1 ≤ trueHi l p water ∧ trueLo l p level ≤ (lowDips l p water level).2 ∧ (lowDips l p water level).2 ≤ trueHi l p level ∧ (lowDips l p water level).1 ≤ (lowDips l p water level).2 := by
 obtain ⟨t1, t2, t3, t4, t5, t6, t7, t8⟩ := hA.dips
 have ho := hA.order
 unfold lowDips
 by_cases h : trueHi l p water < trueLo l p level
 ·rw [if_pos h]
  simp only
  omega
 rw [if_neg h]
 simp only
 unfold mx
 split <;> omega
end
end Go.Proofs.Ytpkajhmchcbbhaa.P
end
