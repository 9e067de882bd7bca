/- Part 30 of 39. -/
import Derived.Test.YtpkajhmchcbbhaaJ29
import Derived.Test.YtpkajhmchcbbhaaJ24
import Derived.Test.YtpkajhmchcbbhaaJ9
set_option linter.unusedSimpArgs false
set_option linter.unusedVariables false
section
namespace Go.Proofs.Ytpkajhmchcbbhaa.P
open Go.RowKit Go.Proofs.YtpkajhmchcbbhaaW.PrintWords Go.Proofs.YtpkajhmchcbbhaaW.PrintLast Go.Proofs.YtpkajhmchcbbhaaW.PrintMore
section
variable {l : List SRow} {p : Int}
theorem Chart.getIn {c : List Int} (h : Chart l c) (hT : TankOk l p) (i : Nat) (hi : i < l.length) : 0 ≤ c.getD i 0 ∧ c.getD i 0 ≤ 100000 := by
 have hl := h.len
 refine h.mem hT _ ?_
 rw [List.getD_eq_getElem?_getD, List.getElem?_eq_getElem (by omega)]
 exact List.getElem_mem _
end
end Go.Proofs.Ytpkajhmchcbbhaa.P
end
section
namespace Go.Proofs.Ytpkajhmchcbbhaa.P
open Go.RowKit Go.Proofs.YtpkajhmchcbbhaaW.PrintWords Go.Proofs.YtpkajhmchcbbhaaW.PrintLast Go.Proofs.YtpkajhmchcbbhaaW.PrintMore
theorem cell_lt {w : World} {a : Addr} {v : Value} (h : w.cell? a = some v) : a.block < w.heap.size := by
 rcases Nat.lt_or_ge a.block w.heap.size with h1 | h1
 ·exact h1
 unfold World.cell? at h
 rw [Array.getElem?_eq_none h1] at h
 simp at h
end Go.Proofs.Ytpkajhmchcbbhaa.P
end
