/- Part 28 of 38. -/
import Derived.Test.YtpkajhmchcbbhaaH27
import Derived.Test.YtpkajhmchcbbhaaH5
import Derived.Test.YtpkajhmchcbbhaaH9
import Derived.Test.YtpkajhmchcbbhaaH7
import Derived.Test.YtpkajhmchcbbhaaH4
import Derived.Test.YtpkajhmchcbbhaaH22
set_option linter.unusedSimpArgs false
set_option linter.unusedVariables false
section
namespace Go.Proofs.Ytpkajhmchcbbhaa.P
open Go.RowKit Go.Proofs.YtpkajhmchcbbhaaW.PrintWords Go.Proofs.YtpkajhmchcbbhaaW.PrintLast Go.Proofs.YtpkajhmchcbbhaaW.PrintMore
theorem lows_succ (l : List SRow) (i : Nat) (h : i < l.length) : (lows l).take (i + 1) = (lows l).take i ++ [lowN l i] := by
 rw [List.take_add_one]; simp [lows, h]
theorem highs_succ (l : List SRow) (i : Nat) (h : i < l.length) : (highs l).take (i + 1) = (highs l).take i ++ [highN l i] := by
 rw [List.take_add_one]; simp [highs, h]
theorem lows_all (l : List SRow) : (lows l).take l.length = lows l := List.take_of_length_le (by simp [lows])
theorem highs_all (l : List SRow) : (highs l).take l.length = highs l := List.take_of_length_le (by simp [highs])
end Go.Proofs.Ytpkajhmchcbbhaa.P
end
