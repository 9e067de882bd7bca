/- Part 41 of 45. -/
import Derived.Test.YtpkajhmchcbbhaaE39
import Derived.Test.YtpkajhmchcbbhaaE18
import Derived.Test.YtpkajhmchcbbhaaE40
import Derived.Test.YtpkajhmchcbbhaaE16
import Derived.Test.YtpkajhmchcbbhaaE11
import Derived.Test.YtpkajhmchcbbhaaE5
set_option linter.unusedSimpArgs false
set_option linter.unusedVariables false
section
namespace Go.Proofs.Ytpkajhmchcbbhaa.P
open Go.RowKit Go.Proofs.YtpkajhmchcbbhaaW.PrintWords Go.Proofs.YtpkajhmchcbbhaaW.PrintLast Go.Proofs.YtpkajhmchcbbhaaW.PrintMore
structure HeldOk (l : List SRow) (p : Int) (k : Nat) (q : List Int) (wa le n1 n2 n3 n4 t0 t1 s0 s1 a b h1 h2 : Int) (xF : List Int) (dF eF u1F u2F v1F v2F z1F z2F : Int) (xT : List Int) (dT eT u1T u2T v1T v2T z1T z2T : Int) : Prop where
 m1 : 0 ≤ n1
 m2 : 1 ≤ n2
 m4 : 1 ≤ n4
 tw : forecourtref01_True.f l p wa = some (t0, t1)
 tl : forecourtref01_True.f l p le = some (s0, s1)
 btw : a ≤ b → forecourtref01_Between.f k l p q a b = some (h1, h2) ∧ forecourtref01_Less.f h1 h2 n1 n2 = some false ∧ forecourtref01_Less.f n3 n4 h1 h2 = some false
 low : HeldEnd l p wa le k false n1 n2 xF dF eF u1F u2F v1F v2F z1F z2F
 high : HeldEnd l p wa le k true n3 n4 xT dT eT u1T u2T v1T v2T z1T z2T
structure HeldFacts (l : List SRow) (p : Int) (by_ : List Int) (k : Nat) (q : List Int) (x0 x1 wa le n1 n2 n3 n4 e : Int) : Prop where
 fine : Fine l p
 chart : Chart l q
 true_ : forecourtlaw01_True.f k l p by_ = some q
 read0 : forecourtlaw01_Read.f l p x0 = some wa
 read1 : forecourtlaw01_Read.f l p x1 = some le
 check : chart_CheckChart.f k l p q = some 0
 tight : chart_Tight.f l p = some (tightL l, 0)
 net : chart_Net.f l p wa le = some (n1, n2, n3, n4, e)
 err : forecourtref01_NetError.f k l p wa le = some e
 no : e ≠ 0 → e = 24
end Go.Proofs.Ytpkajhmchcbbhaa.P
end
