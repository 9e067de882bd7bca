/- Part 45 of 46. -/
import Derived.Test.YtpkajhmchcbbhaaC30
import Derived.Test.YtpkajhmchcbbhaaC21
import Derived.Test.YtpkajhmchcbbhaaC44
set_option linter.unusedSimpArgs false
set_option linter.unusedVariables false
section
namespace Go.Proofs.Ytpkajhmchcbbhaa.P
open Go.RowKit Go.Proofs.YtpkajhmchcbbhaaW.PrintWords Go.Proofs.YtpkajhmchcbbhaaW.PrintLast Go.Proofs.YtpkajhmchcbbhaaW.PrintMore
theorem tightL_length (l : List SRow) : (tightL l).length = l.length := by simp [tightL]
theorem chartTanks_ev (l : List SRow) (p : Int) (c : List Int) : Ev (fun k => forecourtlaw01_ChartTanks.f k l p c) true := by
  unfold forecourtlaw01_ChartTanks.f forecourtlaw01_great.f
  simp only [Option.bind_some]
  by_cases h25 : (l.length : Int) > 25
  · simp only [decide_eq_true h25, if_true]
    exact Ev.step (f := fun _ => some true) (fun k => by simp only [forecourtlaw01_ChartTanks.j0, if_true]; rfl) (Ev.now _)
  simp only [decide_eq_false h25, Bool.false_eq_true, if_false]
  by_cases h40 : (c.length : Int) > 40
  · simp only [decide_eq_true h40]
    exact Ev.step (f := fun _ => some true) (fun k => by simp only [forecourtlaw01_ChartTanks.j0, if_true]; rfl) (Ev.now _)
  simp only [decide_eq_false h40]
  have hn : l.length ≤ 1000 := by omega
  refine Ev.step (fun k => by simp only [forecourtlaw01_ChartTanks.j0, Bool.false_eq_true, if_false]; exact rfl) ?_
  unfold chart_Tight.f chart_Clash.f chart_CheckTank.f
  refine Ev.bind (Ev.now _) (Ev.bind (refTight_ev l p hn) (Ev.bind (Ev.now _) (Ev.bind (refClash_ev l p hn) (Ev.bind (Ev.now _) (Ev.bind (refCheckTank_ev l p hn) ?_)))))
  simp only [if_true]
  refine Ev.bind (chartCheck_ev l p c) (Ev.bind (refCheckChart_ev l p c hn) ?_)
  simp only [if_true]
  refine Ev.bind (a := true) (ranges_ev _ ?_) ?_
  · split
    · simp only; rw [tightL_length]; exact hn
    simp
  simp only [if_true]
  exact Ev.bind (a := true) (Ev.now _) (Ev.now _)
theorem chartTanks_walk (A : Option Addr) (c : Nat) (l : List SRow) (p : Int) (A1 : Option Addr) (c1 : Nat) (l1 : List Int) (w : World) (hC : Kd.C kRow w A l.length l) (hc : l.length ≤ c) (_hr : ∀ r, r ∈ l → Row64 r) (_hp : I64 p)
    (hC1 : Kd.C (Kd.int .i64) w A1 l1.length l1) (hc1 : l1.length ≤ c1) (_hr1 : ∀ n, n ∈ l1 → I64 n) :
    Calls Try.prog 3 #[.agg #[.slice A l.length c, .int .i64 p], .slice A1 l1.length c1] w fun e w' => e = .returned (.bool true) ∧ Below w.heap.size w w' := by
  obtain ⟨k, hk⟩ := (chartTanks_ev l p l1).rounds
  exact forecourtlaw01_ChartTanks.calls k A c l p A1 c1 l1 true w hC hc hC1 hc1 ⟨rfl⟩ hk
end Go.Proofs.Ytpkajhmchcbbhaa.P
end
