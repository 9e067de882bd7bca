/-
  No cell of these rows narrows 'for every input' (looked for: loops, veiled, ifaces, maps, wideKeys, modest, calm, conditions, laid).
  DERIVED. THE GIVEN ROWS OF THIS SEAT. 12 by the template 'for every input the law returns true; each argument reads behind the call as it read before'; 0 by the template 'total and deterministic' (their statements: YtpkajhmchcbbhaaTotals.lean).
  GIVEN WITH THE SEED: the statements are not yours to turn. If you find one false, say at which input.
  Laid BY PROGRAM, IN A SANDBOX (cutbox-rows.mjs): the forced cells as the released guide's own fill.sh prints them over the translation 3b81467fbaa88de9… (all of the seat's roots in one cut). By AI agents, Wed Nov 11 2026. No macro, syntax, notation, axiom, sorry.
-/
import Derived.Test.YtpkajhmchcbbhaaChecked
import GoSem.Claim
import GoSem.ClaimJoined
import GoSem.ClaimMapViews
import Derived.JoinedTies
import Derived.KernelRfl
namespace Go.Proofs.Ytpkajhmchcbbhaa
/- THE CELL 'sum', in the pinned program and in every row, IS THE sha256 OF THE DUMP (.gsa) THAT YtpkajhmchcbbhaaProg.lean LOADS. Nothing in Lean hashes anything: it is a label: what it is worth is what the hold of that sum in a sandbox is worth. -/
noncomputable def Try.pinned : Pinned := { name := "ytpkajhmchcbbhaa", sum := "3b81467fbaa88de9a8fd1b0fa1055da2fddeab5315386c6eb559ecebccca0926", checked := Try.checked }
namespace Rows
def none {H : Type} : Left H := { results := [], args := [] }

/-- 'forecourtlaw01.ChartTanks': WHATEVER THE INPUT: true; the input reads as it did. -/
def chartTanksSpec : ChangeSpec := { name := "chartTanks", fn := fun _ => fun
  | [d1, d2] => { results := [.lit (.bool true)], args := [d1, d2] }
  | _ => none }
def chartTanksRow : OpenClaim := { program := "ytpkajhmchcbbhaa", sum := "3b81467fbaa88de9a8fd1b0fa1055da2fddeab5315386c6eb559ecebccca0926", func := "forecourt/forecourtlaw01.ChartTanks", spec := "chartTanks", unfollowed := true, recurses := true, apart := false }
def ChartTanksSaid : Prop := chartTanksRow.holds Try.pinned (OpenSpec.ofChange chartTanksSpec)

/-- ITS FALSE NEIGHBOUR: 'it returns false'. Refute it at one input. -/
def chartTanksWrong : ChangeSpec := { name := "chartTanks", fn := fun _ => fun
  | [d1, d2] => { results := [.lit (.bool false)], args := [d1, d2] }
  | _ => none }
def ChartTanksWrongFalsely : Prop := chartTanksRow.holds Try.pinned (OpenSpec.ofChange chartTanksWrong)

/-- 'forecourtlaw01.ChartBelows': WHATEVER THE INPUT: true; the input reads as it did. -/
def chartBelowsSpec : ChangeSpec := { name := "chartBelows", fn := fun _ => fun
  | [d1, d2, d3, d4, d5] => { results := [.lit (.bool true)], args := [d1, d2, d3, d4, d5] }
  | _ => none }
def chartBelowsRow : OpenClaim := { program := "ytpkajhmchcbbhaa", sum := "3b81467fbaa88de9a8fd1b0fa1055da2fddeab5315386c6eb559ecebccca0926", func := "forecourt/forecourtlaw01.ChartBelows", spec := "chartBelows", unfollowed := true, recurses := true, apart := false }
def ChartBelowsSaid : Prop := chartBelowsRow.holds Try.pinned (OpenSpec.ofChange chartBelowsSpec)

/-- ITS FALSE NEIGHBOUR: 'it returns false'. Refute it at one input. -/
def chartBelowsWrong : ChangeSpec := { name := "chartBelows", fn := fun _ => fun
  | [d1, d2, d3, d4, d5] => { results := [.lit (.bool false)], args := [d1, d2, d3, d4, d5] }
  | _ => none }
def ChartBelowsWrongFalsely : Prop := chartBelowsRow.holds Try.pinned (OpenSpec.ofChange chartBelowsWrong)

/-- 'forecourtlaw01.ChartNets': WHATEVER THE INPUT: true; the input reads as it did. -/
def chartNetsSpec : ChangeSpec := { name := "chartNets", fn := fun _ => fun
  | [d1, d2, d3, d4] => { results := [.lit (.bool true)], args := [d1, d2, d3, d4] }
  | _ => none }
def chartNetsRow : OpenClaim := { program := "ytpkajhmchcbbhaa", sum := "3b81467fbaa88de9a8fd1b0fa1055da2fddeab5315386c6eb559ecebccca0926", func := "forecourt/forecourtlaw01.ChartNets", spec := "chartNets", unfollowed := true, recurses := true, apart := false }
def ChartNetsSaid : Prop := chartNetsRow.holds Try.pinned (OpenSpec.ofChange chartNetsSpec)

/-- ITS FALSE NEIGHBOUR: 'it returns false'. Refute it at one input. -/
def chartNetsWrong : ChangeSpec := { name := "chartNets", fn := fun _ => fun
  | [d1, d2, d3, d4] => { results := [.lit (.bool false)], args := [d1, d2, d3, d4] }
  | _ => none }
def ChartNetsWrongFalsely : Prop := chartNetsRow.holds Try.pinned (OpenSpec.ofChange chartNetsWrong)

/-- 'forecourtlaw01.ChartDips': WHATEVER THE INPUT: true; the input reads as it did. -/
def chartDipsSpec : ChangeSpec := { name := "chartDips", fn := fun _ => fun
  | [d1, d2, d3, d4] => { results := [.lit (.bool true)], args := [d1, d2, d3, d4] }
  | _ => none }
def chartDipsRow : OpenClaim := { program := "ytpkajhmchcbbhaa", sum := "3b81467fbaa88de9a8fd1b0fa1055da2fddeab5315386c6eb559ecebccca0926", func := "forecourt/forecourtlaw01.ChartDips", spec := "chartDips", unfollowed := true, recurses := true, apart := false }
def ChartDipsSaid : Prop := chartDipsRow.holds Try.pinned (OpenSpec.ofChange chartDipsSpec)

/-- ITS FALSE NEIGHBOUR: 'it returns false'. Refute it at one input. -/
def chartDipsWrong : ChangeSpec := { name := "chartDips", fn := fun _ => fun
  | [d1, d2, d3, d4] => { results := [.lit (.bool false)], args := [d1, d2, d3, d4] }
  | _ => none }
def ChartDipsWrongFalsely : Prop := chartDipsRow.holds Try.pinned (OpenSpec.ofChange chartDipsWrong)

/-- 'forecourtlaw01.ChartHeld': WHATEVER THE INPUT: true; the input reads as it did. -/
def chartHeldSpec : ChangeSpec := { name := "chartHeld", fn := fun _ => fun
  | [d1, d2, d3, d4] => { results := [.lit (.bool true)], args := [d1, d2, d3, d4] }
  | _ => none }
def chartHeldRow : OpenClaim := { program := "ytpkajhmchcbbhaa", sum := "3b81467fbaa88de9a8fd1b0fa1055da2fddeab5315386c6eb559ecebccca0926", func := "forecourt/forecourtlaw01.ChartHeld", spec := "chartHeld", unfollowed := true, recurses := true, apart := false }
def ChartHeldSaid : Prop := chartHeldRow.holds Try.pinned (OpenSpec.ofChange chartHeldSpec)

/-- ITS FALSE NEIGHBOUR: 'it returns false'. Refute it at one input. -/
def chartHeldWrong : ChangeSpec := { name := "chartHeld", fn := fun _ => fun
  | [d1, d2, d3, d4] => { results := [.lit (.bool false)], args := [d1, d2, d3, d4] }
  | _ => none }
def ChartHeldWrongFalsely : Prop := chartHeldRow.holds Try.pinned (OpenSpec.ofChange chartHeldWrong)

/-- 'forecourtlaw01.ChartEither': WHATEVER THE INPUT: true; the input reads as it did. -/
def chartEitherSpec : ChangeSpec := { name := "chartEither", fn := fun _ => fun
  | [d1, d2, d3] => { results := [.lit (.bool true)], args := [d1, d2, d3] }
  | _ => none }
def chartEitherRow : OpenClaim := { program := "ytpkajhmchcbbhaa", sum := "3b81467fbaa88de9a8fd1b0fa1055da2fddeab5315386c6eb559ecebccca0926", func := "forecourt/forecourtlaw01.ChartEither", spec := "chartEither", unfollowed := true, recurses := true, apart := false }
def ChartEitherSaid : Prop := chartEitherRow.holds Try.pinned (OpenSpec.ofChange chartEitherSpec)

/-- ITS FALSE NEIGHBOUR: 'it returns false'. Refute it at one input. -/
def chartEitherWrong : ChangeSpec := { name := "chartEither", fn := fun _ => fun
  | [d1, d2, d3] => { results := [.lit (.bool false)], args := [d1, d2, d3] }
  | _ => none }
def ChartEitherWrongFalsely : Prop := chartEitherRow.holds Try.pinned (OpenSpec.ofChange chartEitherWrong)

/-- 'forecourtlaw01.ChartNarrower': WHATEVER THE INPUT: true; the input reads as it did. -/
def chartNarrowerSpec : ChangeSpec := { name := "chartNarrower", fn := fun _ => fun
  | [d1, d2, d3, d4, d5, d6] => { results := [.lit (.bool true)], args := [d1, d2, d3, d4, d5, d6] }
  | _ => none }
def chartNarrowerRow : OpenClaim := { program := "ytpkajhmchcbbhaa", sum := "3b81467fbaa88de9a8fd1b0fa1055da2fddeab5315386c6eb559ecebccca0926", func := "forecourt/forecourtlaw01.ChartNarrower", spec := "chartNarrower", unfollowed := true, recurses := true, apart := false }
def ChartNarrowerSaid : Prop := chartNarrowerRow.holds Try.pinned (OpenSpec.ofChange chartNarrowerSpec)

/-- ITS FALSE NEIGHBOUR: 'it returns false'. Refute it at one input. -/
def chartNarrowerWrong : ChangeSpec := { name := "chartNarrower", fn := fun _ => fun
  | [d1, d2, d3, d4, d5, d6] => { results := [.lit (.bool false)], args := [d1, d2, d3, d4, d5, d6] }
  | _ => none }
def ChartNarrowerWrongFalsely : Prop := chartNarrowerRow.holds Try.pinned (OpenSpec.ofChange chartNarrowerWrong)

/-- 'forecourtlaw01.ChartMoved': WHATEVER THE INPUT: true; the input reads as it did. -/
def chartMovedSpec : ChangeSpec := { name := "chartMoved", fn := fun _ => fun
  | [d1, d2, d3, d4] => { results := [.lit (.bool true)], args := [d1, d2, d3, d4] }
  | _ => none }
def chartMovedRow : OpenClaim := { program := "ytpkajhmchcbbhaa", sum := "3b81467fbaa88de9a8fd1b0fa1055da2fddeab5315386c6eb559ecebccca0926", func := "forecourt/forecourtlaw01.ChartMoved", spec := "chartMoved", unfollowed := true, recurses := true, apart := false }
def ChartMovedSaid : Prop := chartMovedRow.holds Try.pinned (OpenSpec.ofChange chartMovedSpec)

/-- ITS FALSE NEIGHBOUR: 'it returns false'. Refute it at one input. -/
def chartMovedWrong : ChangeSpec := { name := "chartMoved", fn := fun _ => fun
  | [d1, d2, d3, d4] => { results := [.lit (.bool false)], args := [d1, d2, d3, d4] }
  | _ => none }
def ChartMovedWrongFalsely : Prop := chartMovedRow.holds Try.pinned (OpenSpec.ofChange chartMovedWrong)

/-- 'forecourtlaw01.ChartBetween': WHATEVER THE INPUT: true; the input reads as it did. -/
def chartBetweenSpec : ChangeSpec := { name := "chartBetween", fn := fun _ => fun
  | [d1, d2, d3, d4, d5] => { results := [.lit (.bool true)], args := [d1, d2, d3, d4, d5] }
  | _ => none }
def chartBetweenRow : OpenClaim := { program := "ytpkajhmchcbbhaa", sum := "3b81467fbaa88de9a8fd1b0fa1055da2fddeab5315386c6eb559ecebccca0926", func := "forecourt/forecourtlaw01.ChartBetween", spec := "chartBetween", unfollowed := true, recurses := true, apart := false }
def ChartBetweenSaid : Prop := chartBetweenRow.holds Try.pinned (OpenSpec.ofChange chartBetweenSpec)

/-- ITS FALSE NEIGHBOUR: 'it returns false'. Refute it at one input. -/
def chartBetweenWrong : ChangeSpec := { name := "chartBetween", fn := fun _ => fun
  | [d1, d2, d3, d4, d5] => { results := [.lit (.bool false)], args := [d1, d2, d3, d4, d5] }
  | _ => none }
def ChartBetweenWrongFalsely : Prop := chartBetweenRow.holds Try.pinned (OpenSpec.ofChange chartBetweenWrong)

/-- 'forecourtlaw01.ChartMetered': WHATEVER THE INPUT: true; the input reads as it did. -/
def chartMeteredSpec : ChangeSpec := { name := "chartMetered", fn := fun _ => fun
  | [d1, d2, d3] => { results := [.lit (.bool true)], args := [d1, d2, d3] }
  | _ => none }
def chartMeteredRow : OpenClaim := { program := "ytpkajhmchcbbhaa", sum := "3b81467fbaa88de9a8fd1b0fa1055da2fddeab5315386c6eb559ecebccca0926", func := "forecourt/forecourtlaw01.ChartMetered", spec := "chartMetered", unfollowed := true, recurses := true, apart := false }
def ChartMeteredSaid : Prop := chartMeteredRow.holds Try.pinned (OpenSpec.ofChange chartMeteredSpec)

/-- ITS FALSE NEIGHBOUR: 'it returns false'. Refute it at one input. -/
def chartMeteredWrong : ChangeSpec := { name := "chartMetered", fn := fun _ => fun
  | [d1, d2, d3] => { results := [.lit (.bool false)], args := [d1, d2, d3] }
  | _ => none }
def ChartMeteredWrongFalsely : Prop := chartMeteredRow.holds Try.pinned (OpenSpec.ofChange chartMeteredWrong)

/-- 'forecourtlaw01.ChartWarmer': WHATEVER THE INPUT: true; the input reads as it did. -/
def chartWarmerSpec : ChangeSpec := { name := "chartWarmer", fn := fun _ => fun
  | [d1, d2, d3, d4, d5, d6] => { results := [.lit (.bool true)], args := [d1, d2, d3, d4, d5, d6] }
  | _ => none }
def chartWarmerRow : OpenClaim := { program := "ytpkajhmchcbbhaa", sum := "3b81467fbaa88de9a8fd1b0fa1055da2fddeab5315386c6eb559ecebccca0926", func := "forecourt/forecourtlaw01.ChartWarmer", spec := "chartWarmer", unfollowed := true, recurses := true, apart := false }
def ChartWarmerSaid : Prop := chartWarmerRow.holds Try.pinned (OpenSpec.ofChange chartWarmerSpec)

/-- ITS FALSE NEIGHBOUR: 'it returns false'. Refute it at one input. -/
def chartWarmerWrong : ChangeSpec := { name := "chartWarmer", fn := fun _ => fun
  | [d1, d2, d3, d4, d5, d6] => { results := [.lit (.bool false)], args := [d1, d2, d3, d4, d5, d6] }
  | _ => none }
def ChartWarmerWrongFalsely : Prop := chartWarmerRow.holds Try.pinned (OpenSpec.ofChange chartWarmerWrong)

/-- 'forecourtlaw01.ChartKnown': WHATEVER THE INPUT: true; the input reads as it did. -/
def chartKnownSpec : ChangeSpec := { name := "chartKnown", fn := fun _ => fun
  | [] => { results := [.lit (.bool true)], args := [] }
  | _ => none }
def chartKnownRow : OpenClaim := { program := "ytpkajhmchcbbhaa", sum := "3b81467fbaa88de9a8fd1b0fa1055da2fddeab5315386c6eb559ecebccca0926", func := "forecourt/forecourtlaw01.ChartKnown", spec := "chartKnown", unfollowed := true, recurses := true, apart := false }
def ChartKnownSaid : Prop := chartKnownRow.holds Try.pinned (OpenSpec.ofChange chartKnownSpec)

/-- ITS FALSE NEIGHBOUR: 'it returns false'. Refute it at one input. -/
def chartKnownWrong : ChangeSpec := { name := "chartKnown", fn := fun _ => fun
  | [] => { results := [.lit (.bool false)], args := [] }
  | _ => none }
def ChartKnownWrongFalsely : Prop := chartKnownRow.holds Try.pinned (OpenSpec.ofChange chartKnownWrong)

/- THE SECOND FORM. 'bulk': how many values and letters a reading holds, each counted each time it is reached (what is shared counts as often as it is met; a slice's spare places count too). A statement '..UptoSaid' is the law's where the arguments, and the package variables that the reading takes, are together of bulk at most 1048576: NARROWER than '..Said'. Prove '..Said' where nothing that the law and all that it calls make is longer than what came in: it says more and counts as full. Else prove '..UptoSaid'. A law counts once. -/
mutual
def uptoBulk {H : Type} : DataW H → Nat
  | .lit (.string bytes) => bytes.length + 1
  | .lit _ => 1
  | .nil => 1
  | .ptr d => uptoBulk d + 1
  | .slice elems spare => uptoBulkAll elems + uptoBulkAll spare + 1
  | .agg parts => uptoBulkAll parts + 1
  | .iface _ d => uptoBulk d + 1
  | .map entries => uptoBulkEntries entries + 1
  | .held _ => 1
def uptoBulkAll {H : Type} : List (DataW H) → Nat
  | [] => 0
  | d :: r => uptoBulk d + uptoBulkAll r
def uptoBulkEntries {H : Type} : List (Lit × DataW H) → Nat
  | [] => 0
  | x :: r => uptoBulkEntry x + uptoBulkEntries r
def uptoBulkEntry {H : Type} : Lit × DataW H → Nat
  | (.string bytes, d) => bytes.length + uptoBulk d + 1
  | (_, d) => uptoBulk d + 1
 end
def uptoSmall : (H : Type) → List (DataW H) → Bool := fun _ ds => decide (uptoBulkAll ds ≤ 1048576)
def OpenSpec.upto (s : _root_.Go.ChangeSpec) : _root_.Go.OpenSpec := { _root_.Go.OpenSpec.ofChange s with cond := some uptoSmall }

/-- 'forecourtlaw01.ChartTanks', WHERE WHAT IT READS IS OF BULK AT MOST 1048576: true; the input reads as it did. -/
def chartTanksUptoRow : OpenClaim := { program := "ytpkajhmchcbbhaa", sum := "3b81467fbaa88de9a8fd1b0fa1055da2fddeab5315386c6eb559ecebccca0926", func := "forecourt/forecourtlaw01.ChartTanks", spec := "chartTanks", unfollowed := true, recurses := true, apart := false, narrowed := true }
def ChartTanksUptoSaid : Prop := chartTanksUptoRow.holds Try.pinned (OpenSpec.upto chartTanksSpec)

/-- 'forecourtlaw01.ChartBelows', WHERE WHAT IT READS IS OF BULK AT MOST 1048576: true; the input reads as it did. -/
def chartBelowsUptoRow : OpenClaim := { program := "ytpkajhmchcbbhaa", sum := "3b81467fbaa88de9a8fd1b0fa1055da2fddeab5315386c6eb559ecebccca0926", func := "forecourt/forecourtlaw01.ChartBelows", spec := "chartBelows", unfollowed := true, recurses := true, apart := false, narrowed := true }
def ChartBelowsUptoSaid : Prop := chartBelowsUptoRow.holds Try.pinned (OpenSpec.upto chartBelowsSpec)

/-- 'forecourtlaw01.ChartNets', WHERE WHAT IT READS IS OF BULK AT MOST 1048576: true; the input reads as it did. -/
def chartNetsUptoRow : OpenClaim := { program := "ytpkajhmchcbbhaa", sum := "3b81467fbaa88de9a8fd1b0fa1055da2fddeab5315386c6eb559ecebccca0926", func := "forecourt/forecourtlaw01.ChartNets", spec := "chartNets", unfollowed := true, recurses := true, apart := false, narrowed := true }
def ChartNetsUptoSaid : Prop := chartNetsUptoRow.holds Try.pinned (OpenSpec.upto chartNetsSpec)

/-- 'forecourtlaw01.ChartDips', WHERE WHAT IT READS IS OF BULK AT MOST 1048576: true; the input reads as it did. -/
def chartDipsUptoRow : OpenClaim := { program := "ytpkajhmchcbbhaa", sum := "3b81467fbaa88de9a8fd1b0fa1055da2fddeab5315386c6eb559ecebccca0926", func := "forecourt/forecourtlaw01.ChartDips", spec := "chartDips", unfollowed := true, recurses := true, apart := false, narrowed := true }
def ChartDipsUptoSaid : Prop := chartDipsUptoRow.holds Try.pinned (OpenSpec.upto chartDipsSpec)

/-- 'forecourtlaw01.ChartHeld', WHERE WHAT IT READS IS OF BULK AT MOST 1048576: true; the input reads as it did. -/
def chartHeldUptoRow : OpenClaim := { program := "ytpkajhmchcbbhaa", sum := "3b81467fbaa88de9a8fd1b0fa1055da2fddeab5315386c6eb559ecebccca0926", func := "forecourt/forecourtlaw01.ChartHeld", spec := "chartHeld", unfollowed := true, recurses := true, apart := false, narrowed := true }
def ChartHeldUptoSaid : Prop := chartHeldUptoRow.holds Try.pinned (OpenSpec.upto chartHeldSpec)

/-- 'forecourtlaw01.ChartEither', WHERE WHAT IT READS IS OF BULK AT MOST 1048576: true; the input reads as it did. -/
def chartEitherUptoRow : OpenClaim := { program := "ytpkajhmchcbbhaa", sum := "3b81467fbaa88de9a8fd1b0fa1055da2fddeab5315386c6eb559ecebccca0926", func := "forecourt/forecourtlaw01.ChartEither", spec := "chartEither", unfollowed := true, recurses := true, apart := false, narrowed := true }
def ChartEitherUptoSaid : Prop := chartEitherUptoRow.holds Try.pinned (OpenSpec.upto chartEitherSpec)

/-- 'forecourtlaw01.ChartNarrower', WHERE WHAT IT READS IS OF BULK AT MOST 1048576: true; the input reads as it did. -/
def chartNarrowerUptoRow : OpenClaim := { program := "ytpkajhmchcbbhaa", sum := "3b81467fbaa88de9a8fd1b0fa1055da2fddeab5315386c6eb559ecebccca0926", func := "forecourt/forecourtlaw01.ChartNarrower", spec := "chartNarrower", unfollowed := true, recurses := true, apart := false, narrowed := true }
def ChartNarrowerUptoSaid : Prop := chartNarrowerUptoRow.holds Try.pinned (OpenSpec.upto chartNarrowerSpec)

/-- 'forecourtlaw01.ChartMoved', WHERE WHAT IT READS IS OF BULK AT MOST 1048576: true; the input reads as it did. -/
def chartMovedUptoRow : OpenClaim := { program := "ytpkajhmchcbbhaa", sum := "3b81467fbaa88de9a8fd1b0fa1055da2fddeab5315386c6eb559ecebccca0926", func := "forecourt/forecourtlaw01.ChartMoved", spec := "chartMoved", unfollowed := true, recurses := true, apart := false, narrowed := true }
def ChartMovedUptoSaid : Prop := chartMovedUptoRow.holds Try.pinned (OpenSpec.upto chartMovedSpec)

/-- 'forecourtlaw01.ChartBetween', WHERE WHAT IT READS IS OF BULK AT MOST 1048576: true; the input reads as it did. -/
def chartBetweenUptoRow : OpenClaim := { program := "ytpkajhmchcbbhaa", sum := "3b81467fbaa88de9a8fd1b0fa1055da2fddeab5315386c6eb559ecebccca0926", func := "forecourt/forecourtlaw01.ChartBetween", spec := "chartBetween", unfollowed := true, recurses := true, apart := false, narrowed := true }
def ChartBetweenUptoSaid : Prop := chartBetweenUptoRow.holds Try.pinned (OpenSpec.upto chartBetweenSpec)

/-- 'forecourtlaw01.ChartMetered', WHERE WHAT IT READS IS OF BULK AT MOST 1048576: true; the input reads as it did. -/
def chartMeteredUptoRow : OpenClaim := { program := "ytpkajhmchcbbhaa", sum := "3b81467fbaa88de9a8fd1b0fa1055da2fddeab5315386c6eb559ecebccca0926", func := "forecourt/forecourtlaw01.ChartMetered", spec := "chartMetered", unfollowed := true, recurses := true, apart := false, narrowed := true }
def ChartMeteredUptoSaid : Prop := chartMeteredUptoRow.holds Try.pinned (OpenSpec.upto chartMeteredSpec)

/-- 'forecourtlaw01.ChartWarmer', WHERE WHAT IT READS IS OF BULK AT MOST 1048576: true; the input reads as it did. -/
def chartWarmerUptoRow : OpenClaim := { program := "ytpkajhmchcbbhaa", sum := "3b81467fbaa88de9a8fd1b0fa1055da2fddeab5315386c6eb559ecebccca0926", func := "forecourt/forecourtlaw01.ChartWarmer", spec := "chartWarmer", unfollowed := true, recurses := true, apart := false, narrowed := true }
def ChartWarmerUptoSaid : Prop := chartWarmerUptoRow.holds Try.pinned (OpenSpec.upto chartWarmerSpec)

/-- 'forecourtlaw01.ChartKnown', WHERE WHAT IT READS IS OF BULK AT MOST 1048576: true; the input reads as it did. -/
def chartKnownUptoRow : OpenClaim := { program := "ytpkajhmchcbbhaa", sum := "3b81467fbaa88de9a8fd1b0fa1055da2fddeab5315386c6eb559ecebccca0926", func := "forecourt/forecourtlaw01.ChartKnown", spec := "chartKnown", unfollowed := true, recurses := true, apart := false, narrowed := true }
def ChartKnownUptoSaid : Prop := chartKnownUptoRow.holds Try.pinned (OpenSpec.upto chartKnownSpec)

end Rows
end Go.Proofs.Ytpkajhmchcbbhaa
