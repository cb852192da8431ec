/-
  No cell of these rows narrows 'for every input' (looked for: loops, veiled, ifaces, maps, wideKeys, modest, calm, conditions, laid).
  DERIVED. THE GIVEN ROWS OF THIS SEAT. 8 by the template 'for every input the law returns true; each argument reads behind the call as it read before'; 0 by the template 'total and deterministic' (their statements: YtlnoheikolgejaaGreatTotals.lean).
  GIVEN WITH THE SEED: the statements are not yours to turn. If you find one false, say at which input.
  Laid BY PROGRAM, IN A SANDBOX (cutbox-rows.mjs): the forced cells as the released guide's own fill.sh prints them over the translation b8b89170c6cc6dd0… (all of the seat's roots in one cut). By AI agents, Wed Nov 11 2026. No macro, syntax, notation, axiom, sorry.
-/
import Derived.Test.YtlnoheikolgejaaGreatChecked
import GoSem.Claim
import GoSem.ClaimJoined
import GoSem.ClaimMapViews
import Derived.JoinedTies
import Derived.KernelRfl
namespace Go.Proofs.YtlnoheikolgejaaGreat
/- THE CELL 'sum', in the pinned program and in every row, IS THE sha256 OF THE DUMP (.gsa) THAT YtlnoheikolgejaaGreatProg.lean LOADS. Nothing in Lean hashes anything: it is a label: what it is worth is what the hold of that sum in a sandbox is worth. -/
noncomputable def Tryz.pinned : Pinned := { name := "ytlnoheikolgejaagreat", sum := "b8b89170c6cc6dd0daebba9cfbf63e35c74a924f85a5262567aa28aea0502290", checked := Tryz.checked }
namespace Rows
def none {H : Type} : Left H := { results := [], args := [] }

/-- 'skylanternlaw23.LaunchPaths': WHATEVER THE INPUT: true; the input reads as it did. -/
def launchPathsSpec : ChangeSpec := { name := "launchPaths", fn := fun _ => fun
  | [d1, d2, d3, d4, d5] => { results := [.lit (.bool true)], args := [d1, d2, d3, d4, d5] }
  | _ => none }
def launchPathsRow : OpenClaim := { program := "ytlnoheikolgejaagreat", sum := "b8b89170c6cc6dd0daebba9cfbf63e35c74a924f85a5262567aa28aea0502290", func := "skylantern/skylanternlaw23.LaunchPaths", spec := "launchPaths", inPlace := ["math/bits.Add64", "math/bits.Sub64"], unfollowed := true, recurses := true, named := ["math/bits.divideError", "math/bits.overflowError"], plainKeys := false, apart := false }
def LaunchPathsSaid : Prop := launchPathsRow.holds Tryz.pinned (OpenSpec.ofChange launchPathsSpec)

/-- ITS FALSE NEIGHBOUR: 'it returns false'. Refute it at one input. -/
def launchPathsWrong : ChangeSpec := { name := "launchPaths", fn := fun _ => fun
  | [d1, d2, d3, d4, d5] => { results := [.lit (.bool false)], args := [d1, d2, d3, d4, d5] }
  | _ => none }
def LaunchPathsWrongFalsely : Prop := launchPathsRow.holds Tryz.pinned (OpenSpec.ofChange launchPathsWrong)

/-- 'skylanternlaw23.LaunchHolds': WHATEVER THE INPUT: true; the input reads as it did. -/
def launchHoldsSpec : ChangeSpec := { name := "launchHolds", fn := fun _ => fun
  | [d1, d2, d3, d4, d5] => { results := [.lit (.bool true)], args := [d1, d2, d3, d4, d5] }
  | _ => none }
def launchHoldsRow : OpenClaim := { program := "ytlnoheikolgejaagreat", sum := "b8b89170c6cc6dd0daebba9cfbf63e35c74a924f85a5262567aa28aea0502290", func := "skylantern/skylanternlaw23.LaunchHolds", spec := "launchHolds", inPlace := ["math/bits.Add64", "math/bits.Sub64"], unfollowed := true, recurses := true, named := ["math/bits.divideError", "math/bits.overflowError"], plainKeys := false, apart := false }
def LaunchHoldsSaid : Prop := launchHoldsRow.holds Tryz.pinned (OpenSpec.ofChange launchHoldsSpec)

/-- ITS FALSE NEIGHBOUR: 'it returns false'. Refute it at one input. -/
def launchHoldsWrong : ChangeSpec := { name := "launchHolds", fn := fun _ => fun
  | [d1, d2, d3, d4, d5] => { results := [.lit (.bool false)], args := [d1, d2, d3, d4, d5] }
  | _ => none }
def LaunchHoldsWrongFalsely : Prop := launchHoldsRow.holds Tryz.pinned (OpenSpec.ofChange launchHoldsWrong)

/-- 'skylanternlaw23.LaunchSchedules': WHATEVER THE INPUT: true; the input reads as it did. -/
def launchSchedulesSpec : ChangeSpec := { name := "launchSchedules", fn := fun _ => fun
  | [d1, d2, d3, d4, d5, d6, d7] => { results := [.lit (.bool true)], args := [d1, d2, d3, d4, d5, d6, d7] }
  | _ => none }
def launchSchedulesRow : OpenClaim := { program := "ytlnoheikolgejaagreat", sum := "b8b89170c6cc6dd0daebba9cfbf63e35c74a924f85a5262567aa28aea0502290", func := "skylantern/skylanternlaw23.LaunchSchedules", spec := "launchSchedules", inPlace := ["math/bits.Add64", "math/bits.Sub64"], unfollowed := true, recurses := true, named := ["math/bits.divideError", "math/bits.overflowError"], plainKeys := false, apart := false }
def LaunchSchedulesSaid : Prop := launchSchedulesRow.holds Tryz.pinned (OpenSpec.ofChange launchSchedulesSpec)

/-- ITS FALSE NEIGHBOUR: 'it returns false'. Refute it at one input. -/
def launchSchedulesWrong : ChangeSpec := { name := "launchSchedules", fn := fun _ => fun
  | [d1, d2, d3, d4, d5, d6, d7] => { results := [.lit (.bool false)], args := [d1, d2, d3, d4, d5, d6, d7] }
  | _ => none }
def LaunchSchedulesWrongFalsely : Prop := launchSchedulesRow.holds Tryz.pinned (OpenSpec.ofChange launchSchedulesWrong)

/-- 'skylanternlaw23.LaunchReturns': WHATEVER THE INPUT: true; the input reads as it did. -/
def launchReturnsSpec : ChangeSpec := { name := "launchReturns", fn := fun _ => fun
  | [d1, d2, d3, d4, d5, d6] => { results := [.lit (.bool true)], args := [d1, d2, d3, d4, d5, d6] }
  | _ => none }
def launchReturnsRow : OpenClaim := { program := "ytlnoheikolgejaagreat", sum := "b8b89170c6cc6dd0daebba9cfbf63e35c74a924f85a5262567aa28aea0502290", func := "skylantern/skylanternlaw23.LaunchReturns", spec := "launchReturns", inPlace := ["math/bits.Add64", "math/bits.Sub64"], unfollowed := true, recurses := true, named := ["math/bits.divideError", "math/bits.overflowError"], plainKeys := false, apart := false }
def LaunchReturnsSaid : Prop := launchReturnsRow.holds Tryz.pinned (OpenSpec.ofChange launchReturnsSpec)

/-- ITS FALSE NEIGHBOUR: 'it returns false'. Refute it at one input. -/
def launchReturnsWrong : ChangeSpec := { name := "launchReturns", fn := fun _ => fun
  | [d1, d2, d3, d4, d5, d6] => { results := [.lit (.bool false)], args := [d1, d2, d3, d4, d5, d6] }
  | _ => none }
def LaunchReturnsWrongFalsely : Prop := launchReturnsRow.holds Tryz.pinned (OpenSpec.ofChange launchReturnsWrong)

/-- 'skylanternlaw24.TransitMoves': WHATEVER THE INPUT: true; the input reads as it did. -/
def transitMovesSpec : ChangeSpec := { name := "transitMoves", fn := fun _ => fun
  | [d1, d2] => { results := [.lit (.bool true)], args := [d1, d2] }
  | _ => none }
def transitMovesRow : OpenClaim := { program := "ytlnoheikolgejaagreat", sum := "b8b89170c6cc6dd0daebba9cfbf63e35c74a924f85a5262567aa28aea0502290", func := "skylantern/skylanternlaw24.TransitMoves", spec := "transitMoves", inPlace := ["math/bits.Add64", "math/bits.Sub64"], unfollowed := true, recurses := true, named := ["math/bits.divideError", "math/bits.overflowError"], plainKeys := false, apart := false }
def TransitMovesSaid : Prop := transitMovesRow.holds Tryz.pinned (OpenSpec.ofChange transitMovesSpec)

/-- ITS FALSE NEIGHBOUR: 'it returns false'. Refute it at one input. -/
def transitMovesWrong : ChangeSpec := { name := "transitMoves", fn := fun _ => fun
  | [d1, d2] => { results := [.lit (.bool false)], args := [d1, d2] }
  | _ => none }
def TransitMovesWrongFalsely : Prop := transitMovesRow.holds Tryz.pinned (OpenSpec.ofChange transitMovesWrong)

/-- 'skylanternlaw24.TransitPaths': WHATEVER THE INPUT: true; the input reads as it did. -/
def transitPathsSpec : ChangeSpec := { name := "transitPaths", fn := fun _ => fun
  | [d1, d2, d3, d4] => { results := [.lit (.bool true)], args := [d1, d2, d3, d4] }
  | _ => none }
def transitPathsRow : OpenClaim := { program := "ytlnoheikolgejaagreat", sum := "b8b89170c6cc6dd0daebba9cfbf63e35c74a924f85a5262567aa28aea0502290", func := "skylantern/skylanternlaw24.TransitPaths", spec := "transitPaths", inPlace := ["math/bits.Add64", "math/bits.Sub64"], unfollowed := true, recurses := true, named := ["math/bits.divideError", "math/bits.overflowError"], plainKeys := false, apart := false }
def TransitPathsSaid : Prop := transitPathsRow.holds Tryz.pinned (OpenSpec.ofChange transitPathsSpec)

/-- ITS FALSE NEIGHBOUR: 'it returns false'. Refute it at one input. -/
def transitPathsWrong : ChangeSpec := { name := "transitPaths", fn := fun _ => fun
  | [d1, d2, d3, d4] => { results := [.lit (.bool false)], args := [d1, d2, d3, d4] }
  | _ => none }
def TransitPathsWrongFalsely : Prop := transitPathsRow.holds Tryz.pinned (OpenSpec.ofChange transitPathsWrong)

/-- 'skylanternlaw24.TransitHolds': WHATEVER THE INPUT: true; the input reads as it did. -/
def transitHoldsSpec : ChangeSpec := { name := "transitHolds", fn := fun _ => fun
  | [d1, d2, d3, d4, d5, d6] => { results := [.lit (.bool true)], args := [d1, d2, d3, d4, d5, d6] }
  | _ => none }
def transitHoldsRow : OpenClaim := { program := "ytlnoheikolgejaagreat", sum := "b8b89170c6cc6dd0daebba9cfbf63e35c74a924f85a5262567aa28aea0502290", func := "skylantern/skylanternlaw24.TransitHolds", spec := "transitHolds", inPlace := ["math/bits.Add64", "math/bits.Sub64"], unfollowed := true, recurses := true, named := ["math/bits.divideError", "math/bits.overflowError"], plainKeys := false, apart := false }
def TransitHoldsSaid : Prop := transitHoldsRow.holds Tryz.pinned (OpenSpec.ofChange transitHoldsSpec)

/-- ITS FALSE NEIGHBOUR: 'it returns false'. Refute it at one input. -/
def transitHoldsWrong : ChangeSpec := { name := "transitHolds", fn := fun _ => fun
  | [d1, d2, d3, d4, d5, d6] => { results := [.lit (.bool false)], args := [d1, d2, d3, d4, d5, d6] }
  | _ => none }
def TransitHoldsWrongFalsely : Prop := transitHoldsRow.holds Tryz.pinned (OpenSpec.ofChange transitHoldsWrong)

/-- 'skylanternlaw24.TransitAssigns': WHATEVER THE INPUT: true; the input reads as it did. -/
def transitAssignsSpec : ChangeSpec := { name := "transitAssigns", fn := fun _ => fun
  | [d1, d2, d3] => { results := [.lit (.bool true)], args := [d1, d2, d3] }
  | _ => none }
def transitAssignsRow : OpenClaim := { program := "ytlnoheikolgejaagreat", sum := "b8b89170c6cc6dd0daebba9cfbf63e35c74a924f85a5262567aa28aea0502290", func := "skylantern/skylanternlaw24.TransitAssigns", spec := "transitAssigns", inPlace := ["math/bits.Add64", "math/bits.Sub64"], unfollowed := true, recurses := true, named := ["math/bits.divideError", "math/bits.overflowError"], plainKeys := false, apart := false }
def TransitAssignsSaid : Prop := transitAssignsRow.holds Tryz.pinned (OpenSpec.ofChange transitAssignsSpec)

/-- ITS FALSE NEIGHBOUR: 'it returns false'. Refute it at one input. -/
def transitAssignsWrong : ChangeSpec := { name := "transitAssigns", fn := fun _ => fun
  | [d1, d2, d3] => { results := [.lit (.bool false)], args := [d1, d2, d3] }
  | _ => none }
def TransitAssignsWrongFalsely : Prop := transitAssignsRow.holds Tryz.pinned (OpenSpec.ofChange transitAssignsWrong)

/- THE SECOND FORM. 'bulk': how many values and letters a reading holds, each counted each time it is reached (what is shared counts as often as it is met; a slice's spare places count too). A statement '..UptoSaid' is the law's where the arguments, and the package variables that the reading takes, are together of bulk at most 1048576: NARROWER than '..Said'. Prove '..Said' where nothing that the law and all that it calls make is longer than what came in: it says more and counts as full. Else prove '..UptoSaid'. A law counts once. -/
mutual
def uptoBulk {H : Type} : DataW H → Nat
  | .lit (.string bytes) => bytes.length + 1
  | .lit _ => 1
  | .nil => 1
  | .ptr d => uptoBulk d + 1
  | .slice elems spare => uptoBulkAll elems + uptoBulkAll spare + 1
  | .agg parts => uptoBulkAll parts + 1
  | .iface _ d => uptoBulk d + 1
  | .map entries => uptoBulkEntries entries + 1
  | .held _ => 1
def uptoBulkAll {H : Type} : List (DataW H) → Nat
  | [] => 0
  | d :: r => uptoBulk d + uptoBulkAll r
def uptoBulkEntries {H : Type} : List (Lit × DataW H) → Nat
  | [] => 0
  | x :: r => uptoBulkEntry x + uptoBulkEntries r
def uptoBulkEntry {H : Type} : Lit × DataW H → Nat
  | (.string bytes, d) => bytes.length + uptoBulk d + 1
  | (_, d) => uptoBulk d + 1
 end
def uptoSmall : (H : Type) → List (DataW H) → Bool := fun _ ds => decide (uptoBulkAll ds ≤ 1048576)
def OpenSpec.upto (s : _root_.Go.ChangeSpec) : _root_.Go.OpenSpec := { _root_.Go.OpenSpec.ofChange s with cond := some uptoSmall }

/-- 'skylanternlaw23.LaunchPaths', WHERE WHAT IT READS IS OF BULK AT MOST 1048576: true; the input reads as it did. -/
def launchPathsUptoRow : OpenClaim := { program := "ytlnoheikolgejaagreat", sum := "b8b89170c6cc6dd0daebba9cfbf63e35c74a924f85a5262567aa28aea0502290", func := "skylantern/skylanternlaw23.LaunchPaths", spec := "launchPaths", inPlace := ["math/bits.Add64", "math/bits.Sub64"], unfollowed := true, recurses := true, named := ["math/bits.divideError", "math/bits.overflowError"], plainKeys := false, apart := false, narrowed := true }
def LaunchPathsUptoSaid : Prop := launchPathsUptoRow.holds Tryz.pinned (OpenSpec.upto launchPathsSpec)

/-- 'skylanternlaw23.LaunchHolds', WHERE WHAT IT READS IS OF BULK AT MOST 1048576: true; the input reads as it did. -/
def launchHoldsUptoRow : OpenClaim := { program := "ytlnoheikolgejaagreat", sum := "b8b89170c6cc6dd0daebba9cfbf63e35c74a924f85a5262567aa28aea0502290", func := "skylantern/skylanternlaw23.LaunchHolds", spec := "launchHolds", inPlace := ["math/bits.Add64", "math/bits.Sub64"], unfollowed := true, recurses := true, named := ["math/bits.divideError", "math/bits.overflowError"], plainKeys := false, apart := false, narrowed := true }
def LaunchHoldsUptoSaid : Prop := launchHoldsUptoRow.holds Tryz.pinned (OpenSpec.upto launchHoldsSpec)

/-- 'skylanternlaw23.LaunchSchedules', WHERE WHAT IT READS IS OF BULK AT MOST 1048576: true; the input reads as it did. -/
def launchSchedulesUptoRow : OpenClaim := { program := "ytlnoheikolgejaagreat", sum := "b8b89170c6cc6dd0daebba9cfbf63e35c74a924f85a5262567aa28aea0502290", func := "skylantern/skylanternlaw23.LaunchSchedules", spec := "launchSchedules", inPlace := ["math/bits.Add64", "math/bits.Sub64"], unfollowed := true, recurses := true, named := ["math/bits.divideError", "math/bits.overflowError"], plainKeys := false, apart := false, narrowed := true }
def LaunchSchedulesUptoSaid : Prop := launchSchedulesUptoRow.holds Tryz.pinned (OpenSpec.upto launchSchedulesSpec)

/-- 'skylanternlaw23.LaunchReturns', WHERE WHAT IT READS IS OF BULK AT MOST 1048576: true; the input reads as it did. -/
def launchReturnsUptoRow : OpenClaim := { program := "ytlnoheikolgejaagreat", sum := "b8b89170c6cc6dd0daebba9cfbf63e35c74a924f85a5262567aa28aea0502290", func := "skylantern/skylanternlaw23.LaunchReturns", spec := "launchReturns", inPlace := ["math/bits.Add64", "math/bits.Sub64"], unfollowed := true, recurses := true, named := ["math/bits.divideError", "math/bits.overflowError"], plainKeys := false, apart := false, narrowed := true }
def LaunchReturnsUptoSaid : Prop := launchReturnsUptoRow.holds Tryz.pinned (OpenSpec.upto launchReturnsSpec)

/-- 'skylanternlaw24.TransitMoves', WHERE WHAT IT READS IS OF BULK AT MOST 1048576: true; the input reads as it did. -/
def transitMovesUptoRow : OpenClaim := { program := "ytlnoheikolgejaagreat", sum := "b8b89170c6cc6dd0daebba9cfbf63e35c74a924f85a5262567aa28aea0502290", func := "skylantern/skylanternlaw24.TransitMoves", spec := "transitMoves", inPlace := ["math/bits.Add64", "math/bits.Sub64"], unfollowed := true, recurses := true, named := ["math/bits.divideError", "math/bits.overflowError"], plainKeys := false, apart := false, narrowed := true }
def TransitMovesUptoSaid : Prop := transitMovesUptoRow.holds Tryz.pinned (OpenSpec.upto transitMovesSpec)

/-- 'skylanternlaw24.TransitPaths', WHERE WHAT IT READS IS OF BULK AT MOST 1048576: true; the input reads as it did. -/
def transitPathsUptoRow : OpenClaim := { program := "ytlnoheikolgejaagreat", sum := "b8b89170c6cc6dd0daebba9cfbf63e35c74a924f85a5262567aa28aea0502290", func := "skylantern/skylanternlaw24.TransitPaths", spec := "transitPaths", inPlace := ["math/bits.Add64", "math/bits.Sub64"], unfollowed := true, recurses := true, named := ["math/bits.divideError", "math/bits.overflowError"], plainKeys := false, apart := false, narrowed := true }
def TransitPathsUptoSaid : Prop := transitPathsUptoRow.holds Tryz.pinned (OpenSpec.upto transitPathsSpec)

/-- 'skylanternlaw24.TransitHolds', WHERE WHAT IT READS IS OF BULK AT MOST 1048576: true; the input reads as it did. -/
def transitHoldsUptoRow : OpenClaim := { program := "ytlnoheikolgejaagreat", sum := "b8b89170c6cc6dd0daebba9cfbf63e35c74a924f85a5262567aa28aea0502290", func := "skylantern/skylanternlaw24.TransitHolds", spec := "transitHolds", inPlace := ["math/bits.Add64", "math/bits.Sub64"], unfollowed := true, recurses := true, named := ["math/bits.divideError", "math/bits.overflowError"], plainKeys := false, apart := false, narrowed := true }
def TransitHoldsUptoSaid : Prop := transitHoldsUptoRow.holds Tryz.pinned (OpenSpec.upto transitHoldsSpec)

/-- 'skylanternlaw24.TransitAssigns', WHERE WHAT IT READS IS OF BULK AT MOST 1048576: true; the input reads as it did. -/
def transitAssignsUptoRow : OpenClaim := { program := "ytlnoheikolgejaagreat", sum := "b8b89170c6cc6dd0daebba9cfbf63e35c74a924f85a5262567aa28aea0502290", func := "skylantern/skylanternlaw24.TransitAssigns", spec := "transitAssigns", inPlace := ["math/bits.Add64", "math/bits.Sub64"], unfollowed := true, recurses := true, named := ["math/bits.divideError", "math/bits.overflowError"], plainKeys := false, apart := false, narrowed := true }
def TransitAssignsUptoSaid : Prop := transitAssignsUptoRow.holds Tryz.pinned (OpenSpec.upto transitAssignsSpec)

end Rows
end Go.Proofs.YtlnoheikolgejaaGreat
