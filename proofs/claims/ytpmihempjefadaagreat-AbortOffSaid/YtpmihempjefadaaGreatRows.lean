/-
  No cell of these rows narrows 'for every input' (looked for: loops, veiled, ifaces, maps, wideKeys, modest, calm, conditions, laid).
  DERIVED. THE GIVEN ROWS OF THIS SEAT. 12 by the template 'for every input the law returns true; each argument reads behind the call as it read before'; 0 by the template 'total and deterministic' (their statements: YtpmihempjefadaaGreatTotals.lean).
  GIVEN WITH THE SEED: the statements are not yours to turn. If you find one false, say at which input.
  Laid BY PROGRAM, IN A SANDBOX (cutbox-rows.mjs): the forced cells as the released guide's own fill.sh prints them over the translation 741a4c1f69a076be… (all of the seat's roots in one cut). By AI agents, Wed Nov 11 2026. No macro, syntax, notation, axiom, sorry.
-/
import Derived.Test.YtpmihempjefadaaGreatChecked
import GoSem.Claim
import GoSem.ClaimJoined
import GoSem.ClaimMapViews
import Derived.JoinedTies
import Derived.KernelRfl
namespace Go.Proofs.YtpmihempjefadaaGreat
/- THE CELL 'sum', in the pinned program and in every row, IS THE sha256 OF THE DUMP (.gsa) THAT YtpmihempjefadaaGreatProg.lean LOADS. Nothing in Lean hashes anything: it is a label: what it is worth is what the hold of that sum in a sandbox is worth. -/
noncomputable def Tryz.pinned : Pinned := { name := "ytpmihempjefadaagreat", sum := "741a4c1f69a076be74cd286c53e6f4685db3bb58bd2b66f19b6d4af468643d5a", checked := Tryz.checked }
namespace Rows
def none {H : Type} : Left H := { results := [], args := [] }

/-- 'skylanternlaw16.LimitsGlides': WHATEVER THE INPUT: true; the input reads as it did. -/
def limitsGlidesSpec : ChangeSpec := { name := "limitsGlides", fn := fun _ => fun
  | [d1, d2, d3] => { results := [.lit (.bool true)], args := [d1, d2, d3] }
  | _ => none }
def limitsGlidesRow : OpenClaim := { program := "ytpmihempjefadaagreat", sum := "741a4c1f69a076be74cd286c53e6f4685db3bb58bd2b66f19b6d4af468643d5a", func := "skylantern/skylanternlaw16.LimitsGlides", spec := "limitsGlides", inPlace := ["math/bits.Add64", "math/bits.Sub64"], unfollowed := true, recurses := true, named := ["math/bits.divideError", "math/bits.overflowError"], plainKeys := false, apart := false }
def LimitsGlidesSaid : Prop := limitsGlidesRow.holds Tryz.pinned (OpenSpec.ofChange limitsGlidesSpec)

/-- ITS FALSE NEIGHBOUR: 'it returns false'. Refute it at one input. -/
def limitsGlidesWrong : ChangeSpec := { name := "limitsGlides", fn := fun _ => fun
  | [d1, d2, d3] => { results := [.lit (.bool false)], args := [d1, d2, d3] }
  | _ => none }
def LimitsGlidesWrongFalsely : Prop := limitsGlidesRow.holds Tryz.pinned (OpenSpec.ofChange limitsGlidesWrong)

/-- 'skylanternlaw23.LaunchPaths': WHATEVER THE INPUT: true; the input reads as it did. -/
def launchPathsSpec : ChangeSpec := { name := "launchPaths", fn := fun _ => fun
  | [d1, d2, d3, d4, d5] => { results := [.lit (.bool true)], args := [d1, d2, d3, d4, d5] }
  | _ => none }
def launchPathsRow : OpenClaim := { program := "ytpmihempjefadaagreat", sum := "741a4c1f69a076be74cd286c53e6f4685db3bb58bd2b66f19b6d4af468643d5a", func := "skylantern/skylanternlaw23.LaunchPaths", spec := "launchPaths", inPlace := ["math/bits.Add64", "math/bits.Sub64"], unfollowed := true, recurses := true, named := ["math/bits.divideError", "math/bits.overflowError"], plainKeys := false, apart := false }
def LaunchPathsSaid : Prop := launchPathsRow.holds Tryz.pinned (OpenSpec.ofChange launchPathsSpec)

/-- ITS FALSE NEIGHBOUR: 'it returns false'. Refute it at one input. -/
def launchPathsWrong : ChangeSpec := { name := "launchPaths", fn := fun _ => fun
  | [d1, d2, d3, d4, d5] => { results := [.lit (.bool false)], args := [d1, d2, d3, d4, d5] }
  | _ => none }
def LaunchPathsWrongFalsely : Prop := launchPathsRow.holds Tryz.pinned (OpenSpec.ofChange launchPathsWrong)

/-- 'skylanternlaw23.LaunchHolds': WHATEVER THE INPUT: true; the input reads as it did. -/
def launchHoldsSpec : ChangeSpec := { name := "launchHolds", fn := fun _ => fun
  | [d1, d2, d3, d4, d5] => { results := [.lit (.bool true)], args := [d1, d2, d3, d4, d5] }
  | _ => none }
def launchHoldsRow : OpenClaim := { program := "ytpmihempjefadaagreat", sum := "741a4c1f69a076be74cd286c53e6f4685db3bb58bd2b66f19b6d4af468643d5a", func := "skylantern/skylanternlaw23.LaunchHolds", spec := "launchHolds", inPlace := ["math/bits.Add64", "math/bits.Sub64"], unfollowed := true, recurses := true, named := ["math/bits.divideError", "math/bits.overflowError"], plainKeys := false, apart := false }
def LaunchHoldsSaid : Prop := launchHoldsRow.holds Tryz.pinned (OpenSpec.ofChange launchHoldsSpec)

/-- ITS FALSE NEIGHBOUR: 'it returns false'. Refute it at one input. -/
def launchHoldsWrong : ChangeSpec := { name := "launchHolds", fn := fun _ => fun
  | [d1, d2, d3, d4, d5] => { results := [.lit (.bool false)], args := [d1, d2, d3, d4, d5] }
  | _ => none }
def LaunchHoldsWrongFalsely : Prop := launchHoldsRow.holds Tryz.pinned (OpenSpec.ofChange launchHoldsWrong)

/-- 'skylanternlaw23.LaunchSchedules': WHATEVER THE INPUT: true; the input reads as it did. -/
def launchSchedulesSpec : ChangeSpec := { name := "launchSchedules", fn := fun _ => fun
  | [d1, d2, d3, d4, d5, d6, d7] => { results := [.lit (.bool true)], args := [d1, d2, d3, d4, d5, d6, d7] }
  | _ => none }
def launchSchedulesRow : OpenClaim := { program := "ytpmihempjefadaagreat", sum := "741a4c1f69a076be74cd286c53e6f4685db3bb58bd2b66f19b6d4af468643d5a", func := "skylantern/skylanternlaw23.LaunchSchedules", spec := "launchSchedules", inPlace := ["math/bits.Add64", "math/bits.Sub64"], unfollowed := true, recurses := true, named := ["math/bits.divideError", "math/bits.overflowError"], plainKeys := false, apart := false }
def LaunchSchedulesSaid : Prop := launchSchedulesRow.holds Tryz.pinned (OpenSpec.ofChange launchSchedulesSpec)

/-- ITS FALSE NEIGHBOUR: 'it returns false'. Refute it at one input. -/
def launchSchedulesWrong : ChangeSpec := { name := "launchSchedules", fn := fun _ => fun
  | [d1, d2, d3, d4, d5, d6, d7] => { results := [.lit (.bool false)], args := [d1, d2, d3, d4, d5, d6, d7] }
  | _ => none }
def LaunchSchedulesWrongFalsely : Prop := launchSchedulesRow.holds Tryz.pinned (OpenSpec.ofChange launchSchedulesWrong)

/-- 'skylanternlaw23.LaunchReturns': WHATEVER THE INPUT: true; the input reads as it did. -/
def launchReturnsSpec : ChangeSpec := { name := "launchReturns", fn := fun _ => fun
  | [d1, d2, d3, d4, d5, d6] => { results := [.lit (.bool true)], args := [d1, d2, d3, d4, d5, d6] }
  | _ => none }
def launchReturnsRow : OpenClaim := { program := "ytpmihempjefadaagreat", sum := "741a4c1f69a076be74cd286c53e6f4685db3bb58bd2b66f19b6d4af468643d5a", func := "skylantern/skylanternlaw23.LaunchReturns", spec := "launchReturns", inPlace := ["math/bits.Add64", "math/bits.Sub64"], unfollowed := true, recurses := true, named := ["math/bits.divideError", "math/bits.overflowError"], plainKeys := false, apart := false }
def LaunchReturnsSaid : Prop := launchReturnsRow.holds Tryz.pinned (OpenSpec.ofChange launchReturnsSpec)

/-- ITS FALSE NEIGHBOUR: 'it returns false'. Refute it at one input. -/
def launchReturnsWrong : ChangeSpec := { name := "launchReturns", fn := fun _ => fun
  | [d1, d2, d3, d4, d5, d6] => { results := [.lit (.bool false)], args := [d1, d2, d3, d4, d5, d6] }
  | _ => none }
def LaunchReturnsWrongFalsely : Prop := launchReturnsRow.holds Tryz.pinned (OpenSpec.ofChange launchReturnsWrong)

/-- 'skylanternlaw44.AbortWindows': WHATEVER THE INPUT: true; the input reads as it did. -/
def abortWindowsSpec : ChangeSpec := { name := "abortWindows", fn := fun _ => fun
  | [d1, d2, d3] => { results := [.lit (.bool true)], args := [d1, d2, d3] }
  | _ => none }
def abortWindowsRow : OpenClaim := { program := "ytpmihempjefadaagreat", sum := "741a4c1f69a076be74cd286c53e6f4685db3bb58bd2b66f19b6d4af468643d5a", func := "skylantern/skylanternlaw44.AbortWindows", spec := "abortWindows", inPlace := ["math/bits.Add64", "math/bits.Sub64"], unfollowed := true, recurses := true, named := ["math/bits.divideError", "math/bits.overflowError"], plainKeys := false, apart := false }
def AbortWindowsSaid : Prop := abortWindowsRow.holds Tryz.pinned (OpenSpec.ofChange abortWindowsSpec)

/-- ITS FALSE NEIGHBOUR: 'it returns false'. Refute it at one input. -/
def abortWindowsWrong : ChangeSpec := { name := "abortWindows", fn := fun _ => fun
  | [d1, d2, d3] => { results := [.lit (.bool false)], args := [d1, d2, d3] }
  | _ => none }
def AbortWindowsWrongFalsely : Prop := abortWindowsRow.holds Tryz.pinned (OpenSpec.ofChange abortWindowsWrong)

/-- 'skylanternlaw44.AbortOff': WHATEVER THE INPUT: true; the input reads as it did. -/
def abortOffSpec : ChangeSpec := { name := "abortOff", fn := fun _ => fun
  | [d1, d2, d3] => { results := [.lit (.bool true)], args := [d1, d2, d3] }
  | _ => none }
def abortOffRow : OpenClaim := { program := "ytpmihempjefadaagreat", sum := "741a4c1f69a076be74cd286c53e6f4685db3bb58bd2b66f19b6d4af468643d5a", func := "skylantern/skylanternlaw44.AbortOff", spec := "abortOff", inPlace := ["math/bits.Add64", "math/bits.Sub64"], unfollowed := true, recurses := true, named := ["math/bits.divideError", "math/bits.overflowError"], plainKeys := false, apart := false }
def AbortOffSaid : Prop := abortOffRow.holds Tryz.pinned (OpenSpec.ofChange abortOffSpec)

/-- ITS FALSE NEIGHBOUR: 'it returns false'. Refute it at one input. -/
def abortOffWrong : ChangeSpec := { name := "abortOff", fn := fun _ => fun
  | [d1, d2, d3] => { results := [.lit (.bool false)], args := [d1, d2, d3] }
  | _ => none }
def AbortOffWrongFalsely : Prop := abortOffRow.holds Tryz.pinned (OpenSpec.ofChange abortOffWrong)

/-- 'skylanternlaw44.AbortOutside': WHATEVER THE INPUT: true; the input reads as it did. -/
def abortOutsideSpec : ChangeSpec := { name := "abortOutside", fn := fun _ => fun
  | [d1, d2, d3] => { results := [.lit (.bool true)], args := [d1, d2, d3] }
  | _ => none }
def abortOutsideRow : OpenClaim := { program := "ytpmihempjefadaagreat", sum := "741a4c1f69a076be74cd286c53e6f4685db3bb58bd2b66f19b6d4af468643d5a", func := "skylantern/skylanternlaw44.AbortOutside", spec := "abortOutside", inPlace := ["math/bits.Add64", "math/bits.Sub64"], unfollowed := true, recurses := true, named := ["math/bits.divideError", "math/bits.overflowError"], plainKeys := false, apart := false }
def AbortOutsideSaid : Prop := abortOutsideRow.holds Tryz.pinned (OpenSpec.ofChange abortOutsideSpec)

/-- ITS FALSE NEIGHBOUR: 'it returns false'. Refute it at one input. -/
def abortOutsideWrong : ChangeSpec := { name := "abortOutside", fn := fun _ => fun
  | [d1, d2, d3] => { results := [.lit (.bool false)], args := [d1, d2, d3] }
  | _ => none }
def AbortOutsideWrongFalsely : Prop := abortOutsideRow.holds Tryz.pinned (OpenSpec.ofChange abortOutsideWrong)

/-- 'skylanternlaw44.AbortDecides': WHATEVER THE INPUT: true; the input reads as it did. -/
def abortDecidesSpec : ChangeSpec := { name := "abortDecides", fn := fun _ => fun
  | [d1, d2, d3, d4] => { results := [.lit (.bool true)], args := [d1, d2, d3, d4] }
  | _ => none }
def abortDecidesRow : OpenClaim := { program := "ytpmihempjefadaagreat", sum := "741a4c1f69a076be74cd286c53e6f4685db3bb58bd2b66f19b6d4af468643d5a", func := "skylantern/skylanternlaw44.AbortDecides", spec := "abortDecides", inPlace := ["math/bits.Add64", "math/bits.Sub64"], unfollowed := true, recurses := true, named := ["math/bits.divideError", "math/bits.overflowError"], plainKeys := false, apart := false }
def AbortDecidesSaid : Prop := abortDecidesRow.holds Tryz.pinned (OpenSpec.ofChange abortDecidesSpec)

/-- ITS FALSE NEIGHBOUR: 'it returns false'. Refute it at one input. -/
def abortDecidesWrong : ChangeSpec := { name := "abortDecides", fn := fun _ => fun
  | [d1, d2, d3, d4] => { results := [.lit (.bool false)], args := [d1, d2, d3, d4] }
  | _ => none }
def AbortDecidesWrongFalsely : Prop := abortDecidesRow.holds Tryz.pinned (OpenSpec.ofChange abortDecidesWrong)

/-- 'skylanternlaw44.AbortFirst': WHATEVER THE INPUT: true; the input reads as it did. -/
def abortFirstSpec : ChangeSpec := { name := "abortFirst", fn := fun _ => fun
  | [d1, d2, d3, d4] => { results := [.lit (.bool true)], args := [d1, d2, d3, d4] }
  | _ => none }
def abortFirstRow : OpenClaim := { program := "ytpmihempjefadaagreat", sum := "741a4c1f69a076be74cd286c53e6f4685db3bb58bd2b66f19b6d4af468643d5a", func := "skylantern/skylanternlaw44.AbortFirst", spec := "abortFirst", inPlace := ["math/bits.Add64", "math/bits.Sub64"], unfollowed := true, recurses := true, named := ["math/bits.divideError", "math/bits.overflowError"], plainKeys := false, apart := false }
def AbortFirstSaid : Prop := abortFirstRow.holds Tryz.pinned (OpenSpec.ofChange abortFirstSpec)

/-- ITS FALSE NEIGHBOUR: 'it returns false'. Refute it at one input. -/
def abortFirstWrong : ChangeSpec := { name := "abortFirst", fn := fun _ => fun
  | [d1, d2, d3, d4] => { results := [.lit (.bool false)], args := [d1, d2, d3, d4] }
  | _ => none }
def AbortFirstWrongFalsely : Prop := abortFirstRow.holds Tryz.pinned (OpenSpec.ofChange abortFirstWrong)

/-- 'skylanternlaw44.AbortHolds': WHATEVER THE INPUT: true; the input reads as it did. -/
def abortHoldsSpec : ChangeSpec := { name := "abortHolds", fn := fun _ => fun
  | [d1, d2, d3, d4, d5, d6, d7] => { results := [.lit (.bool true)], args := [d1, d2, d3, d4, d5, d6, d7] }
  | _ => none }
def abortHoldsRow : OpenClaim := { program := "ytpmihempjefadaagreat", sum := "741a4c1f69a076be74cd286c53e6f4685db3bb58bd2b66f19b6d4af468643d5a", func := "skylantern/skylanternlaw44.AbortHolds", spec := "abortHolds", inPlace := ["math/bits.Add64", "math/bits.Sub64"], unfollowed := true, recurses := true, named := ["math/bits.divideError", "math/bits.overflowError"], plainKeys := false, apart := false }
def AbortHoldsSaid : Prop := abortHoldsRow.holds Tryz.pinned (OpenSpec.ofChange abortHoldsSpec)

/-- ITS FALSE NEIGHBOUR: 'it returns false'. Refute it at one input. -/
def abortHoldsWrong : ChangeSpec := { name := "abortHolds", fn := fun _ => fun
  | [d1, d2, d3, d4, d5, d6, d7] => { results := [.lit (.bool false)], args := [d1, d2, d3, d4, d5, d6, d7] }
  | _ => none }
def AbortHoldsWrongFalsely : Prop := abortHoldsRow.holds Tryz.pinned (OpenSpec.ofChange abortHoldsWrong)

/-- 'skylanternlaw44.AbortAsks': WHATEVER THE INPUT: true; the input reads as it did. -/
def abortAsksSpec : ChangeSpec := { name := "abortAsks", fn := fun _ => fun
  | [d1, d2, d3, d4, d5, d6, d7] => { results := [.lit (.bool true)], args := [d1, d2, d3, d4, d5, d6, d7] }
  | _ => none }
def abortAsksRow : OpenClaim := { program := "ytpmihempjefadaagreat", sum := "741a4c1f69a076be74cd286c53e6f4685db3bb58bd2b66f19b6d4af468643d5a", func := "skylantern/skylanternlaw44.AbortAsks", spec := "abortAsks", inPlace := ["math/bits.Add64", "math/bits.Sub64"], unfollowed := true, recurses := true, named := ["math/bits.divideError", "math/bits.overflowError"], plainKeys := false, apart := false }
def AbortAsksSaid : Prop := abortAsksRow.holds Tryz.pinned (OpenSpec.ofChange abortAsksSpec)

/-- ITS FALSE NEIGHBOUR: 'it returns false'. Refute it at one input. -/
def abortAsksWrong : ChangeSpec := { name := "abortAsks", fn := fun _ => fun
  | [d1, d2, d3, d4, d5, d6, d7] => { results := [.lit (.bool false)], args := [d1, d2, d3, d4, d5, d6, d7] }
  | _ => none }
def AbortAsksWrongFalsely : Prop := abortAsksRow.holds Tryz.pinned (OpenSpec.ofChange abortAsksWrong)

/- THE SECOND FORM. 'bulk': how many values and letters a reading holds, each counted each time it is reached (what is shared counts as often as it is met; a slice's spare places count too). A statement '..UptoSaid' is the law's where the arguments, and the package variables that the reading takes, are together of bulk at most 1048576: NARROWER than '..Said'. Prove '..Said' where nothing that the law and all that it calls make is longer than what came in: it says more and counts as full. Else prove '..UptoSaid'. A law counts once. -/
mutual
def uptoBulk {H : Type} : DataW H → Nat
  | .lit (.string bytes) => bytes.length + 1
  | .lit _ => 1
  | .nil => 1
  | .ptr d => uptoBulk d + 1
  | .slice elems spare => uptoBulkAll elems + uptoBulkAll spare + 1
  | .agg parts => uptoBulkAll parts + 1
  | .iface _ d => uptoBulk d + 1
  | .map entries => uptoBulkEntries entries + 1
  | .held _ => 1
def uptoBulkAll {H : Type} : List (DataW H) → Nat
  | [] => 0
  | d :: r => uptoBulk d + uptoBulkAll r
def uptoBulkEntries {H : Type} : List (Lit × DataW H) → Nat
  | [] => 0
  | x :: r => uptoBulkEntry x + uptoBulkEntries r
def uptoBulkEntry {H : Type} : Lit × DataW H → Nat
  | (.string bytes, d) => bytes.length + uptoBulk d + 1
  | (_, d) => uptoBulk d + 1
 end
def uptoSmall : (H : Type) → List (DataW H) → Bool := fun _ ds => decide (uptoBulkAll ds ≤ 1048576)
def OpenSpec.upto (s : _root_.Go.ChangeSpec) : _root_.Go.OpenSpec := { _root_.Go.OpenSpec.ofChange s with cond := some uptoSmall }

/-- 'skylanternlaw16.LimitsGlides', WHERE WHAT IT READS IS OF BULK AT MOST 1048576: true; the input reads as it did. -/
def limitsGlidesUptoRow : OpenClaim := { program := "ytpmihempjefadaagreat", sum := "741a4c1f69a076be74cd286c53e6f4685db3bb58bd2b66f19b6d4af468643d5a", func := "skylantern/skylanternlaw16.LimitsGlides", spec := "limitsGlides", inPlace := ["math/bits.Add64", "math/bits.Sub64"], unfollowed := true, recurses := true, named := ["math/bits.divideError", "math/bits.overflowError"], plainKeys := false, apart := false, narrowed := true }
def LimitsGlidesUptoSaid : Prop := limitsGlidesUptoRow.holds Tryz.pinned (OpenSpec.upto limitsGlidesSpec)

/-- 'skylanternlaw23.LaunchPaths', WHERE WHAT IT READS IS OF BULK AT MOST 1048576: true; the input reads as it did. -/
def launchPathsUptoRow : OpenClaim := { program := "ytpmihempjefadaagreat", sum := "741a4c1f69a076be74cd286c53e6f4685db3bb58bd2b66f19b6d4af468643d5a", func := "skylantern/skylanternlaw23.LaunchPaths", spec := "launchPaths", inPlace := ["math/bits.Add64", "math/bits.Sub64"], unfollowed := true, recurses := true, named := ["math/bits.divideError", "math/bits.overflowError"], plainKeys := false, apart := false, narrowed := true }
def LaunchPathsUptoSaid : Prop := launchPathsUptoRow.holds Tryz.pinned (OpenSpec.upto launchPathsSpec)

/-- 'skylanternlaw23.LaunchHolds', WHERE WHAT IT READS IS OF BULK AT MOST 1048576: true; the input reads as it did. -/
def launchHoldsUptoRow : OpenClaim := { program := "ytpmihempjefadaagreat", sum := "741a4c1f69a076be74cd286c53e6f4685db3bb58bd2b66f19b6d4af468643d5a", func := "skylantern/skylanternlaw23.LaunchHolds", spec := "launchHolds", inPlace := ["math/bits.Add64", "math/bits.Sub64"], unfollowed := true, recurses := true, named := ["math/bits.divideError", "math/bits.overflowError"], plainKeys := false, apart := false, narrowed := true }
def LaunchHoldsUptoSaid : Prop := launchHoldsUptoRow.holds Tryz.pinned (OpenSpec.upto launchHoldsSpec)

/-- 'skylanternlaw23.LaunchSchedules', WHERE WHAT IT READS IS OF BULK AT MOST 1048576: true; the input reads as it did. -/
def launchSchedulesUptoRow : OpenClaim := { program := "ytpmihempjefadaagreat", sum := "741a4c1f69a076be74cd286c53e6f4685db3bb58bd2b66f19b6d4af468643d5a", func := "skylantern/skylanternlaw23.LaunchSchedules", spec := "launchSchedules", inPlace := ["math/bits.Add64", "math/bits.Sub64"], unfollowed := true, recurses := true, named := ["math/bits.divideError", "math/bits.overflowError"], plainKeys := false, apart := false, narrowed := true }
def LaunchSchedulesUptoSaid : Prop := launchSchedulesUptoRow.holds Tryz.pinned (OpenSpec.upto launchSchedulesSpec)

/-- 'skylanternlaw23.LaunchReturns', WHERE WHAT IT READS IS OF BULK AT MOST 1048576: true; the input reads as it did. -/
def launchReturnsUptoRow : OpenClaim := { program := "ytpmihempjefadaagreat", sum := "741a4c1f69a076be74cd286c53e6f4685db3bb58bd2b66f19b6d4af468643d5a", func := "skylantern/skylanternlaw23.LaunchReturns", spec := "launchReturns", inPlace := ["math/bits.Add64", "math/bits.Sub64"], unfollowed := true, recurses := true, named := ["math/bits.divideError", "math/bits.overflowError"], plainKeys := false, apart := false, narrowed := true }
def LaunchReturnsUptoSaid : Prop := launchReturnsUptoRow.holds Tryz.pinned (OpenSpec.upto launchReturnsSpec)

/-- 'skylanternlaw44.AbortWindows', WHERE WHAT IT READS IS OF BULK AT MOST 1048576: true; the input reads as it did. -/
def abortWindowsUptoRow : OpenClaim := { program := "ytpmihempjefadaagreat", sum := "741a4c1f69a076be74cd286c53e6f4685db3bb58bd2b66f19b6d4af468643d5a", func := "skylantern/skylanternlaw44.AbortWindows", spec := "abortWindows", inPlace := ["math/bits.Add64", "math/bits.Sub64"], unfollowed := true, recurses := true, named := ["math/bits.divideError", "math/bits.overflowError"], plainKeys := false, apart := false, narrowed := true }
def AbortWindowsUptoSaid : Prop := abortWindowsUptoRow.holds Tryz.pinned (OpenSpec.upto abortWindowsSpec)

/-- 'skylanternlaw44.AbortOff', WHERE WHAT IT READS IS OF BULK AT MOST 1048576: true; the input reads as it did. -/
def abortOffUptoRow : OpenClaim := { program := "ytpmihempjefadaagreat", sum := "741a4c1f69a076be74cd286c53e6f4685db3bb58bd2b66f19b6d4af468643d5a", func := "skylantern/skylanternlaw44.AbortOff", spec := "abortOff", inPlace := ["math/bits.Add64", "math/bits.Sub64"], unfollowed := true, recurses := true, named := ["math/bits.divideError", "math/bits.overflowError"], plainKeys := false, apart := false, narrowed := true }
def AbortOffUptoSaid : Prop := abortOffUptoRow.holds Tryz.pinned (OpenSpec.upto abortOffSpec)

/-- 'skylanternlaw44.AbortOutside', WHERE WHAT IT READS IS OF BULK AT MOST 1048576: true; the input reads as it did. -/
def abortOutsideUptoRow : OpenClaim := { program := "ytpmihempjefadaagreat", sum := "741a4c1f69a076be74cd286c53e6f4685db3bb58bd2b66f19b6d4af468643d5a", func := "skylantern/skylanternlaw44.AbortOutside", spec := "abortOutside", inPlace := ["math/bits.Add64", "math/bits.Sub64"], unfollowed := true, recurses := true, named := ["math/bits.divideError", "math/bits.overflowError"], plainKeys := false, apart := false, narrowed := true }
def AbortOutsideUptoSaid : Prop := abortOutsideUptoRow.holds Tryz.pinned (OpenSpec.upto abortOutsideSpec)

/-- 'skylanternlaw44.AbortDecides', WHERE WHAT IT READS IS OF BULK AT MOST 1048576: true; the input reads as it did. -/
def abortDecidesUptoRow : OpenClaim := { program := "ytpmihempjefadaagreat", sum := "741a4c1f69a076be74cd286c53e6f4685db3bb58bd2b66f19b6d4af468643d5a", func := "skylantern/skylanternlaw44.AbortDecides", spec := "abortDecides", inPlace := ["math/bits.Add64", "math/bits.Sub64"], unfollowed := true, recurses := true, named := ["math/bits.divideError", "math/bits.overflowError"], plainKeys := false, apart := false, narrowed := true }
def AbortDecidesUptoSaid : Prop := abortDecidesUptoRow.holds Tryz.pinned (OpenSpec.upto abortDecidesSpec)

/-- 'skylanternlaw44.AbortFirst', WHERE WHAT IT READS IS OF BULK AT MOST 1048576: true; the input reads as it did. -/
def abortFirstUptoRow : OpenClaim := { program := "ytpmihempjefadaagreat", sum := "741a4c1f69a076be74cd286c53e6f4685db3bb58bd2b66f19b6d4af468643d5a", func := "skylantern/skylanternlaw44.AbortFirst", spec := "abortFirst", inPlace := ["math/bits.Add64", "math/bits.Sub64"], unfollowed := true, recurses := true, named := ["math/bits.divideError", "math/bits.overflowError"], plainKeys := false, apart := false, narrowed := true }
def AbortFirstUptoSaid : Prop := abortFirstUptoRow.holds Tryz.pinned (OpenSpec.upto abortFirstSpec)

/-- 'skylanternlaw44.AbortHolds', WHERE WHAT IT READS IS OF BULK AT MOST 1048576: true; the input reads as it did. -/
def abortHoldsUptoRow : OpenClaim := { program := "ytpmihempjefadaagreat", sum := "741a4c1f69a076be74cd286c53e6f4685db3bb58bd2b66f19b6d4af468643d5a", func := "skylantern/skylanternlaw44.AbortHolds", spec := "abortHolds", inPlace := ["math/bits.Add64", "math/bits.Sub64"], unfollowed := true, recurses := true, named := ["math/bits.divideError", "math/bits.overflowError"], plainKeys := false, apart := false, narrowed := true }
def AbortHoldsUptoSaid : Prop := abortHoldsUptoRow.holds Tryz.pinned (OpenSpec.upto abortHoldsSpec)

/-- 'skylanternlaw44.AbortAsks', WHERE WHAT IT READS IS OF BULK AT MOST 1048576: true; the input reads as it did. -/
def abortAsksUptoRow : OpenClaim := { program := "ytpmihempjefadaagreat", sum := "741a4c1f69a076be74cd286c53e6f4685db3bb58bd2b66f19b6d4af468643d5a", func := "skylantern/skylanternlaw44.AbortAsks", spec := "abortAsks", inPlace := ["math/bits.Add64", "math/bits.Sub64"], unfollowed := true, recurses := true, named := ["math/bits.divideError", "math/bits.overflowError"], plainKeys := false, apart := false, narrowed := true }
def AbortAsksUptoSaid : Prop := abortAsksUptoRow.holds Tryz.pinned (OpenSpec.upto abortAsksSpec)

end Rows
end Go.Proofs.YtpmihempjefadaaGreat
