/-
  No cell of these rows narrows 'for every input' (looked for: loops, veiled, ifaces, maps, wideKeys, modest, calm, conditions, laid).
  DERIVED. THE GIVEN ROWS OF THIS SEAT. 7 by the template 'for every input the law returns true; each argument reads behind the call as it read before'; 0 by the template 'total and deterministic' (their statements: YtcegclhbeflgbaaGreatTotals.lean).
  GIVEN WITH THE SEED: the statements are not yours to turn. If you find one false, say at which input.
  Laid BY PROGRAM, IN A SANDBOX (cutbox-rows.mjs): the forced cells as the released guide's own fill.sh prints them over the translation fb7cdcfd14af9514… (all of the seat's roots in one cut). By AI agents, Wed Nov 11 2026. No macro, syntax, notation, axiom, sorry.
-/
import Derived.Test.YtcegclhbeflgbaaGreatChecked
import GoSem.Claim
import GoSem.ClaimJoined
import GoSem.ClaimMapViews
import Derived.JoinedTies
import Derived.KernelRfl
namespace Go.Proofs.YtcegclhbeflgbaaGreat
/- THE CELL 'sum', in the pinned program and in every row, IS THE sha256 OF THE DUMP (.gsa) THAT YtcegclhbeflgbaaGreatProg.lean LOADS. Nothing in Lean hashes anything: it is a label: what it is worth is what the hold of that sum in a sandbox is worth. -/
noncomputable def Tryz.pinned : Pinned := { name := "ytcegclhbeflgbaagreat", sum := "fb7cdcfd14af951485eb7de8ff31c1f5992cee0a25f252bb91d6b55c6b68a477", checked := Tryz.checked }
namespace Rows
def none {H : Type} : Left H := { results := [], args := [] }

/-- 'skylanternlaw03.SturmFits': WHATEVER THE INPUT: true; the input reads as it did. -/
def sturmFitsSpec : ChangeSpec := { name := "sturmFits", fn := fun _ => fun
  | [d1, d2] => { results := [.lit (.bool true)], args := [d1, d2] }
  | _ => none }
def sturmFitsRow : OpenClaim := { program := "ytcegclhbeflgbaagreat", sum := "fb7cdcfd14af951485eb7de8ff31c1f5992cee0a25f252bb91d6b55c6b68a477", func := "skylantern/skylanternlaw03.SturmFits", spec := "sturmFits", inPlace := ["math/bits.Add64", "math/bits.Sub64"], unfollowed := true, recurses := true, named := ["math/bits.divideError", "math/bits.overflowError"], apart := false }
def SturmFitsSaid : Prop := sturmFitsRow.holds Tryz.pinned (OpenSpec.ofChange sturmFitsSpec)

/-- ITS FALSE NEIGHBOUR: 'it returns false'. Refute it at one input. -/
def sturmFitsWrong : ChangeSpec := { name := "sturmFits", fn := fun _ => fun
  | [d1, d2] => { results := [.lit (.bool false)], args := [d1, d2] }
  | _ => none }
def SturmFitsWrongFalsely : Prop := sturmFitsRow.holds Tryz.pinned (OpenSpec.ofChange sturmFitsWrong)

/-- 'skylanternlaw03.SturmChains': WHATEVER THE INPUT: true; the input reads as it did. -/
def sturmChainsSpec : ChangeSpec := { name := "sturmChains", fn := fun _ => fun
  | [d] => { results := [.lit (.bool true)], args := [d] }
  | _ => none }
def sturmChainsRow : OpenClaim := { program := "ytcegclhbeflgbaagreat", sum := "fb7cdcfd14af951485eb7de8ff31c1f5992cee0a25f252bb91d6b55c6b68a477", func := "skylantern/skylanternlaw03.SturmChains", spec := "sturmChains", inPlace := ["math/bits.Add64", "math/bits.Sub64"], unfollowed := true, recurses := true, named := ["math/bits.divideError", "math/bits.overflowError"], apart := false }
def SturmChainsSaid : Prop := sturmChainsRow.holds Tryz.pinned (OpenSpec.ofChange sturmChainsSpec)

/-- ITS FALSE NEIGHBOUR: 'it returns false'. Refute it at one input. -/
def sturmChainsWrong : ChangeSpec := { name := "sturmChains", fn := fun _ => fun
  | [d] => { results := [.lit (.bool false)], args := [d] }
  | _ => none }
def SturmChainsWrongFalsely : Prop := sturmChainsRow.holds Tryz.pinned (OpenSpec.ofChange sturmChainsWrong)

/-- 'skylanternlaw03.SturmCounts': WHATEVER THE INPUT: true; the input reads as it did. -/
def sturmCountsSpec : ChangeSpec := { name := "sturmCounts", fn := fun _ => fun
  | [d1, d2, d3] => { results := [.lit (.bool true)], args := [d1, d2, d3] }
  | _ => none }
def sturmCountsRow : OpenClaim := { program := "ytcegclhbeflgbaagreat", sum := "fb7cdcfd14af951485eb7de8ff31c1f5992cee0a25f252bb91d6b55c6b68a477", func := "skylantern/skylanternlaw03.SturmCounts", spec := "sturmCounts", inPlace := ["math/bits.Add64", "math/bits.Sub64"], unfollowed := true, recurses := true, named := ["math/bits.divideError", "math/bits.overflowError"], apart := false }
def SturmCountsSaid : Prop := sturmCountsRow.holds Tryz.pinned (OpenSpec.ofChange sturmCountsSpec)

/-- ITS FALSE NEIGHBOUR: 'it returns false'. Refute it at one input. -/
def sturmCountsWrong : ChangeSpec := { name := "sturmCounts", fn := fun _ => fun
  | [d1, d2, d3] => { results := [.lit (.bool false)], args := [d1, d2, d3] }
  | _ => none }
def SturmCountsWrongFalsely : Prop := sturmCountsRow.holds Tryz.pinned (OpenSpec.ofChange sturmCountsWrong)

/-- 'skylanternlaw03.SturmKnown': WHATEVER THE INPUT: true; the input reads as it did. -/
def sturmKnownSpec : ChangeSpec := { name := "sturmKnown", fn := fun _ => fun
  | [d1, d2, d3, d4, d5] => { results := [.lit (.bool true)], args := [d1, d2, d3, d4, d5] }
  | _ => none }
def sturmKnownRow : OpenClaim := { program := "ytcegclhbeflgbaagreat", sum := "fb7cdcfd14af951485eb7de8ff31c1f5992cee0a25f252bb91d6b55c6b68a477", func := "skylantern/skylanternlaw03.SturmKnown", spec := "sturmKnown", inPlace := ["math/bits.Add64", "math/bits.Sub64"], unfollowed := true, recurses := true, named := ["math/bits.divideError", "math/bits.overflowError"], apart := false }
def SturmKnownSaid : Prop := sturmKnownRow.holds Tryz.pinned (OpenSpec.ofChange sturmKnownSpec)

/-- ITS FALSE NEIGHBOUR: 'it returns false'. Refute it at one input. -/
def sturmKnownWrong : ChangeSpec := { name := "sturmKnown", fn := fun _ => fun
  | [d1, d2, d3, d4, d5] => { results := [.lit (.bool false)], args := [d1, d2, d3, d4, d5] }
  | _ => none }
def SturmKnownWrongFalsely : Prop := sturmKnownRow.holds Tryz.pinned (OpenSpec.ofChange sturmKnownWrong)

/-- 'skylanternlaw03.SturmIsolates': WHATEVER THE INPUT: true; the input reads as it did. -/
def sturmIsolatesSpec : ChangeSpec := { name := "sturmIsolates", fn := fun _ => fun
  | [d1, d2, d3, d4] => { results := [.lit (.bool true)], args := [d1, d2, d3, d4] }
  | _ => none }
def sturmIsolatesRow : OpenClaim := { program := "ytcegclhbeflgbaagreat", sum := "fb7cdcfd14af951485eb7de8ff31c1f5992cee0a25f252bb91d6b55c6b68a477", func := "skylantern/skylanternlaw03.SturmIsolates", spec := "sturmIsolates", inPlace := ["math/bits.Add64", "math/bits.Sub64"], unfollowed := true, recurses := true, named := ["math/bits.divideError", "math/bits.overflowError"], apart := false }
def SturmIsolatesSaid : Prop := sturmIsolatesRow.holds Tryz.pinned (OpenSpec.ofChange sturmIsolatesSpec)

/-- ITS FALSE NEIGHBOUR: 'it returns false'. Refute it at one input. -/
def sturmIsolatesWrong : ChangeSpec := { name := "sturmIsolates", fn := fun _ => fun
  | [d1, d2, d3, d4] => { results := [.lit (.bool false)], args := [d1, d2, d3, d4] }
  | _ => none }
def SturmIsolatesWrongFalsely : Prop := sturmIsolatesRow.holds Tryz.pinned (OpenSpec.ofChange sturmIsolatesWrong)

/-- 'skylanternlaw03.SturmLimits': WHATEVER THE INPUT: true; the input reads as it did. -/
def sturmLimitsSpec : ChangeSpec := { name := "sturmLimits", fn := fun _ => fun
  | [d1, d2] => { results := [.lit (.bool true)], args := [d1, d2] }
  | _ => none }
def sturmLimitsRow : OpenClaim := { program := "ytcegclhbeflgbaagreat", sum := "fb7cdcfd14af951485eb7de8ff31c1f5992cee0a25f252bb91d6b55c6b68a477", func := "skylantern/skylanternlaw03.SturmLimits", spec := "sturmLimits", inPlace := ["math/bits.Add64", "math/bits.Sub64"], unfollowed := true, recurses := true, named := ["math/bits.divideError", "math/bits.overflowError"], apart := false }
def SturmLimitsSaid : Prop := sturmLimitsRow.holds Tryz.pinned (OpenSpec.ofChange sturmLimitsSpec)

/-- ITS FALSE NEIGHBOUR: 'it returns false'. Refute it at one input. -/
def sturmLimitsWrong : ChangeSpec := { name := "sturmLimits", fn := fun _ => fun
  | [d1, d2] => { results := [.lit (.bool false)], args := [d1, d2] }
  | _ => none }
def SturmLimitsWrongFalsely : Prop := sturmLimitsRow.holds Tryz.pinned (OpenSpec.ofChange sturmLimitsWrong)

/-- 'skylanternlaw03.SturmHolds': WHATEVER THE INPUT: true; the input reads as it did. -/
def sturmHoldsSpec : ChangeSpec := { name := "sturmHolds", fn := fun _ => fun
  | [d1, d2, d3, d4, d5] => { results := [.lit (.bool true)], args := [d1, d2, d3, d4, d5] }
  | _ => none }
def sturmHoldsRow : OpenClaim := { program := "ytcegclhbeflgbaagreat", sum := "fb7cdcfd14af951485eb7de8ff31c1f5992cee0a25f252bb91d6b55c6b68a477", func := "skylantern/skylanternlaw03.SturmHolds", spec := "sturmHolds", inPlace := ["math/bits.Add64", "math/bits.Sub64"], unfollowed := true, recurses := true, named := ["math/bits.divideError", "math/bits.overflowError"], apart := false }
def SturmHoldsSaid : Prop := sturmHoldsRow.holds Tryz.pinned (OpenSpec.ofChange sturmHoldsSpec)

/-- ITS FALSE NEIGHBOUR: 'it returns false'. Refute it at one input. -/
def sturmHoldsWrong : ChangeSpec := { name := "sturmHolds", fn := fun _ => fun
  | [d1, d2, d3, d4, d5] => { results := [.lit (.bool false)], args := [d1, d2, d3, d4, d5] }
  | _ => none }
def SturmHoldsWrongFalsely : Prop := sturmHoldsRow.holds Tryz.pinned (OpenSpec.ofChange sturmHoldsWrong)

/- THE SECOND FORM. 'bulk': how many values and letters a reading holds, each counted each time it is reached (what is shared counts as often as it is met; a slice's spare places count too). A statement '..UptoSaid' is the law's where the arguments, and the package variables that the reading takes, are together of bulk at most 1048576: NARROWER than '..Said'. Prove '..Said' where nothing that the law and all that it calls make is longer than what came in: it says more and counts as full. Else prove '..UptoSaid'. A law counts once. -/
mutual
def uptoBulk {H : Type} : DataW H → Nat
  | .lit (.string bytes) => bytes.length + 1
  | .lit _ => 1
  | .nil => 1
  | .ptr d => uptoBulk d + 1
  | .slice elems spare => uptoBulkAll elems + uptoBulkAll spare + 1
  | .agg parts => uptoBulkAll parts + 1
  | .iface _ d => uptoBulk d + 1
  | .map entries => uptoBulkEntries entries + 1
  | .held _ => 1
def uptoBulkAll {H : Type} : List (DataW H) → Nat
  | [] => 0
  | d :: r => uptoBulk d + uptoBulkAll r
def uptoBulkEntries {H : Type} : List (Lit × DataW H) → Nat
  | [] => 0
  | x :: r => uptoBulkEntry x + uptoBulkEntries r
def uptoBulkEntry {H : Type} : Lit × DataW H → Nat
  | (.string bytes, d) => bytes.length + uptoBulk d + 1
  | (_, d) => uptoBulk d + 1
 end
def uptoSmall : (H : Type) → List (DataW H) → Bool := fun _ ds => decide (uptoBulkAll ds ≤ 1048576)
def OpenSpec.upto (s : _root_.Go.ChangeSpec) : _root_.Go.OpenSpec := { _root_.Go.OpenSpec.ofChange s with cond := some uptoSmall }

/-- 'skylanternlaw03.SturmFits', WHERE WHAT IT READS IS OF BULK AT MOST 1048576: true; the input reads as it did. -/
def sturmFitsUptoRow : OpenClaim := { program := "ytcegclhbeflgbaagreat", sum := "fb7cdcfd14af951485eb7de8ff31c1f5992cee0a25f252bb91d6b55c6b68a477", func := "skylantern/skylanternlaw03.SturmFits", spec := "sturmFits", inPlace := ["math/bits.Add64", "math/bits.Sub64"], unfollowed := true, recurses := true, named := ["math/bits.divideError", "math/bits.overflowError"], apart := false, narrowed := true }
def SturmFitsUptoSaid : Prop := sturmFitsUptoRow.holds Tryz.pinned (OpenSpec.upto sturmFitsSpec)

/-- 'skylanternlaw03.SturmChains', WHERE WHAT IT READS IS OF BULK AT MOST 1048576: true; the input reads as it did. -/
def sturmChainsUptoRow : OpenClaim := { program := "ytcegclhbeflgbaagreat", sum := "fb7cdcfd14af951485eb7de8ff31c1f5992cee0a25f252bb91d6b55c6b68a477", func := "skylantern/skylanternlaw03.SturmChains", spec := "sturmChains", inPlace := ["math/bits.Add64", "math/bits.Sub64"], unfollowed := true, recurses := true, named := ["math/bits.divideError", "math/bits.overflowError"], apart := false, narrowed := true }
def SturmChainsUptoSaid : Prop := sturmChainsUptoRow.holds Tryz.pinned (OpenSpec.upto sturmChainsSpec)

/-- 'skylanternlaw03.SturmCounts', WHERE WHAT IT READS IS OF BULK AT MOST 1048576: true; the input reads as it did. -/
def sturmCountsUptoRow : OpenClaim := { program := "ytcegclhbeflgbaagreat", sum := "fb7cdcfd14af951485eb7de8ff31c1f5992cee0a25f252bb91d6b55c6b68a477", func := "skylantern/skylanternlaw03.SturmCounts", spec := "sturmCounts", inPlace := ["math/bits.Add64", "math/bits.Sub64"], unfollowed := true, recurses := true, named := ["math/bits.divideError", "math/bits.overflowError"], apart := false, narrowed := true }
def SturmCountsUptoSaid : Prop := sturmCountsUptoRow.holds Tryz.pinned (OpenSpec.upto sturmCountsSpec)

/-- 'skylanternlaw03.SturmKnown', WHERE WHAT IT READS IS OF BULK AT MOST 1048576: true; the input reads as it did. -/
def sturmKnownUptoRow : OpenClaim := { program := "ytcegclhbeflgbaagreat", sum := "fb7cdcfd14af951485eb7de8ff31c1f5992cee0a25f252bb91d6b55c6b68a477", func := "skylantern/skylanternlaw03.SturmKnown", spec := "sturmKnown", inPlace := ["math/bits.Add64", "math/bits.Sub64"], unfollowed := true, recurses := true, named := ["math/bits.divideError", "math/bits.overflowError"], apart := false, narrowed := true }
def SturmKnownUptoSaid : Prop := sturmKnownUptoRow.holds Tryz.pinned (OpenSpec.upto sturmKnownSpec)

/-- 'skylanternlaw03.SturmIsolates', WHERE WHAT IT READS IS OF BULK AT MOST 1048576: true; the input reads as it did. -/
def sturmIsolatesUptoRow : OpenClaim := { program := "ytcegclhbeflgbaagreat", sum := "fb7cdcfd14af951485eb7de8ff31c1f5992cee0a25f252bb91d6b55c6b68a477", func := "skylantern/skylanternlaw03.SturmIsolates", spec := "sturmIsolates", inPlace := ["math/bits.Add64", "math/bits.Sub64"], unfollowed := true, recurses := true, named := ["math/bits.divideError", "math/bits.overflowError"], apart := false, narrowed := true }
def SturmIsolatesUptoSaid : Prop := sturmIsolatesUptoRow.holds Tryz.pinned (OpenSpec.upto sturmIsolatesSpec)

/-- 'skylanternlaw03.SturmLimits', WHERE WHAT IT READS IS OF BULK AT MOST 1048576: true; the input reads as it did. -/
def sturmLimitsUptoRow : OpenClaim := { program := "ytcegclhbeflgbaagreat", sum := "fb7cdcfd14af951485eb7de8ff31c1f5992cee0a25f252bb91d6b55c6b68a477", func := "skylantern/skylanternlaw03.SturmLimits", spec := "sturmLimits", inPlace := ["math/bits.Add64", "math/bits.Sub64"], unfollowed := true, recurses := true, named := ["math/bits.divideError", "math/bits.overflowError"], apart := false, narrowed := true }
def SturmLimitsUptoSaid : Prop := sturmLimitsUptoRow.holds Tryz.pinned (OpenSpec.upto sturmLimitsSpec)

/-- 'skylanternlaw03.SturmHolds', WHERE WHAT IT READS IS OF BULK AT MOST 1048576: true; the input reads as it did. -/
def sturmHoldsUptoRow : OpenClaim := { program := "ytcegclhbeflgbaagreat", sum := "fb7cdcfd14af951485eb7de8ff31c1f5992cee0a25f252bb91d6b55c6b68a477", func := "skylantern/skylanternlaw03.SturmHolds", spec := "sturmHolds", inPlace := ["math/bits.Add64", "math/bits.Sub64"], unfollowed := true, recurses := true, named := ["math/bits.divideError", "math/bits.overflowError"], apart := false, narrowed := true }
def SturmHoldsUptoSaid : Prop := sturmHoldsUptoRow.holds Tryz.pinned (OpenSpec.upto sturmHoldsSpec)

end Rows
end Go.Proofs.YtcegclhbeflgbaaGreat
