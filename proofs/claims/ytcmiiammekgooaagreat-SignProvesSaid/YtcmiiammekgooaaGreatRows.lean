/-
  No cell of these rows narrows 'for every input' (looked for: loops, veiled, ifaces, maps, wideKeys, modest, calm, conditions, laid).
  DERIVED. THE GIVEN ROWS OF THIS SEAT. 7 by the template 'for every input the law returns true; each argument reads behind the call as it read before'; 0 by the template 'total and deterministic' (their statements: YtcmiiammekgooaaGreatTotals.lean).
  GIVEN WITH THE SEED: the statements are not yours to turn. If you find one false, say at which input.
  Laid BY PROGRAM, IN A SANDBOX (cutbox-rows.mjs): the forced cells as the released guide's own fill.sh prints them over the translation b0d13f4b0364b73e… (all of the seat's roots in one cut). By AI agents, Wed Nov 11 2026. No macro, syntax, notation, axiom, sorry.
-/
import Derived.Test.YtcmiiammekgooaaGreatChecked
import GoSem.Claim
import GoSem.ClaimJoined
import GoSem.ClaimMapViews
import Derived.JoinedTies
import Derived.KernelRfl
namespace Go.Proofs.YtcmiiammekgooaaGreat
/- THE CELL 'sum', in the pinned program and in every row, IS THE sha256 OF THE DUMP (.gsa) THAT YtcmiiammekgooaaGreatProg.lean LOADS. Nothing in Lean hashes anything: it is a label: what it is worth is what the hold of that sum in a sandbox is worth. -/
noncomputable def Tryz.pinned : Pinned := { name := "ytcmiiammekgooaagreat", sum := "b0d13f4b0364b73ebfaaf933dfb3d27f0be335c2af5f60c9ebeb87e5dfb971d2", checked := Tryz.checked }
namespace Rows
def none {H : Type} : Left H := { results := [], args := [] }

/-- 'skylanternlaw04.SignOdd': WHATEVER THE INPUT: true; the input reads as it did. -/
def signOddSpec : ChangeSpec := { name := "signOdd", fn := fun _ => fun
  | [d1, d2] => { results := [.lit (.bool true)], args := [d1, d2] }
  | _ => none }
def signOddRow : OpenClaim := { program := "ytcmiiammekgooaagreat", sum := "b0d13f4b0364b73ebfaaf933dfb3d27f0be335c2af5f60c9ebeb87e5dfb971d2", func := "skylantern/skylanternlaw04.SignOdd", spec := "signOdd", inPlace := ["math/bits.Add64", "math/bits.Sub64"], unfollowed := true, recurses := true, named := ["math/bits.divideError", "math/bits.overflowError"], apart := false }
def SignOddSaid : Prop := signOddRow.holds Tryz.pinned (OpenSpec.ofChange signOddSpec)

/-- ITS FALSE NEIGHBOUR: 'it returns false'. Refute it at one input. -/
def signOddWrong : ChangeSpec := { name := "signOdd", fn := fun _ => fun
  | [d1, d2] => { results := [.lit (.bool false)], args := [d1, d2] }
  | _ => none }
def SignOddWrongFalsely : Prop := signOddRow.holds Tryz.pinned (OpenSpec.ofChange signOddWrong)

/-- 'skylanternlaw04.SignNegatives': WHATEVER THE INPUT: true; the input reads as it did. -/
def signNegativesSpec : ChangeSpec := { name := "signNegatives", fn := fun _ => fun
  | [d1, d2, d3] => { results := [.lit (.bool true)], args := [d1, d2, d3] }
  | _ => none }
def signNegativesRow : OpenClaim := { program := "ytcmiiammekgooaagreat", sum := "b0d13f4b0364b73ebfaaf933dfb3d27f0be335c2af5f60c9ebeb87e5dfb971d2", func := "skylantern/skylanternlaw04.SignNegatives", spec := "signNegatives", inPlace := ["math/bits.Add64", "math/bits.Sub64"], unfollowed := true, recurses := true, named := ["math/bits.divideError", "math/bits.overflowError"], apart := false }
def SignNegativesSaid : Prop := signNegativesRow.holds Tryz.pinned (OpenSpec.ofChange signNegativesSpec)

/-- ITS FALSE NEIGHBOUR: 'it returns false'. Refute it at one input. -/
def signNegativesWrong : ChangeSpec := { name := "signNegatives", fn := fun _ => fun
  | [d1, d2, d3] => { results := [.lit (.bool false)], args := [d1, d2, d3] }
  | _ => none }
def SignNegativesWrongFalsely : Prop := signNegativesRow.holds Tryz.pinned (OpenSpec.ofChange signNegativesWrong)

/-- 'skylanternlaw04.SignFirsts': WHATEVER THE INPUT: true; the input reads as it did. -/
def signFirstsSpec : ChangeSpec := { name := "signFirsts", fn := fun _ => fun
  | [d1, d2, d3, d4] => { results := [.lit (.bool true)], args := [d1, d2, d3, d4] }
  | _ => none }
def signFirstsRow : OpenClaim := { program := "ytcmiiammekgooaagreat", sum := "b0d13f4b0364b73ebfaaf933dfb3d27f0be335c2af5f60c9ebeb87e5dfb971d2", func := "skylantern/skylanternlaw04.SignFirsts", spec := "signFirsts", inPlace := ["math/bits.Add64", "math/bits.Sub64"], unfollowed := true, recurses := true, named := ["math/bits.divideError", "math/bits.overflowError"], apart := false }
def SignFirstsSaid : Prop := signFirstsRow.holds Tryz.pinned (OpenSpec.ofChange signFirstsSpec)

/-- ITS FALSE NEIGHBOUR: 'it returns false'. Refute it at one input. -/
def signFirstsWrong : ChangeSpec := { name := "signFirsts", fn := fun _ => fun
  | [d1, d2, d3, d4] => { results := [.lit (.bool false)], args := [d1, d2, d3, d4] }
  | _ => none }
def SignFirstsWrongFalsely : Prop := signFirstsRow.holds Tryz.pinned (OpenSpec.ofChange signFirstsWrong)

/-- 'skylanternlaw04.SignFloors': WHATEVER THE INPUT: true; the input reads as it did. -/
def signFloorsSpec : ChangeSpec := { name := "signFloors", fn := fun _ => fun
  | [d1, d2] => { results := [.lit (.bool true)], args := [d1, d2] }
  | _ => none }
def signFloorsRow : OpenClaim := { program := "ytcmiiammekgooaagreat", sum := "b0d13f4b0364b73ebfaaf933dfb3d27f0be335c2af5f60c9ebeb87e5dfb971d2", func := "skylantern/skylanternlaw04.SignFloors", spec := "signFloors", inPlace := ["math/bits.Add64", "math/bits.Sub64"], unfollowed := true, recurses := true, named := ["math/bits.divideError", "math/bits.overflowError"], apart := false }
def SignFloorsSaid : Prop := signFloorsRow.holds Tryz.pinned (OpenSpec.ofChange signFloorsSpec)

/-- ITS FALSE NEIGHBOUR: 'it returns false'. Refute it at one input. -/
def signFloorsWrong : ChangeSpec := { name := "signFloors", fn := fun _ => fun
  | [d1, d2] => { results := [.lit (.bool false)], args := [d1, d2] }
  | _ => none }
def SignFloorsWrongFalsely : Prop := signFloorsRow.holds Tryz.pinned (OpenSpec.ofChange signFloorsWrong)

/-- 'skylanternlaw04.SignProves': WHATEVER THE INPUT: true; the input reads as it did. -/
def signProvesSpec : ChangeSpec := { name := "signProves", fn := fun _ => fun
  | [d1, d2, d3] => { results := [.lit (.bool true)], args := [d1, d2, d3] }
  | _ => none }
def signProvesRow : OpenClaim := { program := "ytcmiiammekgooaagreat", sum := "b0d13f4b0364b73ebfaaf933dfb3d27f0be335c2af5f60c9ebeb87e5dfb971d2", func := "skylantern/skylanternlaw04.SignProves", spec := "signProves", inPlace := ["math/bits.Add64", "math/bits.Sub64"], unfollowed := true, recurses := true, named := ["math/bits.divideError", "math/bits.overflowError"], apart := false }
def SignProvesSaid : Prop := signProvesRow.holds Tryz.pinned (OpenSpec.ofChange signProvesSpec)

/-- ITS FALSE NEIGHBOUR: 'it returns false'. Refute it at one input. -/
def signProvesWrong : ChangeSpec := { name := "signProves", fn := fun _ => fun
  | [d1, d2, d3] => { results := [.lit (.bool false)], args := [d1, d2, d3] }
  | _ => none }
def SignProvesWrongFalsely : Prop := signProvesRow.holds Tryz.pinned (OpenSpec.ofChange signProvesWrong)

/-- 'skylanternlaw04.SignChecks': WHATEVER THE INPUT: true; the input reads as it did. -/
def signChecksSpec : ChangeSpec := { name := "signChecks", fn := fun _ => fun
  | [d1, d2, d3, d4, d5] => { results := [.lit (.bool true)], args := [d1, d2, d3, d4, d5] }
  | _ => none }
def signChecksRow : OpenClaim := { program := "ytcmiiammekgooaagreat", sum := "b0d13f4b0364b73ebfaaf933dfb3d27f0be335c2af5f60c9ebeb87e5dfb971d2", func := "skylantern/skylanternlaw04.SignChecks", spec := "signChecks", inPlace := ["math/bits.Add64", "math/bits.Sub64"], unfollowed := true, recurses := true, named := ["math/bits.divideError", "math/bits.overflowError"], apart := false }
def SignChecksSaid : Prop := signChecksRow.holds Tryz.pinned (OpenSpec.ofChange signChecksSpec)

/-- ITS FALSE NEIGHBOUR: 'it returns false'. Refute it at one input. -/
def signChecksWrong : ChangeSpec := { name := "signChecks", fn := fun _ => fun
  | [d1, d2, d3, d4, d5] => { results := [.lit (.bool false)], args := [d1, d2, d3, d4, d5] }
  | _ => none }
def SignChecksWrongFalsely : Prop := signChecksRow.holds Tryz.pinned (OpenSpec.ofChange signChecksWrong)

/-- 'skylanternlaw04.SignHolds': WHATEVER THE INPUT: true; the input reads as it did. -/
def signHoldsSpec : ChangeSpec := { name := "signHolds", fn := fun _ => fun
  | [d1, d2, d3, d4, d5, d6] => { results := [.lit (.bool true)], args := [d1, d2, d3, d4, d5, d6] }
  | _ => none }
def signHoldsRow : OpenClaim := { program := "ytcmiiammekgooaagreat", sum := "b0d13f4b0364b73ebfaaf933dfb3d27f0be335c2af5f60c9ebeb87e5dfb971d2", func := "skylantern/skylanternlaw04.SignHolds", spec := "signHolds", inPlace := ["math/bits.Add64", "math/bits.Sub64"], unfollowed := true, recurses := true, named := ["math/bits.divideError", "math/bits.overflowError"], apart := false }
def SignHoldsSaid : Prop := signHoldsRow.holds Tryz.pinned (OpenSpec.ofChange signHoldsSpec)

/-- ITS FALSE NEIGHBOUR: 'it returns false'. Refute it at one input. -/
def signHoldsWrong : ChangeSpec := { name := "signHolds", fn := fun _ => fun
  | [d1, d2, d3, d4, d5, d6] => { results := [.lit (.bool false)], args := [d1, d2, d3, d4, d5, d6] }
  | _ => none }
def SignHoldsWrongFalsely : Prop := signHoldsRow.holds Tryz.pinned (OpenSpec.ofChange signHoldsWrong)

/- THE SECOND FORM. 'bulk': how many values and letters a reading holds, each counted each time it is reached (what is shared counts as often as it is met; a slice's spare places count too). A statement '..UptoSaid' is the law's where the arguments, and the package variables that the reading takes, are together of bulk at most 1048576: NARROWER than '..Said'. Prove '..Said' where nothing that the law and all that it calls make is longer than what came in: it says more and counts as full. Else prove '..UptoSaid'. A law counts once. -/
mutual
def uptoBulk {H : Type} : DataW H → Nat
  | .lit (.string bytes) => bytes.length + 1
  | .lit _ => 1
  | .nil => 1
  | .ptr d => uptoBulk d + 1
  | .slice elems spare => uptoBulkAll elems + uptoBulkAll spare + 1
  | .agg parts => uptoBulkAll parts + 1
  | .iface _ d => uptoBulk d + 1
  | .map entries => uptoBulkEntries entries + 1
  | .held _ => 1
def uptoBulkAll {H : Type} : List (DataW H) → Nat
  | [] => 0
  | d :: r => uptoBulk d + uptoBulkAll r
def uptoBulkEntries {H : Type} : List (Lit × DataW H) → Nat
  | [] => 0
  | x :: r => uptoBulkEntry x + uptoBulkEntries r
def uptoBulkEntry {H : Type} : Lit × DataW H → Nat
  | (.string bytes, d) => bytes.length + uptoBulk d + 1
  | (_, d) => uptoBulk d + 1
 end
def uptoSmall : (H : Type) → List (DataW H) → Bool := fun _ ds => decide (uptoBulkAll ds ≤ 1048576)
def OpenSpec.upto (s : _root_.Go.ChangeSpec) : _root_.Go.OpenSpec := { _root_.Go.OpenSpec.ofChange s with cond := some uptoSmall }

/-- 'skylanternlaw04.SignOdd', WHERE WHAT IT READS IS OF BULK AT MOST 1048576: true; the input reads as it did. -/
def signOddUptoRow : OpenClaim := { program := "ytcmiiammekgooaagreat", sum := "b0d13f4b0364b73ebfaaf933dfb3d27f0be335c2af5f60c9ebeb87e5dfb971d2", func := "skylantern/skylanternlaw04.SignOdd", spec := "signOdd", inPlace := ["math/bits.Add64", "math/bits.Sub64"], unfollowed := true, recurses := true, named := ["math/bits.divideError", "math/bits.overflowError"], apart := false, narrowed := true }
def SignOddUptoSaid : Prop := signOddUptoRow.holds Tryz.pinned (OpenSpec.upto signOddSpec)

/-- 'skylanternlaw04.SignNegatives', WHERE WHAT IT READS IS OF BULK AT MOST 1048576: true; the input reads as it did. -/
def signNegativesUptoRow : OpenClaim := { program := "ytcmiiammekgooaagreat", sum := "b0d13f4b0364b73ebfaaf933dfb3d27f0be335c2af5f60c9ebeb87e5dfb971d2", func := "skylantern/skylanternlaw04.SignNegatives", spec := "signNegatives", inPlace := ["math/bits.Add64", "math/bits.Sub64"], unfollowed := true, recurses := true, named := ["math/bits.divideError", "math/bits.overflowError"], apart := false, narrowed := true }
def SignNegativesUptoSaid : Prop := signNegativesUptoRow.holds Tryz.pinned (OpenSpec.upto signNegativesSpec)

/-- 'skylanternlaw04.SignFirsts', WHERE WHAT IT READS IS OF BULK AT MOST 1048576: true; the input reads as it did. -/
def signFirstsUptoRow : OpenClaim := { program := "ytcmiiammekgooaagreat", sum := "b0d13f4b0364b73ebfaaf933dfb3d27f0be335c2af5f60c9ebeb87e5dfb971d2", func := "skylantern/skylanternlaw04.SignFirsts", spec := "signFirsts", inPlace := ["math/bits.Add64", "math/bits.Sub64"], unfollowed := true, recurses := true, named := ["math/bits.divideError", "math/bits.overflowError"], apart := false, narrowed := true }
def SignFirstsUptoSaid : Prop := signFirstsUptoRow.holds Tryz.pinned (OpenSpec.upto signFirstsSpec)

/-- 'skylanternlaw04.SignFloors', WHERE WHAT IT READS IS OF BULK AT MOST 1048576: true; the input reads as it did. -/
def signFloorsUptoRow : OpenClaim := { program := "ytcmiiammekgooaagreat", sum := "b0d13f4b0364b73ebfaaf933dfb3d27f0be335c2af5f60c9ebeb87e5dfb971d2", func := "skylantern/skylanternlaw04.SignFloors", spec := "signFloors", inPlace := ["math/bits.Add64", "math/bits.Sub64"], unfollowed := true, recurses := true, named := ["math/bits.divideError", "math/bits.overflowError"], apart := false, narrowed := true }
def SignFloorsUptoSaid : Prop := signFloorsUptoRow.holds Tryz.pinned (OpenSpec.upto signFloorsSpec)

/-- 'skylanternlaw04.SignProves', WHERE WHAT IT READS IS OF BULK AT MOST 1048576: true; the input reads as it did. -/
def signProvesUptoRow : OpenClaim := { program := "ytcmiiammekgooaagreat", sum := "b0d13f4b0364b73ebfaaf933dfb3d27f0be335c2af5f60c9ebeb87e5dfb971d2", func := "skylantern/skylanternlaw04.SignProves", spec := "signProves", inPlace := ["math/bits.Add64", "math/bits.Sub64"], unfollowed := true, recurses := true, named := ["math/bits.divideError", "math/bits.overflowError"], apart := false, narrowed := true }
def SignProvesUptoSaid : Prop := signProvesUptoRow.holds Tryz.pinned (OpenSpec.upto signProvesSpec)

/-- 'skylanternlaw04.SignChecks', WHERE WHAT IT READS IS OF BULK AT MOST 1048576: true; the input reads as it did. -/
def signChecksUptoRow : OpenClaim := { program := "ytcmiiammekgooaagreat", sum := "b0d13f4b0364b73ebfaaf933dfb3d27f0be335c2af5f60c9ebeb87e5dfb971d2", func := "skylantern/skylanternlaw04.SignChecks", spec := "signChecks", inPlace := ["math/bits.Add64", "math/bits.Sub64"], unfollowed := true, recurses := true, named := ["math/bits.divideError", "math/bits.overflowError"], apart := false, narrowed := true }
def SignChecksUptoSaid : Prop := signChecksUptoRow.holds Tryz.pinned (OpenSpec.upto signChecksSpec)

/-- 'skylanternlaw04.SignHolds', WHERE WHAT IT READS IS OF BULK AT MOST 1048576: true; the input reads as it did. -/
def signHoldsUptoRow : OpenClaim := { program := "ytcmiiammekgooaagreat", sum := "b0d13f4b0364b73ebfaaf933dfb3d27f0be335c2af5f60c9ebeb87e5dfb971d2", func := "skylantern/skylanternlaw04.SignHolds", spec := "signHolds", inPlace := ["math/bits.Add64", "math/bits.Sub64"], unfollowed := true, recurses := true, named := ["math/bits.divideError", "math/bits.overflowError"], apart := false, narrowed := true }
def SignHoldsUptoSaid : Prop := signHoldsUptoRow.holds Tryz.pinned (OpenSpec.upto signHoldsSpec)

end Rows
end Go.Proofs.YtcmiiammekgooaaGreat
