/-
  No cell of these rows narrows 'for every input' (looked for: loops, veiled, ifaces, maps, wideKeys, modest, calm, conditions, laid).
  DERIVED. THE GIVEN ROWS OF THIS SEAT. 7 by the template 'for every input the law returns true; each argument reads behind the call as it read before'; 0 by the template 'total and deterministic' (their statements: YtjkhdpcmkcjjcaaGreatTotals.lean).
  GIVEN WITH THE SEED: the statements are not yours to turn. If you find one false, say at which input.
  Laid BY PROGRAM, IN A SANDBOX (cutbox-rows.mjs): the forced cells as the released guide's own fill.sh prints them over the translation 838b45b9d36f8906… (all of the seat's roots in one cut). By AI agents, Wed Nov 11 2026. No macro, syntax, notation, axiom, sorry.
-/
import Derived.Test.YtjkhdpcmkcjjcaaGreatChecked
import GoSem.Claim
import GoSem.ClaimJoined
import GoSem.ClaimMapViews
import Derived.JoinedTies
import Derived.KernelRfl
namespace Go.Proofs.YtjkhdpcmkcjjcaaGreat
/- THE CELL 'sum', in the pinned program and in every row, IS THE sha256 OF THE DUMP (.gsa) THAT YtjkhdpcmkcjjcaaGreatProg.lean LOADS. Nothing in Lean hashes anything: it is a label: what it is worth is what the hold of that sum in a sandbox is worth. -/
noncomputable def Tryz.pinned : Pinned := { name := "ytjkhdpcmkcjjcaagreat", sum := "838b45b9d36f890698d2eecd169228dd142f94c5b31c01da6fb299af8cfd7e58", checked := Tryz.checked }
namespace Rows
def none {H : Type} : Left H := { results := [], args := [] }

/-- 'skylanternlaw02.PolyScales': WHATEVER THE INPUT: true; the input reads as it did. -/
def polyScalesSpec : ChangeSpec := { name := "polyScales", fn := fun _ => fun
  | [d1, d2] => { results := [.lit (.bool true)], args := [d1, d2] }
  | _ => none }
def polyScalesRow : OpenClaim := { program := "ytjkhdpcmkcjjcaagreat", sum := "838b45b9d36f890698d2eecd169228dd142f94c5b31c01da6fb299af8cfd7e58", func := "skylantern/skylanternlaw02.PolyScales", spec := "polyScales", inPlace := ["math/bits.Add64", "math/bits.Sub64"], unfollowed := true, recurses := true, named := ["math/bits.divideError", "math/bits.overflowError"], apart := false }
def PolyScalesSaid : Prop := polyScalesRow.holds Tryz.pinned (OpenSpec.ofChange polyScalesSpec)

/-- ITS FALSE NEIGHBOUR: 'it returns false'. Refute it at one input. -/
def polyScalesWrong : ChangeSpec := { name := "polyScales", fn := fun _ => fun
  | [d1, d2] => { results := [.lit (.bool false)], args := [d1, d2] }
  | _ => none }
def PolyScalesWrongFalsely : Prop := polyScalesRow.holds Tryz.pinned (OpenSpec.ofChange polyScalesWrong)

/-- 'skylanternlaw02.PolyValues': WHATEVER THE INPUT: true; the input reads as it did. -/
def polyValuesSpec : ChangeSpec := { name := "polyValues", fn := fun _ => fun
  | [d1, d2] => { results := [.lit (.bool true)], args := [d1, d2] }
  | _ => none }
def polyValuesRow : OpenClaim := { program := "ytjkhdpcmkcjjcaagreat", sum := "838b45b9d36f890698d2eecd169228dd142f94c5b31c01da6fb299af8cfd7e58", func := "skylantern/skylanternlaw02.PolyValues", spec := "polyValues", inPlace := ["math/bits.Add64", "math/bits.Sub64"], unfollowed := true, recurses := true, named := ["math/bits.divideError", "math/bits.overflowError"], apart := false }
def PolyValuesSaid : Prop := polyValuesRow.holds Tryz.pinned (OpenSpec.ofChange polyValuesSpec)

/-- ITS FALSE NEIGHBOUR: 'it returns false'. Refute it at one input. -/
def polyValuesWrong : ChangeSpec := { name := "polyValues", fn := fun _ => fun
  | [d1, d2] => { results := [.lit (.bool false)], args := [d1, d2] }
  | _ => none }
def PolyValuesWrongFalsely : Prop := polyValuesRow.holds Tryz.pinned (OpenSpec.ofChange polyValuesWrong)

/-- 'skylanternlaw02.PolyComposes': WHATEVER THE INPUT: true; the input reads as it did. -/
def polyComposesSpec : ChangeSpec := { name := "polyComposes", fn := fun _ => fun
  | [d1, d2, d3, d4] => { results := [.lit (.bool true)], args := [d1, d2, d3, d4] }
  | _ => none }
def polyComposesRow : OpenClaim := { program := "ytjkhdpcmkcjjcaagreat", sum := "838b45b9d36f890698d2eecd169228dd142f94c5b31c01da6fb299af8cfd7e58", func := "skylantern/skylanternlaw02.PolyComposes", spec := "polyComposes", inPlace := ["math/bits.Add64", "math/bits.Sub64"], unfollowed := true, recurses := true, named := ["math/bits.divideError", "math/bits.overflowError"], apart := false }
def PolyComposesSaid : Prop := polyComposesRow.holds Tryz.pinned (OpenSpec.ofChange polyComposesSpec)

/-- ITS FALSE NEIGHBOUR: 'it returns false'. Refute it at one input. -/
def polyComposesWrong : ChangeSpec := { name := "polyComposes", fn := fun _ => fun
  | [d1, d2, d3, d4] => { results := [.lit (.bool false)], args := [d1, d2, d3, d4] }
  | _ => none }
def PolyComposesWrongFalsely : Prop := polyComposesRow.holds Tryz.pinned (OpenSpec.ofChange polyComposesWrong)

/-- 'skylanternlaw02.PolyDivides': WHATEVER THE INPUT: true; the input reads as it did. -/
def polyDividesSpec : ChangeSpec := { name := "polyDivides", fn := fun _ => fun
  | [d1, d2] => { results := [.lit (.bool true)], args := [d1, d2] }
  | _ => none }
def polyDividesRow : OpenClaim := { program := "ytjkhdpcmkcjjcaagreat", sum := "838b45b9d36f890698d2eecd169228dd142f94c5b31c01da6fb299af8cfd7e58", func := "skylantern/skylanternlaw02.PolyDivides", spec := "polyDivides", inPlace := ["math/bits.Add64", "math/bits.Sub64"], unfollowed := true, recurses := true, named := ["math/bits.divideError", "math/bits.overflowError"], apart := false }
def PolyDividesSaid : Prop := polyDividesRow.holds Tryz.pinned (OpenSpec.ofChange polyDividesSpec)

/-- ITS FALSE NEIGHBOUR: 'it returns false'. Refute it at one input. -/
def polyDividesWrong : ChangeSpec := { name := "polyDivides", fn := fun _ => fun
  | [d1, d2] => { results := [.lit (.bool false)], args := [d1, d2] }
  | _ => none }
def PolyDividesWrongFalsely : Prop := polyDividesRow.holds Tryz.pinned (OpenSpec.ofChange polyDividesWrong)

/-- 'skylanternlaw02.PolySums': WHATEVER THE INPUT: true; the input reads as it did. -/
def polySumsSpec : ChangeSpec := { name := "polySums", fn := fun _ => fun
  | [d1, d2] => { results := [.lit (.bool true)], args := [d1, d2] }
  | _ => none }
def polySumsRow : OpenClaim := { program := "ytjkhdpcmkcjjcaagreat", sum := "838b45b9d36f890698d2eecd169228dd142f94c5b31c01da6fb299af8cfd7e58", func := "skylantern/skylanternlaw02.PolySums", spec := "polySums", inPlace := ["math/bits.Add64", "math/bits.Sub64"], unfollowed := true, recurses := true, named := ["math/bits.divideError", "math/bits.overflowError"], apart := false }
def PolySumsSaid : Prop := polySumsRow.holds Tryz.pinned (OpenSpec.ofChange polySumsSpec)

/-- ITS FALSE NEIGHBOUR: 'it returns false'. Refute it at one input. -/
def polySumsWrong : ChangeSpec := { name := "polySums", fn := fun _ => fun
  | [d1, d2] => { results := [.lit (.bool false)], args := [d1, d2] }
  | _ => none }
def PolySumsWrongFalsely : Prop := polySumsRow.holds Tryz.pinned (OpenSpec.ofChange polySumsWrong)

/-- 'skylanternlaw02.PolyHolds': WHATEVER THE INPUT: true; the input reads as it did. -/
def polyHoldsSpec : ChangeSpec := { name := "polyHolds", fn := fun _ => fun
  | [d1, d2, d3] => { results := [.lit (.bool true)], args := [d1, d2, d3] }
  | _ => none }
def polyHoldsRow : OpenClaim := { program := "ytjkhdpcmkcjjcaagreat", sum := "838b45b9d36f890698d2eecd169228dd142f94c5b31c01da6fb299af8cfd7e58", func := "skylantern/skylanternlaw02.PolyHolds", spec := "polyHolds", inPlace := ["math/bits.Add64", "math/bits.Sub64"], unfollowed := true, recurses := true, named := ["math/bits.divideError", "math/bits.overflowError"], apart := false }
def PolyHoldsSaid : Prop := polyHoldsRow.holds Tryz.pinned (OpenSpec.ofChange polyHoldsSpec)

/-- ITS FALSE NEIGHBOUR: 'it returns false'. Refute it at one input. -/
def polyHoldsWrong : ChangeSpec := { name := "polyHolds", fn := fun _ => fun
  | [d1, d2, d3] => { results := [.lit (.bool false)], args := [d1, d2, d3] }
  | _ => none }
def PolyHoldsWrongFalsely : Prop := polyHoldsRow.holds Tryz.pinned (OpenSpec.ofChange polyHoldsWrong)

/-- 'skylanternlaw02.PolyValid': WHATEVER THE INPUT: true; the input reads as it did. -/
def polyValidSpec : ChangeSpec := { name := "polyValid", fn := fun _ => fun
  | [d1, d2, d3] => { results := [.lit (.bool true)], args := [d1, d2, d3] }
  | _ => none }
def polyValidRow : OpenClaim := { program := "ytjkhdpcmkcjjcaagreat", sum := "838b45b9d36f890698d2eecd169228dd142f94c5b31c01da6fb299af8cfd7e58", func := "skylantern/skylanternlaw02.PolyValid", spec := "polyValid", inPlace := ["math/bits.Add64", "math/bits.Sub64"], unfollowed := true, recurses := true, named := ["math/bits.divideError", "math/bits.overflowError"], apart := false }
def PolyValidSaid : Prop := polyValidRow.holds Tryz.pinned (OpenSpec.ofChange polyValidSpec)

/-- ITS FALSE NEIGHBOUR: 'it returns false'. Refute it at one input. -/
def polyValidWrong : ChangeSpec := { name := "polyValid", fn := fun _ => fun
  | [d1, d2, d3] => { results := [.lit (.bool false)], args := [d1, d2, d3] }
  | _ => none }
def PolyValidWrongFalsely : Prop := polyValidRow.holds Tryz.pinned (OpenSpec.ofChange polyValidWrong)

/- THE SECOND FORM. 'bulk': how many values and letters a reading holds, each counted each time it is reached (what is shared counts as often as it is met; a slice's spare places count too). A statement '..UptoSaid' is the law's where the arguments, and the package variables that the reading takes, are together of bulk at most 1048576: NARROWER than '..Said'. Prove '..Said' where nothing that the law and all that it calls make is longer than what came in: it says more and counts as full. Else prove '..UptoSaid'. A law counts once. -/
mutual
def uptoBulk {H : Type} : DataW H → Nat
  | .lit (.string bytes) => bytes.length + 1
  | .lit _ => 1
  | .nil => 1
  | .ptr d => uptoBulk d + 1
  | .slice elems spare => uptoBulkAll elems + uptoBulkAll spare + 1
  | .agg parts => uptoBulkAll parts + 1
  | .iface _ d => uptoBulk d + 1
  | .map entries => uptoBulkEntries entries + 1
  | .held _ => 1
def uptoBulkAll {H : Type} : List (DataW H) → Nat
  | [] => 0
  | d :: r => uptoBulk d + uptoBulkAll r
def uptoBulkEntries {H : Type} : List (Lit × DataW H) → Nat
  | [] => 0
  | x :: r => uptoBulkEntry x + uptoBulkEntries r
def uptoBulkEntry {H : Type} : Lit × DataW H → Nat
  | (.string bytes, d) => bytes.length + uptoBulk d + 1
  | (_, d) => uptoBulk d + 1
 end
def uptoSmall : (H : Type) → List (DataW H) → Bool := fun _ ds => decide (uptoBulkAll ds ≤ 1048576)
def OpenSpec.upto (s : _root_.Go.ChangeSpec) : _root_.Go.OpenSpec := { _root_.Go.OpenSpec.ofChange s with cond := some uptoSmall }

/-- 'skylanternlaw02.PolyScales', WHERE WHAT IT READS IS OF BULK AT MOST 1048576: true; the input reads as it did. -/
def polyScalesUptoRow : OpenClaim := { program := "ytjkhdpcmkcjjcaagreat", sum := "838b45b9d36f890698d2eecd169228dd142f94c5b31c01da6fb299af8cfd7e58", func := "skylantern/skylanternlaw02.PolyScales", spec := "polyScales", inPlace := ["math/bits.Add64", "math/bits.Sub64"], unfollowed := true, recurses := true, named := ["math/bits.divideError", "math/bits.overflowError"], apart := false, narrowed := true }
def PolyScalesUptoSaid : Prop := polyScalesUptoRow.holds Tryz.pinned (OpenSpec.upto polyScalesSpec)

/-- 'skylanternlaw02.PolyValues', WHERE WHAT IT READS IS OF BULK AT MOST 1048576: true; the input reads as it did. -/
def polyValuesUptoRow : OpenClaim := { program := "ytjkhdpcmkcjjcaagreat", sum := "838b45b9d36f890698d2eecd169228dd142f94c5b31c01da6fb299af8cfd7e58", func := "skylantern/skylanternlaw02.PolyValues", spec := "polyValues", inPlace := ["math/bits.Add64", "math/bits.Sub64"], unfollowed := true, recurses := true, named := ["math/bits.divideError", "math/bits.overflowError"], apart := false, narrowed := true }
def PolyValuesUptoSaid : Prop := polyValuesUptoRow.holds Tryz.pinned (OpenSpec.upto polyValuesSpec)

/-- 'skylanternlaw02.PolyComposes', WHERE WHAT IT READS IS OF BULK AT MOST 1048576: true; the input reads as it did. -/
def polyComposesUptoRow : OpenClaim := { program := "ytjkhdpcmkcjjcaagreat", sum := "838b45b9d36f890698d2eecd169228dd142f94c5b31c01da6fb299af8cfd7e58", func := "skylantern/skylanternlaw02.PolyComposes", spec := "polyComposes", inPlace := ["math/bits.Add64", "math/bits.Sub64"], unfollowed := true, recurses := true, named := ["math/bits.divideError", "math/bits.overflowError"], apart := false, narrowed := true }
def PolyComposesUptoSaid : Prop := polyComposesUptoRow.holds Tryz.pinned (OpenSpec.upto polyComposesSpec)

/-- 'skylanternlaw02.PolyDivides', WHERE WHAT IT READS IS OF BULK AT MOST 1048576: true; the input reads as it did. -/
def polyDividesUptoRow : OpenClaim := { program := "ytjkhdpcmkcjjcaagreat", sum := "838b45b9d36f890698d2eecd169228dd142f94c5b31c01da6fb299af8cfd7e58", func := "skylantern/skylanternlaw02.PolyDivides", spec := "polyDivides", inPlace := ["math/bits.Add64", "math/bits.Sub64"], unfollowed := true, recurses := true, named := ["math/bits.divideError", "math/bits.overflowError"], apart := false, narrowed := true }
def PolyDividesUptoSaid : Prop := polyDividesUptoRow.holds Tryz.pinned (OpenSpec.upto polyDividesSpec)

/-- 'skylanternlaw02.PolySums', WHERE WHAT IT READS IS OF BULK AT MOST 1048576: true; the input reads as it did. -/
def polySumsUptoRow : OpenClaim := { program := "ytjkhdpcmkcjjcaagreat", sum := "838b45b9d36f890698d2eecd169228dd142f94c5b31c01da6fb299af8cfd7e58", func := "skylantern/skylanternlaw02.PolySums", spec := "polySums", inPlace := ["math/bits.Add64", "math/bits.Sub64"], unfollowed := true, recurses := true, named := ["math/bits.divideError", "math/bits.overflowError"], apart := false, narrowed := true }
def PolySumsUptoSaid : Prop := polySumsUptoRow.holds Tryz.pinned (OpenSpec.upto polySumsSpec)

/-- 'skylanternlaw02.PolyHolds', WHERE WHAT IT READS IS OF BULK AT MOST 1048576: true; the input reads as it did. -/
def polyHoldsUptoRow : OpenClaim := { program := "ytjkhdpcmkcjjcaagreat", sum := "838b45b9d36f890698d2eecd169228dd142f94c5b31c01da6fb299af8cfd7e58", func := "skylantern/skylanternlaw02.PolyHolds", spec := "polyHolds", inPlace := ["math/bits.Add64", "math/bits.Sub64"], unfollowed := true, recurses := true, named := ["math/bits.divideError", "math/bits.overflowError"], apart := false, narrowed := true }
def PolyHoldsUptoSaid : Prop := polyHoldsUptoRow.holds Tryz.pinned (OpenSpec.upto polyHoldsSpec)

/-- 'skylanternlaw02.PolyValid', WHERE WHAT IT READS IS OF BULK AT MOST 1048576: true; the input reads as it did. -/
def polyValidUptoRow : OpenClaim := { program := "ytjkhdpcmkcjjcaagreat", sum := "838b45b9d36f890698d2eecd169228dd142f94c5b31c01da6fb299af8cfd7e58", func := "skylantern/skylanternlaw02.PolyValid", spec := "polyValid", inPlace := ["math/bits.Add64", "math/bits.Sub64"], unfollowed := true, recurses := true, named := ["math/bits.divideError", "math/bits.overflowError"], apart := false, narrowed := true }
def PolyValidUptoSaid : Prop := polyValidUptoRow.holds Tryz.pinned (OpenSpec.upto polyValidSpec)

end Rows
end Go.Proofs.YtjkhdpcmkcjjcaaGreat
