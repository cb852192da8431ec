/-
  No cell of these rows narrows 'for every input' (looked for: loops, veiled, ifaces, maps, wideKeys, modest, calm, conditions, laid).
  DERIVED. THE GIVEN ROWS OF THIS SEAT. 6 by the template 'for every input the law returns true; each argument reads behind the call as it read before'; 0 by the template 'total and deterministic' (their statements: YthennaflbbajkaaGreatTotals.lean).
  GIVEN WITH THE SEED: the statements are not yours to turn. If you find one false, say at which input.
  Laid BY PROGRAM, IN A SANDBOX (cutbox-rows.mjs): the forced cells as the released guide's own fill.sh prints them over the translation 824ed350c2800883… (all of the seat's roots in one cut). By AI agents, Wed Nov 11 2026. No macro, syntax, notation, axiom, sorry.
-/
import Derived.Test.YthennaflbbajkaaGreatChecked
import GoSem.Claim
import GoSem.ClaimJoined
import GoSem.ClaimMapViews
import Derived.JoinedTies
import Derived.KernelRfl
namespace Go.Proofs.YthennaflbbajkaaGreat
/- THE CELL 'sum', in the pinned program and in every row, IS THE sha256 OF THE DUMP (.gsa) THAT YthennaflbbajkaaGreatProg.lean LOADS. Nothing in Lean hashes anything: it is a label: what it is worth is what the hold of that sum in a sandbox is worth. -/
noncomputable def Tryz.pinned : Pinned := { name := "ythennaflbbajkaagreat", sum := "824ed350c28008834f981a26e5c1622d2df429656afb8424fee7cc3abf502928", checked := Tryz.checked }
namespace Rows
def none {H : Type} : Left H := { results := [], args := [] }

/-- 'skylanternlaw16.LimitsGlides': WHATEVER THE INPUT: true; the input reads as it did. -/
def limitsGlidesSpec : ChangeSpec := { name := "limitsGlides", fn := fun _ => fun
  | [d1, d2, d3] => { results := [.lit (.bool true)], args := [d1, d2, d3] }
  | _ => none }
def limitsGlidesRow : OpenClaim := { program := "ythennaflbbajkaagreat", sum := "824ed350c28008834f981a26e5c1622d2df429656afb8424fee7cc3abf502928", func := "skylantern/skylanternlaw16.LimitsGlides", spec := "limitsGlides", inPlace := ["math/bits.Add64", "math/bits.Sub64"], unfollowed := true, recurses := true, named := ["math/bits.divideError", "math/bits.overflowError"], apart := false }
def LimitsGlidesSaid : Prop := limitsGlidesRow.holds Tryz.pinned (OpenSpec.ofChange limitsGlidesSpec)

/-- ITS FALSE NEIGHBOUR: 'it returns false'. Refute it at one input. -/
def limitsGlidesWrong : ChangeSpec := { name := "limitsGlides", fn := fun _ => fun
  | [d1, d2, d3] => { results := [.lit (.bool false)], args := [d1, d2, d3] }
  | _ => none }
def LimitsGlidesWrongFalsely : Prop := limitsGlidesRow.holds Tryz.pinned (OpenSpec.ofChange limitsGlidesWrong)

/-- 'skylanternlaw44.AbortOutside': WHATEVER THE INPUT: true; the input reads as it did. -/
def abortOutsideSpec : ChangeSpec := { name := "abortOutside", fn := fun _ => fun
  | [d1, d2, d3] => { results := [.lit (.bool true)], args := [d1, d2, d3] }
  | _ => none }
def abortOutsideRow : OpenClaim := { program := "ythennaflbbajkaagreat", sum := "824ed350c28008834f981a26e5c1622d2df429656afb8424fee7cc3abf502928", func := "skylantern/skylanternlaw44.AbortOutside", spec := "abortOutside", inPlace := ["math/bits.Add64", "math/bits.Sub64"], unfollowed := true, recurses := true, named := ["math/bits.divideError", "math/bits.overflowError"], apart := false }
def AbortOutsideSaid : Prop := abortOutsideRow.holds Tryz.pinned (OpenSpec.ofChange abortOutsideSpec)

/-- ITS FALSE NEIGHBOUR: 'it returns false'. Refute it at one input. -/
def abortOutsideWrong : ChangeSpec := { name := "abortOutside", fn := fun _ => fun
  | [d1, d2, d3] => { results := [.lit (.bool false)], args := [d1, d2, d3] }
  | _ => none }
def AbortOutsideWrongFalsely : Prop := abortOutsideRow.holds Tryz.pinned (OpenSpec.ofChange abortOutsideWrong)

/-- 'skylanternlaw44.AbortDecides': WHATEVER THE INPUT: true; the input reads as it did. -/
def abortDecidesSpec : ChangeSpec := { name := "abortDecides", fn := fun _ => fun
  | [d1, d2, d3, d4] => { results := [.lit (.bool true)], args := [d1, d2, d3, d4] }
  | _ => none }
def abortDecidesRow : OpenClaim := { program := "ythennaflbbajkaagreat", sum := "824ed350c28008834f981a26e5c1622d2df429656afb8424fee7cc3abf502928", func := "skylantern/skylanternlaw44.AbortDecides", spec := "abortDecides", inPlace := ["math/bits.Add64", "math/bits.Sub64"], unfollowed := true, recurses := true, named := ["math/bits.divideError", "math/bits.overflowError"], apart := false }
def AbortDecidesSaid : Prop := abortDecidesRow.holds Tryz.pinned (OpenSpec.ofChange abortDecidesSpec)

/-- ITS FALSE NEIGHBOUR: 'it returns false'. Refute it at one input. -/
def abortDecidesWrong : ChangeSpec := { name := "abortDecides", fn := fun _ => fun
  | [d1, d2, d3, d4] => { results := [.lit (.bool false)], args := [d1, d2, d3, d4] }
  | _ => none }
def AbortDecidesWrongFalsely : Prop := abortDecidesRow.holds Tryz.pinned (OpenSpec.ofChange abortDecidesWrong)

/-- 'skylanternlaw44.AbortFirst': WHATEVER THE INPUT: true; the input reads as it did. -/
def abortFirstSpec : ChangeSpec := { name := "abortFirst", fn := fun _ => fun
  | [d1, d2, d3, d4] => { results := [.lit (.bool true)], args := [d1, d2, d3, d4] }
  | _ => none }
def abortFirstRow : OpenClaim := { program := "ythennaflbbajkaagreat", sum := "824ed350c28008834f981a26e5c1622d2df429656afb8424fee7cc3abf502928", func := "skylantern/skylanternlaw44.AbortFirst", spec := "abortFirst", inPlace := ["math/bits.Add64", "math/bits.Sub64"], unfollowed := true, recurses := true, named := ["math/bits.divideError", "math/bits.overflowError"], apart := false }
def AbortFirstSaid : Prop := abortFirstRow.holds Tryz.pinned (OpenSpec.ofChange abortFirstSpec)

/-- ITS FALSE NEIGHBOUR: 'it returns false'. Refute it at one input. -/
def abortFirstWrong : ChangeSpec := { name := "abortFirst", fn := fun _ => fun
  | [d1, d2, d3, d4] => { results := [.lit (.bool false)], args := [d1, d2, d3, d4] }
  | _ => none }
def AbortFirstWrongFalsely : Prop := abortFirstRow.holds Tryz.pinned (OpenSpec.ofChange abortFirstWrong)

/-- 'skylanternlaw44.AbortHolds': WHATEVER THE INPUT: true; the input reads as it did. -/
def abortHoldsSpec : ChangeSpec := { name := "abortHolds", fn := fun _ => fun
  | [d1, d2, d3, d4, d5, d6, d7] => { results := [.lit (.bool true)], args := [d1, d2, d3, d4, d5, d6, d7] }
  | _ => none }
def abortHoldsRow : OpenClaim := { program := "ythennaflbbajkaagreat", sum := "824ed350c28008834f981a26e5c1622d2df429656afb8424fee7cc3abf502928", func := "skylantern/skylanternlaw44.AbortHolds", spec := "abortHolds", inPlace := ["math/bits.Add64", "math/bits.Sub64"], unfollowed := true, recurses := true, named := ["math/bits.divideError", "math/bits.overflowError"], apart := false }
def AbortHoldsSaid : Prop := abortHoldsRow.holds Tryz.pinned (OpenSpec.ofChange abortHoldsSpec)

/-- ITS FALSE NEIGHBOUR: 'it returns false'. Refute it at one input. -/
def abortHoldsWrong : ChangeSpec := { name := "abortHolds", fn := fun _ => fun
  | [d1, d2, d3, d4, d5, d6, d7] => { results := [.lit (.bool false)], args := [d1, d2, d3, d4, d5, d6, d7] }
  | _ => none }
def AbortHoldsWrongFalsely : Prop := abortHoldsRow.holds Tryz.pinned (OpenSpec.ofChange abortHoldsWrong)

/-- 'skylanternlaw44.AbortAsks': WHATEVER THE INPUT: true; the input reads as it did. -/
def abortAsksSpec : ChangeSpec := { name := "abortAsks", fn := fun _ => fun
  | [d1, d2, d3, d4, d5, d6, d7] => { results := [.lit (.bool true)], args := [d1, d2, d3, d4, d5, d6, d7] }
  | _ => none }
def abortAsksRow : OpenClaim := { program := "ythennaflbbajkaagreat", sum := "824ed350c28008834f981a26e5c1622d2df429656afb8424fee7cc3abf502928", func := "skylantern/skylanternlaw44.AbortAsks", spec := "abortAsks", inPlace := ["math/bits.Add64", "math/bits.Sub64"], unfollowed := true, recurses := true, named := ["math/bits.divideError", "math/bits.overflowError"], apart := false }
def AbortAsksSaid : Prop := abortAsksRow.holds Tryz.pinned (OpenSpec.ofChange abortAsksSpec)

/-- ITS FALSE NEIGHBOUR: 'it returns false'. Refute it at one input. -/
def abortAsksWrong : ChangeSpec := { name := "abortAsks", fn := fun _ => fun
  | [d1, d2, d3, d4, d5, d6, d7] => { results := [.lit (.bool false)], args := [d1, d2, d3, d4, d5, d6, d7] }
  | _ => none }
def AbortAsksWrongFalsely : Prop := abortAsksRow.holds Tryz.pinned (OpenSpec.ofChange abortAsksWrong)

/- THE SECOND FORM. 'bulk': how many values and letters a reading holds, each counted each time it is reached (what is shared counts as often as it is met; a slice's spare places count too). A statement '..UptoSaid' is the law's where the arguments, and the package variables that the reading takes, are together of bulk at most 1048576: NARROWER than '..Said'. Prove '..Said' where nothing that the law and all that it calls make is longer than what came in: it says more and counts as full. Else prove '..UptoSaid'. A law counts once. -/
mutual
def uptoBulk {H : Type} : DataW H → Nat
  | .lit (.string bytes) => bytes.length + 1
  | .lit _ => 1
  | .nil => 1
  | .ptr d => uptoBulk d + 1
  | .slice elems spare => uptoBulkAll elems + uptoBulkAll spare + 1
  | .agg parts => uptoBulkAll parts + 1
  | .iface _ d => uptoBulk d + 1
  | .map entries => uptoBulkEntries entries + 1
  | .held _ => 1
def uptoBulkAll {H : Type} : List (DataW H) → Nat
  | [] => 0
  | d :: r => uptoBulk d + uptoBulkAll r
def uptoBulkEntries {H : Type} : List (Lit × DataW H) → Nat
  | [] => 0
  | x :: r => uptoBulkEntry x + uptoBulkEntries r
def uptoBulkEntry {H : Type} : Lit × DataW H → Nat
  | (.string bytes, d) => bytes.length + uptoBulk d + 1
  | (_, d) => uptoBulk d + 1
 end
def uptoSmall : (H : Type) → List (DataW H) → Bool := fun _ ds => decide (uptoBulkAll ds ≤ 1048576)
def OpenSpec.upto (s : _root_.Go.ChangeSpec) : _root_.Go.OpenSpec := { _root_.Go.OpenSpec.ofChange s with cond := some uptoSmall }

/-- 'skylanternlaw16.LimitsGlides', WHERE WHAT IT READS IS OF BULK AT MOST 1048576: true; the input reads as it did. -/
def limitsGlidesUptoRow : OpenClaim := { program := "ythennaflbbajkaagreat", sum := "824ed350c28008834f981a26e5c1622d2df429656afb8424fee7cc3abf502928", func := "skylantern/skylanternlaw16.LimitsGlides", spec := "limitsGlides", inPlace := ["math/bits.Add64", "math/bits.Sub64"], unfollowed := true, recurses := true, named := ["math/bits.divideError", "math/bits.overflowError"], apart := false, narrowed := true }
def LimitsGlidesUptoSaid : Prop := limitsGlidesUptoRow.holds Tryz.pinned (OpenSpec.upto limitsGlidesSpec)

/-- 'skylanternlaw44.AbortOutside', WHERE WHAT IT READS IS OF BULK AT MOST 1048576: true; the input reads as it did. -/
def abortOutsideUptoRow : OpenClaim := { program := "ythennaflbbajkaagreat", sum := "824ed350c28008834f981a26e5c1622d2df429656afb8424fee7cc3abf502928", func := "skylantern/skylanternlaw44.AbortOutside", spec := "abortOutside", inPlace := ["math/bits.Add64", "math/bits.Sub64"], unfollowed := true, recurses := true, named := ["math/bits.divideError", "math/bits.overflowError"], apart := false, narrowed := true }
def AbortOutsideUptoSaid : Prop := abortOutsideUptoRow.holds Tryz.pinned (OpenSpec.upto abortOutsideSpec)

/-- 'skylanternlaw44.AbortDecides', WHERE WHAT IT READS IS OF BULK AT MOST 1048576: true; the input reads as it did. -/
def abortDecidesUptoRow : OpenClaim := { program := "ythennaflbbajkaagreat", sum := "824ed350c28008834f981a26e5c1622d2df429656afb8424fee7cc3abf502928", func := "skylantern/skylanternlaw44.AbortDecides", spec := "abortDecides", inPlace := ["math/bits.Add64", "math/bits.Sub64"], unfollowed := true, recurses := true, named := ["math/bits.divideError", "math/bits.overflowError"], apart := false, narrowed := true }
def AbortDecidesUptoSaid : Prop := abortDecidesUptoRow.holds Tryz.pinned (OpenSpec.upto abortDecidesSpec)

/-- 'skylanternlaw44.AbortFirst', WHERE WHAT IT READS IS OF BULK AT MOST 1048576: true; the input reads as it did. -/
def abortFirstUptoRow : OpenClaim := { program := "ythennaflbbajkaagreat", sum := "824ed350c28008834f981a26e5c1622d2df429656afb8424fee7cc3abf502928", func := "skylantern/skylanternlaw44.AbortFirst", spec := "abortFirst", inPlace := ["math/bits.Add64", "math/bits.Sub64"], unfollowed := true, recurses := true, named := ["math/bits.divideError", "math/bits.overflowError"], apart := false, narrowed := true }
def AbortFirstUptoSaid : Prop := abortFirstUptoRow.holds Tryz.pinned (OpenSpec.upto abortFirstSpec)

/-- 'skylanternlaw44.AbortHolds', WHERE WHAT IT READS IS OF BULK AT MOST 1048576: true; the input reads as it did. -/
def abortHoldsUptoRow : OpenClaim := { program := "ythennaflbbajkaagreat", sum := "824ed350c28008834f981a26e5c1622d2df429656afb8424fee7cc3abf502928", func := "skylantern/skylanternlaw44.AbortHolds", spec := "abortHolds", inPlace := ["math/bits.Add64", "math/bits.Sub64"], unfollowed := true, recurses := true, named := ["math/bits.divideError", "math/bits.overflowError"], apart := false, narrowed := true }
def AbortHoldsUptoSaid : Prop := abortHoldsUptoRow.holds Tryz.pinned (OpenSpec.upto abortHoldsSpec)

/-- 'skylanternlaw44.AbortAsks', WHERE WHAT IT READS IS OF BULK AT MOST 1048576: true; the input reads as it did. -/
def abortAsksUptoRow : OpenClaim := { program := "ythennaflbbajkaagreat", sum := "824ed350c28008834f981a26e5c1622d2df429656afb8424fee7cc3abf502928", func := "skylantern/skylanternlaw44.AbortAsks", spec := "abortAsks", inPlace := ["math/bits.Add64", "math/bits.Sub64"], unfollowed := true, recurses := true, named := ["math/bits.divideError", "math/bits.overflowError"], apart := false, narrowed := true }
def AbortAsksUptoSaid : Prop := abortAsksUptoRow.holds Tryz.pinned (OpenSpec.upto abortAsksSpec)

end Rows
end Go.Proofs.YthennaflbbajkaaGreat
