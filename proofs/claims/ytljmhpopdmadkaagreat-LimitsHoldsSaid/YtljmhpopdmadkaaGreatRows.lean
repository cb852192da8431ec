/-
  No cell of these rows narrows 'for every input' (looked for: loops, veiled, ifaces, maps, wideKeys, modest, calm, conditions, laid).
  DERIVED. THE GIVEN ROWS OF THIS SEAT. 6 by the template 'for every input the law returns true; each argument reads behind the call as it read before'; 0 by the template 'total and deterministic' (their statements: YtljmhpopdmadkaaGreatTotals.lean).
  GIVEN WITH THE SEED: the statements are not yours to turn. If you find one false, say at which input.
  Laid BY PROGRAM, IN A SANDBOX (cutbox-rows.mjs): the forced cells as the released guide's own fill.sh prints them over the translation d63d81ae14901c71… (all of the seat's roots in one cut). By AI agents, Wed Nov 11 2026. No macro, syntax, notation, axiom, sorry.
-/
import Derived.Test.YtljmhpopdmadkaaGreatChecked
import GoSem.Claim
import GoSem.ClaimJoined
import GoSem.ClaimMapViews
import Derived.JoinedTies
import Derived.KernelRfl
namespace Go.Proofs.YtljmhpopdmadkaaGreat
/- THE CELL 'sum', in the pinned program and in every row, IS THE sha256 OF THE DUMP (.gsa) THAT YtljmhpopdmadkaaGreatProg.lean LOADS. Nothing in Lean hashes anything: it is a label: what it is worth is what the hold of that sum in a sandbox is worth. -/
noncomputable def Tryz.pinned : Pinned := { name := "ytljmhpopdmadkaagreat", sum := "d63d81ae14901c718c88863a4e122ab8316460196d2df953b5d9e1851cae5b2c", checked := Tryz.checked }
namespace Rows
def none {H : Type} : Left H := { results := [], args := [] }

/-- 'skylanternlaw16.LimitsJoins': WHATEVER THE INPUT: true; the input reads as it did. -/
def limitsJoinsSpec : ChangeSpec := { name := "limitsJoins", fn := fun _ => fun
  | [d1, d2, d3] => { results := [.lit (.bool true)], args := [d1, d2, d3] }
  | _ => none }
def limitsJoinsRow : OpenClaim := { program := "ytljmhpopdmadkaagreat", sum := "d63d81ae14901c718c88863a4e122ab8316460196d2df953b5d9e1851cae5b2c", func := "skylantern/skylanternlaw16.LimitsJoins", spec := "limitsJoins", inPlace := ["math/bits.Add64", "math/bits.Sub64"], unfollowed := true, recurses := true, named := ["math/bits.divideError", "math/bits.overflowError"], apart := false }
def LimitsJoinsSaid : Prop := limitsJoinsRow.holds Tryz.pinned (OpenSpec.ofChange limitsJoinsSpec)

/-- ITS FALSE NEIGHBOUR: 'it returns false'. Refute it at one input. -/
def limitsJoinsWrong : ChangeSpec := { name := "limitsJoins", fn := fun _ => fun
  | [d1, d2, d3] => { results := [.lit (.bool false)], args := [d1, d2, d3] }
  | _ => none }
def LimitsJoinsWrongFalsely : Prop := limitsJoinsRow.holds Tryz.pinned (OpenSpec.ofChange limitsJoinsWrong)

/-- 'skylanternlaw16.LimitsForms': WHATEVER THE INPUT: true; the input reads as it did. -/
def limitsFormsSpec : ChangeSpec := { name := "limitsForms", fn := fun _ => fun
  | [d1, d2, d3] => { results := [.lit (.bool true)], args := [d1, d2, d3] }
  | _ => none }
def limitsFormsRow : OpenClaim := { program := "ytljmhpopdmadkaagreat", sum := "d63d81ae14901c718c88863a4e122ab8316460196d2df953b5d9e1851cae5b2c", func := "skylantern/skylanternlaw16.LimitsForms", spec := "limitsForms", inPlace := ["math/bits.Add64", "math/bits.Sub64"], unfollowed := true, recurses := true, named := ["math/bits.divideError", "math/bits.overflowError"], apart := false }
def LimitsFormsSaid : Prop := limitsFormsRow.holds Tryz.pinned (OpenSpec.ofChange limitsFormsSpec)

/-- ITS FALSE NEIGHBOUR: 'it returns false'. Refute it at one input. -/
def limitsFormsWrong : ChangeSpec := { name := "limitsForms", fn := fun _ => fun
  | [d1, d2, d3] => { results := [.lit (.bool false)], args := [d1, d2, d3] }
  | _ => none }
def LimitsFormsWrongFalsely : Prop := limitsFormsRow.holds Tryz.pinned (OpenSpec.ofChange limitsFormsWrong)

/-- 'skylanternlaw16.LimitsFirst': WHATEVER THE INPUT: true; the input reads as it did. -/
def limitsFirstSpec : ChangeSpec := { name := "limitsFirst", fn := fun _ => fun
  | [d1, d2] => { results := [.lit (.bool true)], args := [d1, d2] }
  | _ => none }
def limitsFirstRow : OpenClaim := { program := "ytljmhpopdmadkaagreat", sum := "d63d81ae14901c718c88863a4e122ab8316460196d2df953b5d9e1851cae5b2c", func := "skylantern/skylanternlaw16.LimitsFirst", spec := "limitsFirst", inPlace := ["math/bits.Add64", "math/bits.Sub64"], unfollowed := true, recurses := true, named := ["math/bits.divideError", "math/bits.overflowError"], apart := false }
def LimitsFirstSaid : Prop := limitsFirstRow.holds Tryz.pinned (OpenSpec.ofChange limitsFirstSpec)

/-- ITS FALSE NEIGHBOUR: 'it returns false'. Refute it at one input. -/
def limitsFirstWrong : ChangeSpec := { name := "limitsFirst", fn := fun _ => fun
  | [d1, d2] => { results := [.lit (.bool false)], args := [d1, d2] }
  | _ => none }
def LimitsFirstWrongFalsely : Prop := limitsFirstRow.holds Tryz.pinned (OpenSpec.ofChange limitsFirstWrong)

/-- 'skylanternlaw16.LimitsTop': WHATEVER THE INPUT: true; the input reads as it did. -/
def limitsTopSpec : ChangeSpec := { name := "limitsTop", fn := fun _ => fun
  | [d] => { results := [.lit (.bool true)], args := [d] }
  | _ => none }
def limitsTopRow : OpenClaim := { program := "ytljmhpopdmadkaagreat", sum := "d63d81ae14901c718c88863a4e122ab8316460196d2df953b5d9e1851cae5b2c", func := "skylantern/skylanternlaw16.LimitsTop", spec := "limitsTop", inPlace := ["math/bits.Add64", "math/bits.Sub64"], unfollowed := true, recurses := true, named := ["math/bits.divideError", "math/bits.overflowError"], apart := false }
def LimitsTopSaid : Prop := limitsTopRow.holds Tryz.pinned (OpenSpec.ofChange limitsTopSpec)

/-- ITS FALSE NEIGHBOUR: 'it returns false'. Refute it at one input. -/
def limitsTopWrong : ChangeSpec := { name := "limitsTop", fn := fun _ => fun
  | [d] => { results := [.lit (.bool false)], args := [d] }
  | _ => none }
def LimitsTopWrongFalsely : Prop := limitsTopRow.holds Tryz.pinned (OpenSpec.ofChange limitsTopWrong)

/-- 'skylanternlaw16.LimitsGlides': WHATEVER THE INPUT: true; the input reads as it did. -/
def limitsGlidesSpec : ChangeSpec := { name := "limitsGlides", fn := fun _ => fun
  | [d1, d2, d3] => { results := [.lit (.bool true)], args := [d1, d2, d3] }
  | _ => none }
def limitsGlidesRow : OpenClaim := { program := "ytljmhpopdmadkaagreat", sum := "d63d81ae14901c718c88863a4e122ab8316460196d2df953b5d9e1851cae5b2c", func := "skylantern/skylanternlaw16.LimitsGlides", spec := "limitsGlides", inPlace := ["math/bits.Add64", "math/bits.Sub64"], unfollowed := true, recurses := true, named := ["math/bits.divideError", "math/bits.overflowError"], apart := false }
def LimitsGlidesSaid : Prop := limitsGlidesRow.holds Tryz.pinned (OpenSpec.ofChange limitsGlidesSpec)

/-- ITS FALSE NEIGHBOUR: 'it returns false'. Refute it at one input. -/
def limitsGlidesWrong : ChangeSpec := { name := "limitsGlides", fn := fun _ => fun
  | [d1, d2, d3] => { results := [.lit (.bool false)], args := [d1, d2, d3] }
  | _ => none }
def LimitsGlidesWrongFalsely : Prop := limitsGlidesRow.holds Tryz.pinned (OpenSpec.ofChange limitsGlidesWrong)

/-- 'skylanternlaw16.LimitsHolds': WHATEVER THE INPUT: true; the input reads as it did. -/
def limitsHoldsSpec : ChangeSpec := { name := "limitsHolds", fn := fun _ => fun
  | [d1, d2, d3, d4, d5] => { results := [.lit (.bool true)], args := [d1, d2, d3, d4, d5] }
  | _ => none }
def limitsHoldsRow : OpenClaim := { program := "ytljmhpopdmadkaagreat", sum := "d63d81ae14901c718c88863a4e122ab8316460196d2df953b5d9e1851cae5b2c", func := "skylantern/skylanternlaw16.LimitsHolds", spec := "limitsHolds", inPlace := ["math/bits.Add64", "math/bits.Sub64"], unfollowed := true, recurses := true, named := ["math/bits.divideError", "math/bits.overflowError"], apart := false }
def LimitsHoldsSaid : Prop := limitsHoldsRow.holds Tryz.pinned (OpenSpec.ofChange limitsHoldsSpec)

/-- ITS FALSE NEIGHBOUR: 'it returns false'. Refute it at one input. -/
def limitsHoldsWrong : ChangeSpec := { name := "limitsHolds", fn := fun _ => fun
  | [d1, d2, d3, d4, d5] => { results := [.lit (.bool false)], args := [d1, d2, d3, d4, d5] }
  | _ => none }
def LimitsHoldsWrongFalsely : Prop := limitsHoldsRow.holds Tryz.pinned (OpenSpec.ofChange limitsHoldsWrong)

/- THE SECOND FORM. 'bulk': how many values and letters a reading holds, each counted each time it is reached (what is shared counts as often as it is met; a slice's spare places count too). A statement '..UptoSaid' is the law's where the arguments, and the package variables that the reading takes, are together of bulk at most 1048576: NARROWER than '..Said'. Prove '..Said' where nothing that the law and all that it calls make is longer than what came in: it says more and counts as full. Else prove '..UptoSaid'. A law counts once. -/
mutual
def uptoBulk {H : Type} : DataW H → Nat
  | .lit (.string bytes) => bytes.length + 1
  | .lit _ => 1
  | .nil => 1
  | .ptr d => uptoBulk d + 1
  | .slice elems spare => uptoBulkAll elems + uptoBulkAll spare + 1
  | .agg parts => uptoBulkAll parts + 1
  | .iface _ d => uptoBulk d + 1
  | .map entries => uptoBulkEntries entries + 1
  | .held _ => 1
def uptoBulkAll {H : Type} : List (DataW H) → Nat
  | [] => 0
  | d :: r => uptoBulk d + uptoBulkAll r
def uptoBulkEntries {H : Type} : List (Lit × DataW H) → Nat
  | [] => 0
  | x :: r => uptoBulkEntry x + uptoBulkEntries r
def uptoBulkEntry {H : Type} : Lit × DataW H → Nat
  | (.string bytes, d) => bytes.length + uptoBulk d + 1
  | (_, d) => uptoBulk d + 1
 end
def uptoSmall : (H : Type) → List (DataW H) → Bool := fun _ ds => decide (uptoBulkAll ds ≤ 1048576)
def OpenSpec.upto (s : _root_.Go.ChangeSpec) : _root_.Go.OpenSpec := { _root_.Go.OpenSpec.ofChange s with cond := some uptoSmall }

/-- 'skylanternlaw16.LimitsJoins', WHERE WHAT IT READS IS OF BULK AT MOST 1048576: true; the input reads as it did. -/
def limitsJoinsUptoRow : OpenClaim := { program := "ytljmhpopdmadkaagreat", sum := "d63d81ae14901c718c88863a4e122ab8316460196d2df953b5d9e1851cae5b2c", func := "skylantern/skylanternlaw16.LimitsJoins", spec := "limitsJoins", inPlace := ["math/bits.Add64", "math/bits.Sub64"], unfollowed := true, recurses := true, named := ["math/bits.divideError", "math/bits.overflowError"], apart := false, narrowed := true }
def LimitsJoinsUptoSaid : Prop := limitsJoinsUptoRow.holds Tryz.pinned (OpenSpec.upto limitsJoinsSpec)

/-- 'skylanternlaw16.LimitsForms', WHERE WHAT IT READS IS OF BULK AT MOST 1048576: true; the input reads as it did. -/
def limitsFormsUptoRow : OpenClaim := { program := "ytljmhpopdmadkaagreat", sum := "d63d81ae14901c718c88863a4e122ab8316460196d2df953b5d9e1851cae5b2c", func := "skylantern/skylanternlaw16.LimitsForms", spec := "limitsForms", inPlace := ["math/bits.Add64", "math/bits.Sub64"], unfollowed := true, recurses := true, named := ["math/bits.divideError", "math/bits.overflowError"], apart := false, narrowed := true }
def LimitsFormsUptoSaid : Prop := limitsFormsUptoRow.holds Tryz.pinned (OpenSpec.upto limitsFormsSpec)

/-- 'skylanternlaw16.LimitsFirst', WHERE WHAT IT READS IS OF BULK AT MOST 1048576: true; the input reads as it did. -/
def limitsFirstUptoRow : OpenClaim := { program := "ytljmhpopdmadkaagreat", sum := "d63d81ae14901c718c88863a4e122ab8316460196d2df953b5d9e1851cae5b2c", func := "skylantern/skylanternlaw16.LimitsFirst", spec := "limitsFirst", inPlace := ["math/bits.Add64", "math/bits.Sub64"], unfollowed := true, recurses := true, named := ["math/bits.divideError", "math/bits.overflowError"], apart := false, narrowed := true }
def LimitsFirstUptoSaid : Prop := limitsFirstUptoRow.holds Tryz.pinned (OpenSpec.upto limitsFirstSpec)

/-- 'skylanternlaw16.LimitsTop', WHERE WHAT IT READS IS OF BULK AT MOST 1048576: true; the input reads as it did. -/
def limitsTopUptoRow : OpenClaim := { program := "ytljmhpopdmadkaagreat", sum := "d63d81ae14901c718c88863a4e122ab8316460196d2df953b5d9e1851cae5b2c", func := "skylantern/skylanternlaw16.LimitsTop", spec := "limitsTop", inPlace := ["math/bits.Add64", "math/bits.Sub64"], unfollowed := true, recurses := true, named := ["math/bits.divideError", "math/bits.overflowError"], apart := false, narrowed := true }
def LimitsTopUptoSaid : Prop := limitsTopUptoRow.holds Tryz.pinned (OpenSpec.upto limitsTopSpec)

/-- 'skylanternlaw16.LimitsGlides', WHERE WHAT IT READS IS OF BULK AT MOST 1048576: true; the input reads as it did. -/
def limitsGlidesUptoRow : OpenClaim := { program := "ytljmhpopdmadkaagreat", sum := "d63d81ae14901c718c88863a4e122ab8316460196d2df953b5d9e1851cae5b2c", func := "skylantern/skylanternlaw16.LimitsGlides", spec := "limitsGlides", inPlace := ["math/bits.Add64", "math/bits.Sub64"], unfollowed := true, recurses := true, named := ["math/bits.divideError", "math/bits.overflowError"], apart := false, narrowed := true }
def LimitsGlidesUptoSaid : Prop := limitsGlidesUptoRow.holds Tryz.pinned (OpenSpec.upto limitsGlidesSpec)

/-- 'skylanternlaw16.LimitsHolds', WHERE WHAT IT READS IS OF BULK AT MOST 1048576: true; the input reads as it did. -/
def limitsHoldsUptoRow : OpenClaim := { program := "ytljmhpopdmadkaagreat", sum := "d63d81ae14901c718c88863a4e122ab8316460196d2df953b5d9e1851cae5b2c", func := "skylantern/skylanternlaw16.LimitsHolds", spec := "limitsHolds", inPlace := ["math/bits.Add64", "math/bits.Sub64"], unfollowed := true, recurses := true, named := ["math/bits.divideError", "math/bits.overflowError"], apart := false, narrowed := true }
def LimitsHoldsUptoSaid : Prop := limitsHoldsUptoRow.holds Tryz.pinned (OpenSpec.upto limitsHoldsSpec)

end Rows
end Go.Proofs.YtljmhpopdmadkaaGreat
