/-
  No cell of these rows narrows 'for every input' (looked for: loops, veiled, ifaces, maps, wideKeys, modest, calm, conditions, laid).
  DERIVED. THE GIVEN ROWS OF THIS SEAT. 11 by the template 'for every input the law returns true; each argument reads behind the call as it read before'; 0 by the template 'total and deterministic' (their statements: YteikicbnfbgpnaaGreatTotals.lean).
  GIVEN WITH THE SEED: the statements are not yours to turn. If you find one false, say at which input.
  Laid BY PROGRAM, IN A SANDBOX (cutbox-rows.mjs): the forced cells as the released guide's own fill.sh prints them over the translation cfed099997215bf9… (all of the seat's roots in one cut). By AI agents, Wed Nov 11 2026. No macro, syntax, notation, axiom, sorry.
-/
import Derived.Test.YteikicbnfbgpnaaGreatChecked
import GoSem.Claim
import GoSem.ClaimJoined
import GoSem.ClaimMapViews
import Derived.JoinedTies
import Derived.KernelRfl
namespace Go.Proofs.YteikicbnfbgpnaaGreat
/- THE CELL 'sum', in the pinned program and in every row, IS THE sha256 OF THE DUMP (.gsa) THAT YteikicbnfbgpnaaGreatProg.lean LOADS. Nothing in Lean hashes anything: it is a label: what it is worth is what the hold of that sum in a sandbox is worth. -/
noncomputable def Tryz.pinned : Pinned := { name := "yteikicbnfbgpnaagreat", sum := "cfed099997215bf9dfebb437244cb7b0e5fc2d34f22b9a94a75b14c0d99ae1e7", checked := Tryz.checked }
namespace Rows
def none {H : Type} : Left H := { results := [], args := [] }

/-- 'skylanternlaw18.DownwashPoints': WHATEVER THE INPUT: true; the input reads as it did. -/
def downwashPointsSpec : ChangeSpec := { name := "downwashPoints", fn := fun _ => fun
  | [d1, d2, d3] => { results := [.lit (.bool true)], args := [d1, d2, d3] }
  | _ => none }
def downwashPointsRow : OpenClaim := { program := "yteikicbnfbgpnaagreat", sum := "cfed099997215bf9dfebb437244cb7b0e5fc2d34f22b9a94a75b14c0d99ae1e7", func := "skylantern/skylanternlaw18.DownwashPoints", spec := "downwashPoints", inPlace := ["math/bits.Add64", "math/bits.Sub64"], unfollowed := true, recurses := true, named := ["math/bits.divideError", "math/bits.overflowError"], apart := false }
def DownwashPointsSaid : Prop := downwashPointsRow.holds Tryz.pinned (OpenSpec.ofChange downwashPointsSpec)

/-- ITS FALSE NEIGHBOUR: 'it returns false'. Refute it at one input. -/
def downwashPointsWrong : ChangeSpec := { name := "downwashPoints", fn := fun _ => fun
  | [d1, d2, d3] => { results := [.lit (.bool false)], args := [d1, d2, d3] }
  | _ => none }
def DownwashPointsWrongFalsely : Prop := downwashPointsRow.holds Tryz.pinned (OpenSpec.ofChange downwashPointsWrong)

/-- 'skylanternlaw18.DownwashForms': WHATEVER THE INPUT: true; the input reads as it did. -/
def downwashFormsSpec : ChangeSpec := { name := "downwashForms", fn := fun _ => fun
  | [d1, d2, d3] => { results := [.lit (.bool true)], args := [d1, d2, d3] }
  | _ => none }
def downwashFormsRow : OpenClaim := { program := "yteikicbnfbgpnaagreat", sum := "cfed099997215bf9dfebb437244cb7b0e5fc2d34f22b9a94a75b14c0d99ae1e7", func := "skylantern/skylanternlaw18.DownwashForms", spec := "downwashForms", inPlace := ["math/bits.Add64", "math/bits.Sub64"], unfollowed := true, recurses := true, named := ["math/bits.divideError", "math/bits.overflowError"], apart := false }
def DownwashFormsSaid : Prop := downwashFormsRow.holds Tryz.pinned (OpenSpec.ofChange downwashFormsSpec)

/-- ITS FALSE NEIGHBOUR: 'it returns false'. Refute it at one input. -/
def downwashFormsWrong : ChangeSpec := { name := "downwashForms", fn := fun _ => fun
  | [d1, d2, d3] => { results := [.lit (.bool false)], args := [d1, d2, d3] }
  | _ => none }
def DownwashFormsWrongFalsely : Prop := downwashFormsRow.holds Tryz.pinned (OpenSpec.ofChange downwashFormsWrong)

/-- 'skylanternlaw18.DownwashGaps': WHATEVER THE INPUT: true; the input reads as it did. -/
def downwashGapsSpec : ChangeSpec := { name := "downwashGaps", fn := fun _ => fun
  | [d1, d2, d3] => { results := [.lit (.bool true)], args := [d1, d2, d3] }
  | _ => none }
def downwashGapsRow : OpenClaim := { program := "yteikicbnfbgpnaagreat", sum := "cfed099997215bf9dfebb437244cb7b0e5fc2d34f22b9a94a75b14c0d99ae1e7", func := "skylantern/skylanternlaw18.DownwashGaps", spec := "downwashGaps", inPlace := ["math/bits.Add64", "math/bits.Sub64"], unfollowed := true, recurses := true, named := ["math/bits.divideError", "math/bits.overflowError"], apart := false }
def DownwashGapsSaid : Prop := downwashGapsRow.holds Tryz.pinned (OpenSpec.ofChange downwashGapsSpec)

/-- ITS FALSE NEIGHBOUR: 'it returns false'. Refute it at one input. -/
def downwashGapsWrong : ChangeSpec := { name := "downwashGaps", fn := fun _ => fun
  | [d1, d2, d3] => { results := [.lit (.bool false)], args := [d1, d2, d3] }
  | _ => none }
def DownwashGapsWrongFalsely : Prop := downwashGapsRow.holds Tryz.pinned (OpenSpec.ofChange downwashGapsWrong)

/-- 'skylanternlaw18.DownwashFirst': WHATEVER THE INPUT: true; the input reads as it did. -/
def downwashFirstSpec : ChangeSpec := { name := "downwashFirst", fn := fun _ => fun
  | [d1, d2] => { results := [.lit (.bool true)], args := [d1, d2] }
  | _ => none }
def downwashFirstRow : OpenClaim := { program := "yteikicbnfbgpnaagreat", sum := "cfed099997215bf9dfebb437244cb7b0e5fc2d34f22b9a94a75b14c0d99ae1e7", func := "skylantern/skylanternlaw18.DownwashFirst", spec := "downwashFirst", inPlace := ["math/bits.Add64", "math/bits.Sub64"], unfollowed := true, recurses := true, named := ["math/bits.divideError", "math/bits.overflowError"], apart := false }
def DownwashFirstSaid : Prop := downwashFirstRow.holds Tryz.pinned (OpenSpec.ofChange downwashFirstSpec)

/-- ITS FALSE NEIGHBOUR: 'it returns false'. Refute it at one input. -/
def downwashFirstWrong : ChangeSpec := { name := "downwashFirst", fn := fun _ => fun
  | [d1, d2] => { results := [.lit (.bool false)], args := [d1, d2] }
  | _ => none }
def DownwashFirstWrongFalsely : Prop := downwashFirstRow.holds Tryz.pinned (OpenSpec.ofChange downwashFirstWrong)

/-- 'skylanternlaw17.SeparateForms': WHATEVER THE INPUT: true; the input reads as it did. -/
def separateFormsSpec : ChangeSpec := { name := "separateForms", fn := fun _ => fun
  | [d1, d2, d3] => { results := [.lit (.bool true)], args := [d1, d2, d3] }
  | _ => none }
def separateFormsRow : OpenClaim := { program := "yteikicbnfbgpnaagreat", sum := "cfed099997215bf9dfebb437244cb7b0e5fc2d34f22b9a94a75b14c0d99ae1e7", func := "skylantern/skylanternlaw17.SeparateForms", spec := "separateForms", inPlace := ["math/bits.Add64", "math/bits.Sub64"], unfollowed := true, recurses := true, named := ["math/bits.divideError", "math/bits.overflowError"], apart := false }
def SeparateFormsSaid : Prop := separateFormsRow.holds Tryz.pinned (OpenSpec.ofChange separateFormsSpec)

/-- ITS FALSE NEIGHBOUR: 'it returns false'. Refute it at one input. -/
def separateFormsWrong : ChangeSpec := { name := "separateForms", fn := fun _ => fun
  | [d1, d2, d3] => { results := [.lit (.bool false)], args := [d1, d2, d3] }
  | _ => none }
def SeparateFormsWrongFalsely : Prop := separateFormsRow.holds Tryz.pinned (OpenSpec.ofChange separateFormsWrong)

/-- 'skylanternlaw17.SeparateGaps': WHATEVER THE INPUT: true; the input reads as it did. -/
def separateGapsSpec : ChangeSpec := { name := "separateGaps", fn := fun _ => fun
  | [d1, d2, d3] => { results := [.lit (.bool true)], args := [d1, d2, d3] }
  | _ => none }
def separateGapsRow : OpenClaim := { program := "yteikicbnfbgpnaagreat", sum := "cfed099997215bf9dfebb437244cb7b0e5fc2d34f22b9a94a75b14c0d99ae1e7", func := "skylantern/skylanternlaw17.SeparateGaps", spec := "separateGaps", inPlace := ["math/bits.Add64", "math/bits.Sub64"], unfollowed := true, recurses := true, named := ["math/bits.divideError", "math/bits.overflowError"], apart := false }
def SeparateGapsSaid : Prop := separateGapsRow.holds Tryz.pinned (OpenSpec.ofChange separateGapsSpec)

/-- ITS FALSE NEIGHBOUR: 'it returns false'. Refute it at one input. -/
def separateGapsWrong : ChangeSpec := { name := "separateGaps", fn := fun _ => fun
  | [d1, d2, d3] => { results := [.lit (.bool false)], args := [d1, d2, d3] }
  | _ => none }
def SeparateGapsWrongFalsely : Prop := separateGapsRow.holds Tryz.pinned (OpenSpec.ofChange separateGapsWrong)

/-- 'skylanternlaw17.SeparateApart': WHATEVER THE INPUT: true; the input reads as it did. -/
def separateApartSpec : ChangeSpec := { name := "separateApart", fn := fun _ => fun
  | [d1, d2, d3] => { results := [.lit (.bool true)], args := [d1, d2, d3] }
  | _ => none }
def separateApartRow : OpenClaim := { program := "yteikicbnfbgpnaagreat", sum := "cfed099997215bf9dfebb437244cb7b0e5fc2d34f22b9a94a75b14c0d99ae1e7", func := "skylantern/skylanternlaw17.SeparateApart", spec := "separateApart", inPlace := ["math/bits.Add64", "math/bits.Sub64"], unfollowed := true, recurses := true, named := ["math/bits.divideError", "math/bits.overflowError"], apart := false }
def SeparateApartSaid : Prop := separateApartRow.holds Tryz.pinned (OpenSpec.ofChange separateApartSpec)

/-- ITS FALSE NEIGHBOUR: 'it returns false'. Refute it at one input. -/
def separateApartWrong : ChangeSpec := { name := "separateApart", fn := fun _ => fun
  | [d1, d2, d3] => { results := [.lit (.bool false)], args := [d1, d2, d3] }
  | _ => none }
def SeparateApartWrongFalsely : Prop := separateApartRow.holds Tryz.pinned (OpenSpec.ofChange separateApartWrong)

/-- 'skylanternlaw17.SeparateFirst': WHATEVER THE INPUT: true; the input reads as it did. -/
def separateFirstSpec : ChangeSpec := { name := "separateFirst", fn := fun _ => fun
  | [d1, d2, d3] => { results := [.lit (.bool true)], args := [d1, d2, d3] }
  | _ => none }
def separateFirstRow : OpenClaim := { program := "yteikicbnfbgpnaagreat", sum := "cfed099997215bf9dfebb437244cb7b0e5fc2d34f22b9a94a75b14c0d99ae1e7", func := "skylantern/skylanternlaw17.SeparateFirst", spec := "separateFirst", inPlace := ["math/bits.Add64", "math/bits.Sub64"], unfollowed := true, recurses := true, named := ["math/bits.divideError", "math/bits.overflowError"], apart := false }
def SeparateFirstSaid : Prop := separateFirstRow.holds Tryz.pinned (OpenSpec.ofChange separateFirstSpec)

/-- ITS FALSE NEIGHBOUR: 'it returns false'. Refute it at one input. -/
def separateFirstWrong : ChangeSpec := { name := "separateFirst", fn := fun _ => fun
  | [d1, d2, d3] => { results := [.lit (.bool false)], args := [d1, d2, d3] }
  | _ => none }
def SeparateFirstWrongFalsely : Prop := separateFirstRow.holds Tryz.pinned (OpenSpec.ofChange separateFirstWrong)

/-- 'skylanternlaw17.SeparateNearest': WHATEVER THE INPUT: true; the input reads as it did. -/
def separateNearestSpec : ChangeSpec := { name := "separateNearest", fn := fun _ => fun
  | [d1, d2] => { results := [.lit (.bool true)], args := [d1, d2] }
  | _ => none }
def separateNearestRow : OpenClaim := { program := "yteikicbnfbgpnaagreat", sum := "cfed099997215bf9dfebb437244cb7b0e5fc2d34f22b9a94a75b14c0d99ae1e7", func := "skylantern/skylanternlaw17.SeparateNearest", spec := "separateNearest", inPlace := ["math/bits.Add64", "math/bits.Sub64"], unfollowed := true, recurses := true, named := ["math/bits.divideError", "math/bits.overflowError"], apart := false }
def SeparateNearestSaid : Prop := separateNearestRow.holds Tryz.pinned (OpenSpec.ofChange separateNearestSpec)

/-- ITS FALSE NEIGHBOUR: 'it returns false'. Refute it at one input. -/
def separateNearestWrong : ChangeSpec := { name := "separateNearest", fn := fun _ => fun
  | [d1, d2] => { results := [.lit (.bool false)], args := [d1, d2] }
  | _ => none }
def SeparateNearestWrongFalsely : Prop := separateNearestRow.holds Tryz.pinned (OpenSpec.ofChange separateNearestWrong)

/-- 'skylanternlaw18.DownwashHolds': WHATEVER THE INPUT: true; the input reads as it did. -/
def downwashHoldsSpec : ChangeSpec := { name := "downwashHolds", fn := fun _ => fun
  | [d1, d2, d3, d4, d5, d6] => { results := [.lit (.bool true)], args := [d1, d2, d3, d4, d5, d6] }
  | _ => none }
def downwashHoldsRow : OpenClaim := { program := "yteikicbnfbgpnaagreat", sum := "cfed099997215bf9dfebb437244cb7b0e5fc2d34f22b9a94a75b14c0d99ae1e7", func := "skylantern/skylanternlaw18.DownwashHolds", spec := "downwashHolds", inPlace := ["math/bits.Add64", "math/bits.Sub64"], unfollowed := true, recurses := true, named := ["math/bits.divideError", "math/bits.overflowError"], apart := false }
def DownwashHoldsSaid : Prop := downwashHoldsRow.holds Tryz.pinned (OpenSpec.ofChange downwashHoldsSpec)

/-- ITS FALSE NEIGHBOUR: 'it returns false'. Refute it at one input. -/
def downwashHoldsWrong : ChangeSpec := { name := "downwashHolds", fn := fun _ => fun
  | [d1, d2, d3, d4, d5, d6] => { results := [.lit (.bool false)], args := [d1, d2, d3, d4, d5, d6] }
  | _ => none }
def DownwashHoldsWrongFalsely : Prop := downwashHoldsRow.holds Tryz.pinned (OpenSpec.ofChange downwashHoldsWrong)

/-- 'skylanternlaw17.SeparateHolds': WHATEVER THE INPUT: true; the input reads as it did. -/
def separateHoldsSpec : ChangeSpec := { name := "separateHolds", fn := fun _ => fun
  | [d1, d2, d3, d4, d5, d6, d7] => { results := [.lit (.bool true)], args := [d1, d2, d3, d4, d5, d6, d7] }
  | _ => none }
def separateHoldsRow : OpenClaim := { program := "yteikicbnfbgpnaagreat", sum := "cfed099997215bf9dfebb437244cb7b0e5fc2d34f22b9a94a75b14c0d99ae1e7", func := "skylantern/skylanternlaw17.SeparateHolds", spec := "separateHolds", inPlace := ["math/bits.Add64", "math/bits.Sub64"], unfollowed := true, recurses := true, named := ["math/bits.divideError", "math/bits.overflowError"], apart := false }
def SeparateHoldsSaid : Prop := separateHoldsRow.holds Tryz.pinned (OpenSpec.ofChange separateHoldsSpec)

/-- ITS FALSE NEIGHBOUR: 'it returns false'. Refute it at one input. -/
def separateHoldsWrong : ChangeSpec := { name := "separateHolds", fn := fun _ => fun
  | [d1, d2, d3, d4, d5, d6, d7] => { results := [.lit (.bool false)], args := [d1, d2, d3, d4, d5, d6, d7] }
  | _ => none }
def SeparateHoldsWrongFalsely : Prop := separateHoldsRow.holds Tryz.pinned (OpenSpec.ofChange separateHoldsWrong)

/- THE SECOND FORM. 'bulk': how many values and letters a reading holds, each counted each time it is reached (what is shared counts as often as it is met; a slice's spare places count too). A statement '..UptoSaid' is the law's where the arguments, and the package variables that the reading takes, are together of bulk at most 1048576: NARROWER than '..Said'. Prove '..Said' where nothing that the law and all that it calls make is longer than what came in: it says more and counts as full. Else prove '..UptoSaid'. A law counts once. -/
mutual
def uptoBulk {H : Type} : DataW H → Nat
  | .lit (.string bytes) => bytes.length + 1
  | .lit _ => 1
  | .nil => 1
  | .ptr d => uptoBulk d + 1
  | .slice elems spare => uptoBulkAll elems + uptoBulkAll spare + 1
  | .agg parts => uptoBulkAll parts + 1
  | .iface _ d => uptoBulk d + 1
  | .map entries => uptoBulkEntries entries + 1
  | .held _ => 1
def uptoBulkAll {H : Type} : List (DataW H) → Nat
  | [] => 0
  | d :: r => uptoBulk d + uptoBulkAll r
def uptoBulkEntries {H : Type} : List (Lit × DataW H) → Nat
  | [] => 0
  | x :: r => uptoBulkEntry x + uptoBulkEntries r
def uptoBulkEntry {H : Type} : Lit × DataW H → Nat
  | (.string bytes, d) => bytes.length + uptoBulk d + 1
  | (_, d) => uptoBulk d + 1
 end
def uptoSmall : (H : Type) → List (DataW H) → Bool := fun _ ds => decide (uptoBulkAll ds ≤ 1048576)
def OpenSpec.upto (s : _root_.Go.ChangeSpec) : _root_.Go.OpenSpec := { _root_.Go.OpenSpec.ofChange s with cond := some uptoSmall }

/-- 'skylanternlaw18.DownwashPoints', WHERE WHAT IT READS IS OF BULK AT MOST 1048576: true; the input reads as it did. -/
def downwashPointsUptoRow : OpenClaim := { program := "yteikicbnfbgpnaagreat", sum := "cfed099997215bf9dfebb437244cb7b0e5fc2d34f22b9a94a75b14c0d99ae1e7", func := "skylantern/skylanternlaw18.DownwashPoints", spec := "downwashPoints", inPlace := ["math/bits.Add64", "math/bits.Sub64"], unfollowed := true, recurses := true, named := ["math/bits.divideError", "math/bits.overflowError"], apart := false, narrowed := true }
def DownwashPointsUptoSaid : Prop := downwashPointsUptoRow.holds Tryz.pinned (OpenSpec.upto downwashPointsSpec)

/-- 'skylanternlaw18.DownwashForms', WHERE WHAT IT READS IS OF BULK AT MOST 1048576: true; the input reads as it did. -/
def downwashFormsUptoRow : OpenClaim := { program := "yteikicbnfbgpnaagreat", sum := "cfed099997215bf9dfebb437244cb7b0e5fc2d34f22b9a94a75b14c0d99ae1e7", func := "skylantern/skylanternlaw18.DownwashForms", spec := "downwashForms", inPlace := ["math/bits.Add64", "math/bits.Sub64"], unfollowed := true, recurses := true, named := ["math/bits.divideError", "math/bits.overflowError"], apart := false, narrowed := true }
def DownwashFormsUptoSaid : Prop := downwashFormsUptoRow.holds Tryz.pinned (OpenSpec.upto downwashFormsSpec)

/-- 'skylanternlaw18.DownwashGaps', WHERE WHAT IT READS IS OF BULK AT MOST 1048576: true; the input reads as it did. -/
def downwashGapsUptoRow : OpenClaim := { program := "yteikicbnfbgpnaagreat", sum := "cfed099997215bf9dfebb437244cb7b0e5fc2d34f22b9a94a75b14c0d99ae1e7", func := "skylantern/skylanternlaw18.DownwashGaps", spec := "downwashGaps", inPlace := ["math/bits.Add64", "math/bits.Sub64"], unfollowed := true, recurses := true, named := ["math/bits.divideError", "math/bits.overflowError"], apart := false, narrowed := true }
def DownwashGapsUptoSaid : Prop := downwashGapsUptoRow.holds Tryz.pinned (OpenSpec.upto downwashGapsSpec)

/-- 'skylanternlaw18.DownwashFirst', WHERE WHAT IT READS IS OF BULK AT MOST 1048576: true; the input reads as it did. -/
def downwashFirstUptoRow : OpenClaim := { program := "yteikicbnfbgpnaagreat", sum := "cfed099997215bf9dfebb437244cb7b0e5fc2d34f22b9a94a75b14c0d99ae1e7", func := "skylantern/skylanternlaw18.DownwashFirst", spec := "downwashFirst", inPlace := ["math/bits.Add64", "math/bits.Sub64"], unfollowed := true, recurses := true, named := ["math/bits.divideError", "math/bits.overflowError"], apart := false, narrowed := true }
def DownwashFirstUptoSaid : Prop := downwashFirstUptoRow.holds Tryz.pinned (OpenSpec.upto downwashFirstSpec)

/-- 'skylanternlaw17.SeparateForms', WHERE WHAT IT READS IS OF BULK AT MOST 1048576: true; the input reads as it did. -/
def separateFormsUptoRow : OpenClaim := { program := "yteikicbnfbgpnaagreat", sum := "cfed099997215bf9dfebb437244cb7b0e5fc2d34f22b9a94a75b14c0d99ae1e7", func := "skylantern/skylanternlaw17.SeparateForms", spec := "separateForms", inPlace := ["math/bits.Add64", "math/bits.Sub64"], unfollowed := true, recurses := true, named := ["math/bits.divideError", "math/bits.overflowError"], apart := false, narrowed := true }
def SeparateFormsUptoSaid : Prop := separateFormsUptoRow.holds Tryz.pinned (OpenSpec.upto separateFormsSpec)

/-- 'skylanternlaw17.SeparateGaps', WHERE WHAT IT READS IS OF BULK AT MOST 1048576: true; the input reads as it did. -/
def separateGapsUptoRow : OpenClaim := { program := "yteikicbnfbgpnaagreat", sum := "cfed099997215bf9dfebb437244cb7b0e5fc2d34f22b9a94a75b14c0d99ae1e7", func := "skylantern/skylanternlaw17.SeparateGaps", spec := "separateGaps", inPlace := ["math/bits.Add64", "math/bits.Sub64"], unfollowed := true, recurses := true, named := ["math/bits.divideError", "math/bits.overflowError"], apart := false, narrowed := true }
def SeparateGapsUptoSaid : Prop := separateGapsUptoRow.holds Tryz.pinned (OpenSpec.upto separateGapsSpec)

/-- 'skylanternlaw17.SeparateApart', WHERE WHAT IT READS IS OF BULK AT MOST 1048576: true; the input reads as it did. -/
def separateApartUptoRow : OpenClaim := { program := "yteikicbnfbgpnaagreat", sum := "cfed099997215bf9dfebb437244cb7b0e5fc2d34f22b9a94a75b14c0d99ae1e7", func := "skylantern/skylanternlaw17.SeparateApart", spec := "separateApart", inPlace := ["math/bits.Add64", "math/bits.Sub64"], unfollowed := true, recurses := true, named := ["math/bits.divideError", "math/bits.overflowError"], apart := false, narrowed := true }
def SeparateApartUptoSaid : Prop := separateApartUptoRow.holds Tryz.pinned (OpenSpec.upto separateApartSpec)

/-- 'skylanternlaw17.SeparateFirst', WHERE WHAT IT READS IS OF BULK AT MOST 1048576: true; the input reads as it did. -/
def separateFirstUptoRow : OpenClaim := { program := "yteikicbnfbgpnaagreat", sum := "cfed099997215bf9dfebb437244cb7b0e5fc2d34f22b9a94a75b14c0d99ae1e7", func := "skylantern/skylanternlaw17.SeparateFirst", spec := "separateFirst", inPlace := ["math/bits.Add64", "math/bits.Sub64"], unfollowed := true, recurses := true, named := ["math/bits.divideError", "math/bits.overflowError"], apart := false, narrowed := true }
def SeparateFirstUptoSaid : Prop := separateFirstUptoRow.holds Tryz.pinned (OpenSpec.upto separateFirstSpec)

/-- 'skylanternlaw17.SeparateNearest', WHERE WHAT IT READS IS OF BULK AT MOST 1048576: true; the input reads as it did. -/
def separateNearestUptoRow : OpenClaim := { program := "yteikicbnfbgpnaagreat", sum := "cfed099997215bf9dfebb437244cb7b0e5fc2d34f22b9a94a75b14c0d99ae1e7", func := "skylantern/skylanternlaw17.SeparateNearest", spec := "separateNearest", inPlace := ["math/bits.Add64", "math/bits.Sub64"], unfollowed := true, recurses := true, named := ["math/bits.divideError", "math/bits.overflowError"], apart := false, narrowed := true }
def SeparateNearestUptoSaid : Prop := separateNearestUptoRow.holds Tryz.pinned (OpenSpec.upto separateNearestSpec)

/-- 'skylanternlaw18.DownwashHolds', WHERE WHAT IT READS IS OF BULK AT MOST 1048576: true; the input reads as it did. -/
def downwashHoldsUptoRow : OpenClaim := { program := "yteikicbnfbgpnaagreat", sum := "cfed099997215bf9dfebb437244cb7b0e5fc2d34f22b9a94a75b14c0d99ae1e7", func := "skylantern/skylanternlaw18.DownwashHolds", spec := "downwashHolds", inPlace := ["math/bits.Add64", "math/bits.Sub64"], unfollowed := true, recurses := true, named := ["math/bits.divideError", "math/bits.overflowError"], apart := false, narrowed := true }
def DownwashHoldsUptoSaid : Prop := downwashHoldsUptoRow.holds Tryz.pinned (OpenSpec.upto downwashHoldsSpec)

/-- 'skylanternlaw17.SeparateHolds', WHERE WHAT IT READS IS OF BULK AT MOST 1048576: true; the input reads as it did. -/
def separateHoldsUptoRow : OpenClaim := { program := "yteikicbnfbgpnaagreat", sum := "cfed099997215bf9dfebb437244cb7b0e5fc2d34f22b9a94a75b14c0d99ae1e7", func := "skylantern/skylanternlaw17.SeparateHolds", spec := "separateHolds", inPlace := ["math/bits.Add64", "math/bits.Sub64"], unfollowed := true, recurses := true, named := ["math/bits.divideError", "math/bits.overflowError"], apart := false, narrowed := true }
def SeparateHoldsUptoSaid : Prop := separateHoldsUptoRow.holds Tryz.pinned (OpenSpec.upto separateHoldsSpec)

end Rows
end Go.Proofs.YteikicbnfbgpnaaGreat
