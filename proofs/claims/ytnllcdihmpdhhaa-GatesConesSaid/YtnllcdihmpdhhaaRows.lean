/-
  No cell of these rows narrows 'for every input' (looked for: loops, veiled, ifaces, maps, wideKeys, modest, calm, conditions, laid).
  DERIVED. THE GIVEN ROWS OF THIS SEAT. 7 by the template 'for every input the law returns true; each argument reads behind the call as it read before'; 0 by the template 'total and deterministic' (their statements: YtnllcdihmpdhhaaTotals.lean).
  GIVEN WITH THE SEED: the statements are not yours to turn. If you find one false, say at which input.
  Laid BY PROGRAM, IN A SANDBOX (cutbox-rows.mjs): the forced cells as the released guide's own fill.sh prints them over the translation dd9cafc3a56187ea… (all of the seat's roots in one cut). By AI agents, Wed Nov 11 2026. No macro, syntax, notation, axiom, sorry.
-/
import Derived.Test.YtnllcdihmpdhhaaChecked
import GoSem.Claim
import GoSem.ClaimJoined
import GoSem.ClaimMapViews
import Derived.JoinedTies
import Derived.KernelRfl
namespace Go.Proofs.Ytnllcdihmpdhhaa
/- THE CELL 'sum', in the pinned program and in every row, IS THE sha256 OF THE DUMP (.gsa) THAT YtnllcdihmpdhhaaProg.lean LOADS. Nothing in Lean hashes anything: it is a label: what it is worth is what the hold of that sum in a sandbox is worth. -/
noncomputable def Try.pinned : Pinned := { name := "ytnllcdihmpdhhaa", sum := "dd9cafc3a56187eafee4976abaaee947e3b3f8916c281a4dc637cd7c34637b2c", checked := Try.checked }
namespace Rows
def none {H : Type} : Left H := { results := [], args := [] }

/-- 'spiritlevellaw02.GatesTells': WHATEVER THE INPUT: true; the input reads as it did. -/
def gatesTellsSpec : ChangeSpec := { name := "gatesTells", fn := fun _ => fun
  | [d1, d2] => { results := [.lit (.bool true)], args := [d1, d2] }
  | _ => none }
def gatesTellsRow : OpenClaim := { program := "ytnllcdihmpdhhaa", sum := "dd9cafc3a56187eafee4976abaaee947e3b3f8916c281a4dc637cd7c34637b2c", func := "spiritlevel/spiritlevellaw02.GatesTells", spec := "gatesTells", unfollowed := true, recurses := true, apart := false }
def GatesTellsSaid : Prop := gatesTellsRow.holds Try.pinned (OpenSpec.ofChange gatesTellsSpec)

/-- ITS FALSE NEIGHBOUR: 'it returns false'. Refute it at one input. -/
def gatesTellsWrong : ChangeSpec := { name := "gatesTells", fn := fun _ => fun
  | [d1, d2] => { results := [.lit (.bool false)], args := [d1, d2] }
  | _ => none }
def GatesTellsWrongFalsely : Prop := gatesTellsRow.holds Try.pinned (OpenSpec.ofChange gatesTellsWrong)

/-- 'spiritlevellaw02.GatesCones': WHATEVER THE INPUT: true; the input reads as it did. -/
def gatesConesSpec : ChangeSpec := { name := "gatesCones", fn := fun _ => fun
  | [d1, d2] => { results := [.lit (.bool true)], args := [d1, d2] }
  | _ => none }
def gatesConesRow : OpenClaim := { program := "ytnllcdihmpdhhaa", sum := "dd9cafc3a56187eafee4976abaaee947e3b3f8916c281a4dc637cd7c34637b2c", func := "spiritlevel/spiritlevellaw02.GatesCones", spec := "gatesCones", unfollowed := true, recurses := true, apart := false }
def GatesConesSaid : Prop := gatesConesRow.holds Try.pinned (OpenSpec.ofChange gatesConesSpec)

/-- ITS FALSE NEIGHBOUR: 'it returns false'. Refute it at one input. -/
def gatesConesWrong : ChangeSpec := { name := "gatesCones", fn := fun _ => fun
  | [d1, d2] => { results := [.lit (.bool false)], args := [d1, d2] }
  | _ => none }
def GatesConesWrongFalsely : Prop := gatesConesRow.holds Try.pinned (OpenSpec.ofChange gatesConesWrong)

/-- 'spiritlevellaw02.GatesNested': WHATEVER THE INPUT: true; the input reads as it did. -/
def gatesNestedSpec : ChangeSpec := { name := "gatesNested", fn := fun _ => fun
  | [d1, d2, d3] => { results := [.lit (.bool true)], args := [d1, d2, d3] }
  | _ => none }
def gatesNestedRow : OpenClaim := { program := "ytnllcdihmpdhhaa", sum := "dd9cafc3a56187eafee4976abaaee947e3b3f8916c281a4dc637cd7c34637b2c", func := "spiritlevel/spiritlevellaw02.GatesNested", spec := "gatesNested", unfollowed := true, recurses := true, apart := false }
def GatesNestedSaid : Prop := gatesNestedRow.holds Try.pinned (OpenSpec.ofChange gatesNestedSpec)

/-- ITS FALSE NEIGHBOUR: 'it returns false'. Refute it at one input. -/
def gatesNestedWrong : ChangeSpec := { name := "gatesNested", fn := fun _ => fun
  | [d1, d2, d3] => { results := [.lit (.bool false)], args := [d1, d2, d3] }
  | _ => none }
def GatesNestedWrongFalsely : Prop := gatesNestedRow.holds Try.pinned (OpenSpec.ofChange gatesNestedWrong)

/-- 'spiritlevellaw02.GatesLess': WHATEVER THE INPUT: true; the input reads as it did. -/
def gatesLessSpec : ChangeSpec := { name := "gatesLess", fn := fun _ => fun
  | [d1, d2] => { results := [.lit (.bool true)], args := [d1, d2] }
  | _ => none }
def gatesLessRow : OpenClaim := { program := "ytnllcdihmpdhhaa", sum := "dd9cafc3a56187eafee4976abaaee947e3b3f8916c281a4dc637cd7c34637b2c", func := "spiritlevel/spiritlevellaw02.GatesLess", spec := "gatesLess", unfollowed := true, recurses := true, apart := false }
def GatesLessSaid : Prop := gatesLessRow.holds Try.pinned (OpenSpec.ofChange gatesLessSpec)

/-- ITS FALSE NEIGHBOUR: 'it returns false'. Refute it at one input. -/
def gatesLessWrong : ChangeSpec := { name := "gatesLess", fn := fun _ => fun
  | [d1, d2] => { results := [.lit (.bool false)], args := [d1, d2] }
  | _ => none }
def GatesLessWrongFalsely : Prop := gatesLessRow.holds Try.pinned (OpenSpec.ofChange gatesLessWrong)

/-- 'spiritlevellaw02.GatesDepth': WHATEVER THE INPUT: true; the input reads as it did. -/
def gatesDepthSpec : ChangeSpec := { name := "gatesDepth", fn := fun _ => fun
  | [d1, d2, d3] => { results := [.lit (.bool true)], args := [d1, d2, d3] }
  | _ => none }
def gatesDepthRow : OpenClaim := { program := "ytnllcdihmpdhhaa", sum := "dd9cafc3a56187eafee4976abaaee947e3b3f8916c281a4dc637cd7c34637b2c", func := "spiritlevel/spiritlevellaw02.GatesDepth", spec := "gatesDepth", unfollowed := true, recurses := true, apart := false }
def GatesDepthSaid : Prop := gatesDepthRow.holds Try.pinned (OpenSpec.ofChange gatesDepthSpec)

/-- ITS FALSE NEIGHBOUR: 'it returns false'. Refute it at one input. -/
def gatesDepthWrong : ChangeSpec := { name := "gatesDepth", fn := fun _ => fun
  | [d1, d2, d3] => { results := [.lit (.bool false)], args := [d1, d2, d3] }
  | _ => none }
def GatesDepthWrongFalsely : Prop := gatesDepthRow.holds Try.pinned (OpenSpec.ofChange gatesDepthWrong)

/-- 'spiritlevellaw02.GatesNames': WHATEVER THE INPUT: true; the input reads as it did. -/
def gatesNamesSpec : ChangeSpec := { name := "gatesNames", fn := fun _ => fun
  | [] => { results := [.lit (.bool true)], args := [] }
  | _ => none }
def gatesNamesRow : OpenClaim := { program := "ytnllcdihmpdhhaa", sum := "dd9cafc3a56187eafee4976abaaee947e3b3f8916c281a4dc637cd7c34637b2c", func := "spiritlevel/spiritlevellaw02.GatesNames", spec := "gatesNames", unfollowed := true, recurses := true, apart := false }
def GatesNamesSaid : Prop := gatesNamesRow.holds Try.pinned (OpenSpec.ofChange gatesNamesSpec)

/-- ITS FALSE NEIGHBOUR: 'it returns false'. Refute it at one input. -/
def gatesNamesWrong : ChangeSpec := { name := "gatesNames", fn := fun _ => fun
  | [] => { results := [.lit (.bool false)], args := [] }
  | _ => none }
def GatesNamesWrongFalsely : Prop := gatesNamesRow.holds Try.pinned (OpenSpec.ofChange gatesNamesWrong)

/-- 'spiritlevellaw02.GatesBefore': WHATEVER THE INPUT: true; the input reads as it did. -/
def gatesBeforeSpec : ChangeSpec := { name := "gatesBefore", fn := fun _ => fun
  | [d1, d2] => { results := [.lit (.bool true)], args := [d1, d2] }
  | _ => none }
def gatesBeforeRow : OpenClaim := { program := "ytnllcdihmpdhhaa", sum := "dd9cafc3a56187eafee4976abaaee947e3b3f8916c281a4dc637cd7c34637b2c", func := "spiritlevel/spiritlevellaw02.GatesBefore", spec := "gatesBefore", unfollowed := true, recurses := true, apart := false }
def GatesBeforeSaid : Prop := gatesBeforeRow.holds Try.pinned (OpenSpec.ofChange gatesBeforeSpec)

/-- ITS FALSE NEIGHBOUR: 'it returns false'. Refute it at one input. -/
def gatesBeforeWrong : ChangeSpec := { name := "gatesBefore", fn := fun _ => fun
  | [d1, d2] => { results := [.lit (.bool false)], args := [d1, d2] }
  | _ => none }
def GatesBeforeWrongFalsely : Prop := gatesBeforeRow.holds Try.pinned (OpenSpec.ofChange gatesBeforeWrong)

/- THE SECOND FORM. 'bulk': how many values and letters a reading holds, each counted each time it is reached (what is shared counts as often as it is met; a slice's spare places count too). A statement '..UptoSaid' is the law's where the arguments, and the package variables that the reading takes, are together of bulk at most 1048576: NARROWER than '..Said'. Prove '..Said' where nothing that the law and all that it calls make is longer than what came in: it says more and counts as full. Else prove '..UptoSaid'. A law counts once. -/
mutual
def uptoBulk {H : Type} : DataW H → Nat
  | .lit (.string bytes) => bytes.length + 1
  | .lit _ => 1
  | .nil => 1
  | .ptr d => uptoBulk d + 1
  | .slice elems spare => uptoBulkAll elems + uptoBulkAll spare + 1
  | .agg parts => uptoBulkAll parts + 1
  | .iface _ d => uptoBulk d + 1
  | .map entries => uptoBulkEntries entries + 1
  | .held _ => 1
def uptoBulkAll {H : Type} : List (DataW H) → Nat
  | [] => 0
  | d :: r => uptoBulk d + uptoBulkAll r
def uptoBulkEntries {H : Type} : List (Lit × DataW H) → Nat
  | [] => 0
  | x :: r => uptoBulkEntry x + uptoBulkEntries r
def uptoBulkEntry {H : Type} : Lit × DataW H → Nat
  | (.string bytes, d) => bytes.length + uptoBulk d + 1
  | (_, d) => uptoBulk d + 1
 end
def uptoSmall : (H : Type) → List (DataW H) → Bool := fun _ ds => decide (uptoBulkAll ds ≤ 1048576)
def OpenSpec.upto (s : _root_.Go.ChangeSpec) : _root_.Go.OpenSpec := { _root_.Go.OpenSpec.ofChange s with cond := some uptoSmall }

/-- 'spiritlevellaw02.GatesTells', WHERE WHAT IT READS IS OF BULK AT MOST 1048576: true; the input reads as it did. -/
def gatesTellsUptoRow : OpenClaim := { program := "ytnllcdihmpdhhaa", sum := "dd9cafc3a56187eafee4976abaaee947e3b3f8916c281a4dc637cd7c34637b2c", func := "spiritlevel/spiritlevellaw02.GatesTells", spec := "gatesTells", unfollowed := true, recurses := true, apart := false, narrowed := true }
def GatesTellsUptoSaid : Prop := gatesTellsUptoRow.holds Try.pinned (OpenSpec.upto gatesTellsSpec)

/-- 'spiritlevellaw02.GatesCones', WHERE WHAT IT READS IS OF BULK AT MOST 1048576: true; the input reads as it did. -/
def gatesConesUptoRow : OpenClaim := { program := "ytnllcdihmpdhhaa", sum := "dd9cafc3a56187eafee4976abaaee947e3b3f8916c281a4dc637cd7c34637b2c", func := "spiritlevel/spiritlevellaw02.GatesCones", spec := "gatesCones", unfollowed := true, recurses := true, apart := false, narrowed := true }
def GatesConesUptoSaid : Prop := gatesConesUptoRow.holds Try.pinned (OpenSpec.upto gatesConesSpec)

/-- 'spiritlevellaw02.GatesNested', WHERE WHAT IT READS IS OF BULK AT MOST 1048576: true; the input reads as it did. -/
def gatesNestedUptoRow : OpenClaim := { program := "ytnllcdihmpdhhaa", sum := "dd9cafc3a56187eafee4976abaaee947e3b3f8916c281a4dc637cd7c34637b2c", func := "spiritlevel/spiritlevellaw02.GatesNested", spec := "gatesNested", unfollowed := true, recurses := true, apart := false, narrowed := true }
def GatesNestedUptoSaid : Prop := gatesNestedUptoRow.holds Try.pinned (OpenSpec.upto gatesNestedSpec)

/-- 'spiritlevellaw02.GatesLess', WHERE WHAT IT READS IS OF BULK AT MOST 1048576: true; the input reads as it did. -/
def gatesLessUptoRow : OpenClaim := { program := "ytnllcdihmpdhhaa", sum := "dd9cafc3a56187eafee4976abaaee947e3b3f8916c281a4dc637cd7c34637b2c", func := "spiritlevel/spiritlevellaw02.GatesLess", spec := "gatesLess", unfollowed := true, recurses := true, apart := false, narrowed := true }
def GatesLessUptoSaid : Prop := gatesLessUptoRow.holds Try.pinned (OpenSpec.upto gatesLessSpec)

/-- 'spiritlevellaw02.GatesDepth', WHERE WHAT IT READS IS OF BULK AT MOST 1048576: true; the input reads as it did. -/
def gatesDepthUptoRow : OpenClaim := { program := "ytnllcdihmpdhhaa", sum := "dd9cafc3a56187eafee4976abaaee947e3b3f8916c281a4dc637cd7c34637b2c", func := "spiritlevel/spiritlevellaw02.GatesDepth", spec := "gatesDepth", unfollowed := true, recurses := true, apart := false, narrowed := true }
def GatesDepthUptoSaid : Prop := gatesDepthUptoRow.holds Try.pinned (OpenSpec.upto gatesDepthSpec)

/-- 'spiritlevellaw02.GatesNames', WHERE WHAT IT READS IS OF BULK AT MOST 1048576: true; the input reads as it did. -/
def gatesNamesUptoRow : OpenClaim := { program := "ytnllcdihmpdhhaa", sum := "dd9cafc3a56187eafee4976abaaee947e3b3f8916c281a4dc637cd7c34637b2c", func := "spiritlevel/spiritlevellaw02.GatesNames", spec := "gatesNames", unfollowed := true, recurses := true, apart := false, narrowed := true }
def GatesNamesUptoSaid : Prop := gatesNamesUptoRow.holds Try.pinned (OpenSpec.upto gatesNamesSpec)

/-- 'spiritlevellaw02.GatesBefore', WHERE WHAT IT READS IS OF BULK AT MOST 1048576: true; the input reads as it did. -/
def gatesBeforeUptoRow : OpenClaim := { program := "ytnllcdihmpdhhaa", sum := "dd9cafc3a56187eafee4976abaaee947e3b3f8916c281a4dc637cd7c34637b2c", func := "spiritlevel/spiritlevellaw02.GatesBefore", spec := "gatesBefore", unfollowed := true, recurses := true, apart := false, narrowed := true }
def GatesBeforeUptoSaid : Prop := gatesBeforeUptoRow.holds Try.pinned (OpenSpec.upto gatesBeforeSpec)

end Rows
end Go.Proofs.Ytnllcdihmpdhhaa
