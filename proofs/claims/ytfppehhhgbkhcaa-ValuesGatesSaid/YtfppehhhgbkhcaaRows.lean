/-
  No cell of these rows narrows 'for every input' (looked for: loops, veiled, ifaces, maps, wideKeys, modest, calm, conditions, laid).
  DERIVED. THE GIVEN ROWS OF THIS SEAT. 6 by the template 'for every input the law returns true; each argument reads behind the call as it read before'; 0 by the template 'total and deterministic' (their statements: YtfppehhhgbkhcaaTotals.lean).
  GIVEN WITH THE SEED: the statements are not yours to turn. If you find one false, say at which input.
  Laid BY PROGRAM, IN A SANDBOX (cutbox-rows.mjs): the forced cells as the released guide's own fill.sh prints them over the translation 0cf04d214830a964… (all of the seat's roots in one cut). By AI agents, Wed Nov 11 2026. No macro, syntax, notation, axiom, sorry.
-/
import Derived.Test.YtfppehhhgbkhcaaChecked
import GoSem.Claim
import GoSem.ClaimJoined
import GoSem.ClaimMapViews
import Derived.JoinedTies
import Derived.KernelRfl
namespace Go.Proofs.Ytfppehhhgbkhcaa
/- THE CELL 'sum', in the pinned program and in every row, IS THE sha256 OF THE DUMP (.gsa) THAT YtfppehhhgbkhcaaProg.lean LOADS. Nothing in Lean hashes anything: it is a label: what it is worth is what the hold of that sum in a sandbox is worth. -/
noncomputable def Try.pinned : Pinned := { name := "ytfppehhhgbkhcaa", sum := "0cf04d214830a9644ff3babe2c2cdc4cc81507f502d6ebfa0eac82444f91f895", checked := Try.checked }
namespace Rows
def none {H : Type} : Left H := { results := [], args := [] }

/-- 'spiritlevellaw04.ValuesMore': WHATEVER THE INPUT: true; the input reads as it did. -/
def valuesMoreSpec : ChangeSpec := { name := "valuesMore", fn := fun _ => fun
  | [d1, d2, d3, d4, d5] => { results := [.lit (.bool true)], args := [d1, d2, d3, d4, d5] }
  | _ => none }
def valuesMoreRow : OpenClaim := { program := "ytfppehhhgbkhcaa", sum := "0cf04d214830a9644ff3babe2c2cdc4cc81507f502d6ebfa0eac82444f91f895", func := "spiritlevel/spiritlevellaw04.ValuesMore", spec := "valuesMore", unfollowed := true, recurses := true, apart := false }
def ValuesMoreSaid : Prop := valuesMoreRow.holds Try.pinned (OpenSpec.ofChange valuesMoreSpec)

/-- ITS FALSE NEIGHBOUR: 'it returns false'. Refute it at one input. -/
def valuesMoreWrong : ChangeSpec := { name := "valuesMore", fn := fun _ => fun
  | [d1, d2, d3, d4, d5] => { results := [.lit (.bool false)], args := [d1, d2, d3, d4, d5] }
  | _ => none }
def ValuesMoreWrongFalsely : Prop := valuesMoreRow.holds Try.pinned (OpenSpec.ofChange valuesMoreWrong)

/-- 'spiritlevellaw04.ValuesFrames': WHATEVER THE INPUT: true; the input reads as it did. -/
def valuesFramesSpec : ChangeSpec := { name := "valuesFrames", fn := fun _ => fun
  | [d1, d2, d3] => { results := [.lit (.bool true)], args := [d1, d2, d3] }
  | _ => none }
def valuesFramesRow : OpenClaim := { program := "ytfppehhhgbkhcaa", sum := "0cf04d214830a9644ff3babe2c2cdc4cc81507f502d6ebfa0eac82444f91f895", func := "spiritlevel/spiritlevellaw04.ValuesFrames", spec := "valuesFrames", unfollowed := true, recurses := true, apart := false }
def ValuesFramesSaid : Prop := valuesFramesRow.holds Try.pinned (OpenSpec.ofChange valuesFramesSpec)

/-- ITS FALSE NEIGHBOUR: 'it returns false'. Refute it at one input. -/
def valuesFramesWrong : ChangeSpec := { name := "valuesFrames", fn := fun _ => fun
  | [d1, d2, d3] => { results := [.lit (.bool false)], args := [d1, d2, d3] }
  | _ => none }
def ValuesFramesWrongFalsely : Prop := valuesFramesRow.holds Try.pinned (OpenSpec.ofChange valuesFramesWrong)

/-- 'spiritlevellaw04.ValuesNames': WHATEVER THE INPUT: true; the input reads as it did. -/
def valuesNamesSpec : ChangeSpec := { name := "valuesNames", fn := fun _ => fun
  | [] => { results := [.lit (.bool true)], args := [] }
  | _ => none }
def valuesNamesRow : OpenClaim := { program := "ytfppehhhgbkhcaa", sum := "0cf04d214830a9644ff3babe2c2cdc4cc81507f502d6ebfa0eac82444f91f895", func := "spiritlevel/spiritlevellaw04.ValuesNames", spec := "valuesNames", unfollowed := true, recurses := true, apart := false }
def ValuesNamesSaid : Prop := valuesNamesRow.holds Try.pinned (OpenSpec.ofChange valuesNamesSpec)

/-- ITS FALSE NEIGHBOUR: 'it returns false'. Refute it at one input. -/
def valuesNamesWrong : ChangeSpec := { name := "valuesNames", fn := fun _ => fun
  | [] => { results := [.lit (.bool false)], args := [] }
  | _ => none }
def ValuesNamesWrongFalsely : Prop := valuesNamesRow.holds Try.pinned (OpenSpec.ofChange valuesNamesWrong)

/-- 'spiritlevellaw04.ValuesNot': WHATEVER THE INPUT: true; the input reads as it did. -/
def valuesNotSpec : ChangeSpec := { name := "valuesNot", fn := fun _ => fun
  | [d1, d2, d3, d4] => { results := [.lit (.bool true)], args := [d1, d2, d3, d4] }
  | _ => none }
def valuesNotRow : OpenClaim := { program := "ytfppehhhgbkhcaa", sum := "0cf04d214830a9644ff3babe2c2cdc4cc81507f502d6ebfa0eac82444f91f895", func := "spiritlevel/spiritlevellaw04.ValuesNot", spec := "valuesNot", unfollowed := true, recurses := true, apart := false }
def ValuesNotSaid : Prop := valuesNotRow.holds Try.pinned (OpenSpec.ofChange valuesNotSpec)

/-- ITS FALSE NEIGHBOUR: 'it returns false'. Refute it at one input. -/
def valuesNotWrong : ChangeSpec := { name := "valuesNot", fn := fun _ => fun
  | [d1, d2, d3, d4] => { results := [.lit (.bool false)], args := [d1, d2, d3, d4] }
  | _ => none }
def ValuesNotWrongFalsely : Prop := valuesNotRow.holds Try.pinned (OpenSpec.ofChange valuesNotWrong)

/-- 'spiritlevellaw04.ValuesGates': WHATEVER THE INPUT: true; the input reads as it did. -/
def valuesGatesSpec : ChangeSpec := { name := "valuesGates", fn := fun _ => fun
  | [d1, d2, d3] => { results := [.lit (.bool true)], args := [d1, d2, d3] }
  | _ => none }
def valuesGatesRow : OpenClaim := { program := "ytfppehhhgbkhcaa", sum := "0cf04d214830a9644ff3babe2c2cdc4cc81507f502d6ebfa0eac82444f91f895", func := "spiritlevel/spiritlevellaw04.ValuesGates", spec := "valuesGates", unfollowed := true, recurses := true, apart := false }
def ValuesGatesSaid : Prop := valuesGatesRow.holds Try.pinned (OpenSpec.ofChange valuesGatesSpec)

/-- ITS FALSE NEIGHBOUR: 'it returns false'. Refute it at one input. -/
def valuesGatesWrong : ChangeSpec := { name := "valuesGates", fn := fun _ => fun
  | [d1, d2, d3] => { results := [.lit (.bool false)], args := [d1, d2, d3] }
  | _ => none }
def ValuesGatesWrongFalsely : Prop := valuesGatesRow.holds Try.pinned (OpenSpec.ofChange valuesGatesWrong)

/-- 'spiritlevellaw04.ValuesCone': WHATEVER THE INPUT: true; the input reads as it did. -/
def valuesConeSpec : ChangeSpec := { name := "valuesCone", fn := fun _ => fun
  | [d1, d2, d3, d4, d5] => { results := [.lit (.bool true)], args := [d1, d2, d3, d4, d5] }
  | _ => none }
def valuesConeRow : OpenClaim := { program := "ytfppehhhgbkhcaa", sum := "0cf04d214830a9644ff3babe2c2cdc4cc81507f502d6ebfa0eac82444f91f895", func := "spiritlevel/spiritlevellaw04.ValuesCone", spec := "valuesCone", unfollowed := true, recurses := true, apart := false }
def ValuesConeSaid : Prop := valuesConeRow.holds Try.pinned (OpenSpec.ofChange valuesConeSpec)

/-- ITS FALSE NEIGHBOUR: 'it returns false'. Refute it at one input. -/
def valuesConeWrong : ChangeSpec := { name := "valuesCone", fn := fun _ => fun
  | [d1, d2, d3, d4, d5] => { results := [.lit (.bool false)], args := [d1, d2, d3, d4, d5] }
  | _ => none }
def ValuesConeWrongFalsely : Prop := valuesConeRow.holds Try.pinned (OpenSpec.ofChange valuesConeWrong)

/- THE SECOND FORM. 'bulk': how many values and letters a reading holds, each counted each time it is reached (what is shared counts as often as it is met; a slice's spare places count too). A statement '..UptoSaid' is the law's where the arguments, and the package variables that the reading takes, are together of bulk at most 1048576: NARROWER than '..Said'. Prove '..Said' where nothing that the law and all that it calls make is longer than what came in: it says more and counts as full. Else prove '..UptoSaid'. A law counts once. -/
mutual
def uptoBulk {H : Type} : DataW H → Nat
  | .lit (.string bytes) => bytes.length + 1
  | .lit _ => 1
  | .nil => 1
  | .ptr d => uptoBulk d + 1
  | .slice elems spare => uptoBulkAll elems + uptoBulkAll spare + 1
  | .agg parts => uptoBulkAll parts + 1
  | .iface _ d => uptoBulk d + 1
  | .map entries => uptoBulkEntries entries + 1
  | .held _ => 1
def uptoBulkAll {H : Type} : List (DataW H) → Nat
  | [] => 0
  | d :: r => uptoBulk d + uptoBulkAll r
def uptoBulkEntries {H : Type} : List (Lit × DataW H) → Nat
  | [] => 0
  | x :: r => uptoBulkEntry x + uptoBulkEntries r
def uptoBulkEntry {H : Type} : Lit × DataW H → Nat
  | (.string bytes, d) => bytes.length + uptoBulk d + 1
  | (_, d) => uptoBulk d + 1
 end
def uptoSmall : (H : Type) → List (DataW H) → Bool := fun _ ds => decide (uptoBulkAll ds ≤ 1048576)
def OpenSpec.upto (s : _root_.Go.ChangeSpec) : _root_.Go.OpenSpec := { _root_.Go.OpenSpec.ofChange s with cond := some uptoSmall }

/-- 'spiritlevellaw04.ValuesMore', WHERE WHAT IT READS IS OF BULK AT MOST 1048576: true; the input reads as it did. -/
def valuesMoreUptoRow : OpenClaim := { program := "ytfppehhhgbkhcaa", sum := "0cf04d214830a9644ff3babe2c2cdc4cc81507f502d6ebfa0eac82444f91f895", func := "spiritlevel/spiritlevellaw04.ValuesMore", spec := "valuesMore", unfollowed := true, recurses := true, apart := false, narrowed := true }
def ValuesMoreUptoSaid : Prop := valuesMoreUptoRow.holds Try.pinned (OpenSpec.upto valuesMoreSpec)

/-- 'spiritlevellaw04.ValuesFrames', WHERE WHAT IT READS IS OF BULK AT MOST 1048576: true; the input reads as it did. -/
def valuesFramesUptoRow : OpenClaim := { program := "ytfppehhhgbkhcaa", sum := "0cf04d214830a9644ff3babe2c2cdc4cc81507f502d6ebfa0eac82444f91f895", func := "spiritlevel/spiritlevellaw04.ValuesFrames", spec := "valuesFrames", unfollowed := true, recurses := true, apart := false, narrowed := true }
def ValuesFramesUptoSaid : Prop := valuesFramesUptoRow.holds Try.pinned (OpenSpec.upto valuesFramesSpec)

/-- 'spiritlevellaw04.ValuesNames', WHERE WHAT IT READS IS OF BULK AT MOST 1048576: true; the input reads as it did. -/
def valuesNamesUptoRow : OpenClaim := { program := "ytfppehhhgbkhcaa", sum := "0cf04d214830a9644ff3babe2c2cdc4cc81507f502d6ebfa0eac82444f91f895", func := "spiritlevel/spiritlevellaw04.ValuesNames", spec := "valuesNames", unfollowed := true, recurses := true, apart := false, narrowed := true }
def ValuesNamesUptoSaid : Prop := valuesNamesUptoRow.holds Try.pinned (OpenSpec.upto valuesNamesSpec)

/-- 'spiritlevellaw04.ValuesNot', WHERE WHAT IT READS IS OF BULK AT MOST 1048576: true; the input reads as it did. -/
def valuesNotUptoRow : OpenClaim := { program := "ytfppehhhgbkhcaa", sum := "0cf04d214830a9644ff3babe2c2cdc4cc81507f502d6ebfa0eac82444f91f895", func := "spiritlevel/spiritlevellaw04.ValuesNot", spec := "valuesNot", unfollowed := true, recurses := true, apart := false, narrowed := true }
def ValuesNotUptoSaid : Prop := valuesNotUptoRow.holds Try.pinned (OpenSpec.upto valuesNotSpec)

/-- 'spiritlevellaw04.ValuesGates', WHERE WHAT IT READS IS OF BULK AT MOST 1048576: true; the input reads as it did. -/
def valuesGatesUptoRow : OpenClaim := { program := "ytfppehhhgbkhcaa", sum := "0cf04d214830a9644ff3babe2c2cdc4cc81507f502d6ebfa0eac82444f91f895", func := "spiritlevel/spiritlevellaw04.ValuesGates", spec := "valuesGates", unfollowed := true, recurses := true, apart := false, narrowed := true }
def ValuesGatesUptoSaid : Prop := valuesGatesUptoRow.holds Try.pinned (OpenSpec.upto valuesGatesSpec)

/-- 'spiritlevellaw04.ValuesCone', WHERE WHAT IT READS IS OF BULK AT MOST 1048576: true; the input reads as it did. -/
def valuesConeUptoRow : OpenClaim := { program := "ytfppehhhgbkhcaa", sum := "0cf04d214830a9644ff3babe2c2cdc4cc81507f502d6ebfa0eac82444f91f895", func := "spiritlevel/spiritlevellaw04.ValuesCone", spec := "valuesCone", unfollowed := true, recurses := true, apart := false, narrowed := true }
def ValuesConeUptoSaid : Prop := valuesConeUptoRow.holds Try.pinned (OpenSpec.upto valuesConeSpec)

end Rows
end Go.Proofs.Ytfppehhhgbkhcaa
