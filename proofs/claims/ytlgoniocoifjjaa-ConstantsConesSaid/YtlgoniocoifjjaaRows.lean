/-
  No cell of these rows narrows 'for every input' (looked for: loops, veiled, ifaces, maps, wideKeys, modest, calm, conditions, laid).
  DERIVED. THE GIVEN ROWS OF THIS SEAT. 5 by the template 'for every input the law returns true; each argument reads behind the call as it read before'; 0 by the template 'total and deterministic' (their statements: YtlgoniocoifjjaaTotals.lean).
  GIVEN WITH THE SEED: the statements are not yours to turn. If you find one false, say at which input.
  Laid BY PROGRAM, IN A SANDBOX (cutbox-rows.mjs): the forced cells as the released guide's own fill.sh prints them over the translation 0b429eaa3ac2d219… (all of the seat's roots in one cut). By AI agents, Wed Nov 11 2026. No macro, syntax, notation, axiom, sorry.
-/
import Derived.Test.YtlgoniocoifjjaaChecked
import GoSem.Claim
import GoSem.ClaimJoined
import GoSem.ClaimMapViews
import Derived.JoinedTies
import Derived.KernelRfl
namespace Go.Proofs.Ytlgoniocoifjjaa
/- THE CELL 'sum', in the pinned program and in every row, IS THE sha256 OF THE DUMP (.gsa) THAT YtlgoniocoifjjaaProg.lean LOADS. Nothing in Lean hashes anything: it is a label: what it is worth is what the hold of that sum in a sandbox is worth. -/
noncomputable def Try.pinned : Pinned := { name := "ytlgoniocoifjjaa", sum := "0b429eaa3ac2d21968587580ffe06c34c4e51519ea9d60d31807bc534fe95bc1", checked := Try.checked }
namespace Rows
def none {H : Type} : Left H := { results := [], args := [] }

/-- 'spiritlevellaw27.ConstantsCones': WHATEVER THE INPUT: true; the input reads as it did. -/
def constantsConesSpec : ChangeSpec := { name := "constantsCones", fn := fun _ => fun
  | [d] => { results := [.lit (.bool true)], args := [d] }
  | _ => none }
def constantsConesRow : OpenClaim := { program := "ytlgoniocoifjjaa", sum := "0b429eaa3ac2d21968587580ffe06c34c4e51519ea9d60d31807bc534fe95bc1", func := "spiritlevel/spiritlevellaw27.ConstantsCones", spec := "constantsCones", unfollowed := true, recurses := true, plainKeys := false, apart := false }
def ConstantsConesSaid : Prop := constantsConesRow.holds Try.pinned (OpenSpec.ofChange constantsConesSpec)

/-- ITS FALSE NEIGHBOUR: 'it returns false'. Refute it at one input. -/
def constantsConesWrong : ChangeSpec := { name := "constantsCones", fn := fun _ => fun
  | [d] => { results := [.lit (.bool false)], args := [d] }
  | _ => none }
def ConstantsConesWrongFalsely : Prop := constantsConesRow.holds Try.pinned (OpenSpec.ofChange constantsConesWrong)

/-- 'spiritlevellaw27.ConstantsPasses': WHATEVER THE INPUT: true; the input reads as it did. -/
def constantsPassesSpec : ChangeSpec := { name := "constantsPasses", fn := fun _ => fun
  | [d] => { results := [.lit (.bool true)], args := [d] }
  | _ => none }
def constantsPassesRow : OpenClaim := { program := "ytlgoniocoifjjaa", sum := "0b429eaa3ac2d21968587580ffe06c34c4e51519ea9d60d31807bc534fe95bc1", func := "spiritlevel/spiritlevellaw27.ConstantsPasses", spec := "constantsPasses", unfollowed := true, recurses := true, plainKeys := false, apart := false }
def ConstantsPassesSaid : Prop := constantsPassesRow.holds Try.pinned (OpenSpec.ofChange constantsPassesSpec)

/-- ITS FALSE NEIGHBOUR: 'it returns false'. Refute it at one input. -/
def constantsPassesWrong : ChangeSpec := { name := "constantsPasses", fn := fun _ => fun
  | [d] => { results := [.lit (.bool false)], args := [d] }
  | _ => none }
def ConstantsPassesWrongFalsely : Prop := constantsPassesRow.holds Try.pinned (OpenSpec.ofChange constantsPassesWrong)

/-- 'spiritlevellaw27.ConstantsNames': WHATEVER THE INPUT: true; the input reads as it did. -/
def constantsNamesSpec : ChangeSpec := { name := "constantsNames", fn := fun _ => fun
  | [] => { results := [.lit (.bool true)], args := [] }
  | _ => none }
def constantsNamesRow : OpenClaim := { program := "ytlgoniocoifjjaa", sum := "0b429eaa3ac2d21968587580ffe06c34c4e51519ea9d60d31807bc534fe95bc1", func := "spiritlevel/spiritlevellaw27.ConstantsNames", spec := "constantsNames", unfollowed := true, recurses := true, plainKeys := false, apart := false }
def ConstantsNamesSaid : Prop := constantsNamesRow.holds Try.pinned (OpenSpec.ofChange constantsNamesSpec)

/-- ITS FALSE NEIGHBOUR: 'it returns false'. Refute it at one input. -/
def constantsNamesWrong : ChangeSpec := { name := "constantsNames", fn := fun _ => fun
  | [] => { results := [.lit (.bool false)], args := [] }
  | _ => none }
def ConstantsNamesWrongFalsely : Prop := constantsNamesRow.holds Try.pinned (OpenSpec.ofChange constantsNamesWrong)

/-- 'spiritlevellaw27.ConstantsGreatest': WHATEVER THE INPUT: true; the input reads as it did. -/
def constantsGreatestSpec : ChangeSpec := { name := "constantsGreatest", fn := fun _ => fun
  | [d1, d2] => { results := [.lit (.bool true)], args := [d1, d2] }
  | _ => none }
def constantsGreatestRow : OpenClaim := { program := "ytlgoniocoifjjaa", sum := "0b429eaa3ac2d21968587580ffe06c34c4e51519ea9d60d31807bc534fe95bc1", func := "spiritlevel/spiritlevellaw27.ConstantsGreatest", spec := "constantsGreatest", unfollowed := true, recurses := true, plainKeys := false, apart := false }
def ConstantsGreatestSaid : Prop := constantsGreatestRow.holds Try.pinned (OpenSpec.ofChange constantsGreatestSpec)

/-- ITS FALSE NEIGHBOUR: 'it returns false'. Refute it at one input. -/
def constantsGreatestWrong : ChangeSpec := { name := "constantsGreatest", fn := fun _ => fun
  | [d1, d2] => { results := [.lit (.bool false)], args := [d1, d2] }
  | _ => none }
def ConstantsGreatestWrongFalsely : Prop := constantsGreatestRow.holds Try.pinned (OpenSpec.ofChange constantsGreatestWrong)

/-- 'spiritlevellaw27.ConstantsValues': WHATEVER THE INPUT: true; the input reads as it did. -/
def constantsValuesSpec : ChangeSpec := { name := "constantsValues", fn := fun _ => fun
  | [d1, d2, d3] => { results := [.lit (.bool true)], args := [d1, d2, d3] }
  | _ => none }
def constantsValuesRow : OpenClaim := { program := "ytlgoniocoifjjaa", sum := "0b429eaa3ac2d21968587580ffe06c34c4e51519ea9d60d31807bc534fe95bc1", func := "spiritlevel/spiritlevellaw27.ConstantsValues", spec := "constantsValues", unfollowed := true, recurses := true, plainKeys := false, apart := false }
def ConstantsValuesSaid : Prop := constantsValuesRow.holds Try.pinned (OpenSpec.ofChange constantsValuesSpec)

/-- ITS FALSE NEIGHBOUR: 'it returns false'. Refute it at one input. -/
def constantsValuesWrong : ChangeSpec := { name := "constantsValues", fn := fun _ => fun
  | [d1, d2, d3] => { results := [.lit (.bool false)], args := [d1, d2, d3] }
  | _ => none }
def ConstantsValuesWrongFalsely : Prop := constantsValuesRow.holds Try.pinned (OpenSpec.ofChange constantsValuesWrong)

/- THE SECOND FORM. 'bulk': how many values and letters a reading holds, each counted each time it is reached (what is shared counts as often as it is met; a slice's spare places count too). A statement '..UptoSaid' is the law's where the arguments, and the package variables that the reading takes, are together of bulk at most 1048576: NARROWER than '..Said'. Prove '..Said' where nothing that the law and all that it calls make is longer than what came in: it says more and counts as full. Else prove '..UptoSaid'. A law counts once. -/
mutual
def uptoBulk {H : Type} : DataW H → Nat
  | .lit (.string bytes) => bytes.length + 1
  | .lit _ => 1
  | .nil => 1
  | .ptr d => uptoBulk d + 1
  | .slice elems spare => uptoBulkAll elems + uptoBulkAll spare + 1
  | .agg parts => uptoBulkAll parts + 1
  | .iface _ d => uptoBulk d + 1
  | .map entries => uptoBulkEntries entries + 1
  | .held _ => 1
def uptoBulkAll {H : Type} : List (DataW H) → Nat
  | [] => 0
  | d :: r => uptoBulk d + uptoBulkAll r
def uptoBulkEntries {H : Type} : List (Lit × DataW H) → Nat
  | [] => 0
  | x :: r => uptoBulkEntry x + uptoBulkEntries r
def uptoBulkEntry {H : Type} : Lit × DataW H → Nat
  | (.string bytes, d) => bytes.length + uptoBulk d + 1
  | (_, d) => uptoBulk d + 1
 end
def uptoSmall : (H : Type) → List (DataW H) → Bool := fun _ ds => decide (uptoBulkAll ds ≤ 1048576)
def OpenSpec.upto (s : _root_.Go.ChangeSpec) : _root_.Go.OpenSpec := { _root_.Go.OpenSpec.ofChange s with cond := some uptoSmall }

/-- 'spiritlevellaw27.ConstantsCones', WHERE WHAT IT READS IS OF BULK AT MOST 1048576: true; the input reads as it did. -/
def constantsConesUptoRow : OpenClaim := { program := "ytlgoniocoifjjaa", sum := "0b429eaa3ac2d21968587580ffe06c34c4e51519ea9d60d31807bc534fe95bc1", func := "spiritlevel/spiritlevellaw27.ConstantsCones", spec := "constantsCones", unfollowed := true, recurses := true, plainKeys := false, apart := false, narrowed := true }
def ConstantsConesUptoSaid : Prop := constantsConesUptoRow.holds Try.pinned (OpenSpec.upto constantsConesSpec)

/-- 'spiritlevellaw27.ConstantsPasses', WHERE WHAT IT READS IS OF BULK AT MOST 1048576: true; the input reads as it did. -/
def constantsPassesUptoRow : OpenClaim := { program := "ytlgoniocoifjjaa", sum := "0b429eaa3ac2d21968587580ffe06c34c4e51519ea9d60d31807bc534fe95bc1", func := "spiritlevel/spiritlevellaw27.ConstantsPasses", spec := "constantsPasses", unfollowed := true, recurses := true, plainKeys := false, apart := false, narrowed := true }
def ConstantsPassesUptoSaid : Prop := constantsPassesUptoRow.holds Try.pinned (OpenSpec.upto constantsPassesSpec)

/-- 'spiritlevellaw27.ConstantsNames', WHERE WHAT IT READS IS OF BULK AT MOST 1048576: true; the input reads as it did. -/
def constantsNamesUptoRow : OpenClaim := { program := "ytlgoniocoifjjaa", sum := "0b429eaa3ac2d21968587580ffe06c34c4e51519ea9d60d31807bc534fe95bc1", func := "spiritlevel/spiritlevellaw27.ConstantsNames", spec := "constantsNames", unfollowed := true, recurses := true, plainKeys := false, apart := false, narrowed := true }
def ConstantsNamesUptoSaid : Prop := constantsNamesUptoRow.holds Try.pinned (OpenSpec.upto constantsNamesSpec)

/-- 'spiritlevellaw27.ConstantsGreatest', WHERE WHAT IT READS IS OF BULK AT MOST 1048576: true; the input reads as it did. -/
def constantsGreatestUptoRow : OpenClaim := { program := "ytlgoniocoifjjaa", sum := "0b429eaa3ac2d21968587580ffe06c34c4e51519ea9d60d31807bc534fe95bc1", func := "spiritlevel/spiritlevellaw27.ConstantsGreatest", spec := "constantsGreatest", unfollowed := true, recurses := true, plainKeys := false, apart := false, narrowed := true }
def ConstantsGreatestUptoSaid : Prop := constantsGreatestUptoRow.holds Try.pinned (OpenSpec.upto constantsGreatestSpec)

/-- 'spiritlevellaw27.ConstantsValues', WHERE WHAT IT READS IS OF BULK AT MOST 1048576: true; the input reads as it did. -/
def constantsValuesUptoRow : OpenClaim := { program := "ytlgoniocoifjjaa", sum := "0b429eaa3ac2d21968587580ffe06c34c4e51519ea9d60d31807bc534fe95bc1", func := "spiritlevel/spiritlevellaw27.ConstantsValues", spec := "constantsValues", unfollowed := true, recurses := true, plainKeys := false, apart := false, narrowed := true }
def ConstantsValuesUptoSaid : Prop := constantsValuesUptoRow.holds Try.pinned (OpenSpec.upto constantsValuesSpec)

end Rows
end Go.Proofs.Ytlgoniocoifjjaa
