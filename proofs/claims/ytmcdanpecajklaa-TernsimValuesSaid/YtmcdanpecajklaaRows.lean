/-
  No cell of these rows narrows 'for every input' (looked for: loops, veiled, ifaces, maps, wideKeys, modest, calm, conditions, laid).
  DERIVED. THE GIVEN ROWS OF THIS SEAT. 6 by the template 'for every input the law returns true; each argument reads behind the call as it read before'; 0 by the template 'total and deterministic' (their statements: YtmcdanpecajklaaTotals.lean).
  GIVEN WITH THE SEED: the statements are not yours to turn. If you find one false, say at which input.
  Laid BY PROGRAM, IN A SANDBOX (cutbox-rows.mjs): the forced cells as the released guide's own fill.sh prints them over the translation 9f7554a55419e1a0… (all of the seat's roots in one cut). By AI agents, Wed Nov 11 2026. No macro, syntax, notation, axiom, sorry.
-/
import Derived.Test.YtmcdanpecajklaaChecked
import GoSem.Claim
import GoSem.ClaimJoined
import GoSem.ClaimMapViews
import Derived.JoinedTies
import Derived.KernelRfl
namespace Go.Proofs.Ytmcdanpecajklaa
/- THE CELL 'sum', in the pinned program and in every row, IS THE sha256 OF THE DUMP (.gsa) THAT YtmcdanpecajklaaProg.lean LOADS. Nothing in Lean hashes anything: it is a label: what it is worth is what the hold of that sum in a sandbox is worth. -/
noncomputable def Try.pinned : Pinned := { name := "ytmcdanpecajklaa", sum := "9f7554a55419e1a0a3fba158e62b9b7a65c828c9b990f31456474191b94e9906", checked := Try.checked }
namespace Rows
def none {H : Type} : Left H := { results := [], args := [] }

/-- 'spiritlevellaw30.TernsimCovers': WHATEVER THE INPUT: true; the input reads as it did. -/
def ternsimCoversSpec : ChangeSpec := { name := "ternsimCovers", fn := fun _ => fun
  | [d1, d2, d3] => { results := [.lit (.bool true)], args := [d1, d2, d3] }
  | _ => none }
def ternsimCoversRow : OpenClaim := { program := "ytmcdanpecajklaa", sum := "9f7554a55419e1a0a3fba158e62b9b7a65c828c9b990f31456474191b94e9906", func := "spiritlevel/spiritlevellaw30.TernsimCovers", spec := "ternsimCovers", unfollowed := true, recurses := true, plainKeys := false, apart := false }
def TernsimCoversSaid : Prop := ternsimCoversRow.holds Try.pinned (OpenSpec.ofChange ternsimCoversSpec)

/-- ITS FALSE NEIGHBOUR: 'it returns false'. Refute it at one input. -/
def ternsimCoversWrong : ChangeSpec := { name := "ternsimCovers", fn := fun _ => fun
  | [d1, d2, d3] => { results := [.lit (.bool false)], args := [d1, d2, d3] }
  | _ => none }
def TernsimCoversWrongFalsely : Prop := ternsimCoversRow.holds Try.pinned (OpenSpec.ofChange ternsimCoversWrong)

/-- 'spiritlevellaw30.TernsimStates': WHATEVER THE INPUT: true; the input reads as it did. -/
def ternsimStatesSpec : ChangeSpec := { name := "ternsimStates", fn := fun _ => fun
  | [d] => { results := [.lit (.bool true)], args := [d] }
  | _ => none }
def ternsimStatesRow : OpenClaim := { program := "ytmcdanpecajklaa", sum := "9f7554a55419e1a0a3fba158e62b9b7a65c828c9b990f31456474191b94e9906", func := "spiritlevel/spiritlevellaw30.TernsimStates", spec := "ternsimStates", unfollowed := true, recurses := true, plainKeys := false, apart := false }
def TernsimStatesSaid : Prop := ternsimStatesRow.holds Try.pinned (OpenSpec.ofChange ternsimStatesSpec)

/-- ITS FALSE NEIGHBOUR: 'it returns false'. Refute it at one input. -/
def ternsimStatesWrong : ChangeSpec := { name := "ternsimStates", fn := fun _ => fun
  | [d] => { results := [.lit (.bool false)], args := [d] }
  | _ => none }
def TernsimStatesWrongFalsely : Prop := ternsimStatesRow.holds Try.pinned (OpenSpec.ofChange ternsimStatesWrong)

/-- 'spiritlevellaw30.TernsimPasses': WHATEVER THE INPUT: true; the input reads as it did. -/
def ternsimPassesSpec : ChangeSpec := { name := "ternsimPasses", fn := fun _ => fun
  | [d] => { results := [.lit (.bool true)], args := [d] }
  | _ => none }
def ternsimPassesRow : OpenClaim := { program := "ytmcdanpecajklaa", sum := "9f7554a55419e1a0a3fba158e62b9b7a65c828c9b990f31456474191b94e9906", func := "spiritlevel/spiritlevellaw30.TernsimPasses", spec := "ternsimPasses", unfollowed := true, recurses := true, plainKeys := false, apart := false }
def TernsimPassesSaid : Prop := ternsimPassesRow.holds Try.pinned (OpenSpec.ofChange ternsimPassesSpec)

/-- ITS FALSE NEIGHBOUR: 'it returns false'. Refute it at one input. -/
def ternsimPassesWrong : ChangeSpec := { name := "ternsimPasses", fn := fun _ => fun
  | [d] => { results := [.lit (.bool false)], args := [d] }
  | _ => none }
def TernsimPassesWrongFalsely : Prop := ternsimPassesRow.holds Try.pinned (OpenSpec.ofChange ternsimPassesWrong)

/-- 'spiritlevellaw30.TernsimNames': WHATEVER THE INPUT: true; the input reads as it did. -/
def ternsimNamesSpec : ChangeSpec := { name := "ternsimNames", fn := fun _ => fun
  | [] => { results := [.lit (.bool true)], args := [] }
  | _ => none }
def ternsimNamesRow : OpenClaim := { program := "ytmcdanpecajklaa", sum := "9f7554a55419e1a0a3fba158e62b9b7a65c828c9b990f31456474191b94e9906", func := "spiritlevel/spiritlevellaw30.TernsimNames", spec := "ternsimNames", unfollowed := true, recurses := true, plainKeys := false, apart := false }
def TernsimNamesSaid : Prop := ternsimNamesRow.holds Try.pinned (OpenSpec.ofChange ternsimNamesSpec)

/-- ITS FALSE NEIGHBOUR: 'it returns false'. Refute it at one input. -/
def ternsimNamesWrong : ChangeSpec := { name := "ternsimNames", fn := fun _ => fun
  | [] => { results := [.lit (.bool false)], args := [] }
  | _ => none }
def TernsimNamesWrongFalsely : Prop := ternsimNamesRow.holds Try.pinned (OpenSpec.ofChange ternsimNamesWrong)

/-- 'spiritlevellaw30.TernsimOnce': WHATEVER THE INPUT: true; the input reads as it did. -/
def ternsimOnceSpec : ChangeSpec := { name := "ternsimOnce", fn := fun _ => fun
  | [d] => { results := [.lit (.bool true)], args := [d] }
  | _ => none }
def ternsimOnceRow : OpenClaim := { program := "ytmcdanpecajklaa", sum := "9f7554a55419e1a0a3fba158e62b9b7a65c828c9b990f31456474191b94e9906", func := "spiritlevel/spiritlevellaw30.TernsimOnce", spec := "ternsimOnce", unfollowed := true, recurses := true, plainKeys := false, apart := false }
def TernsimOnceSaid : Prop := ternsimOnceRow.holds Try.pinned (OpenSpec.ofChange ternsimOnceSpec)

/-- ITS FALSE NEIGHBOUR: 'it returns false'. Refute it at one input. -/
def ternsimOnceWrong : ChangeSpec := { name := "ternsimOnce", fn := fun _ => fun
  | [d] => { results := [.lit (.bool false)], args := [d] }
  | _ => none }
def TernsimOnceWrongFalsely : Prop := ternsimOnceRow.holds Try.pinned (OpenSpec.ofChange ternsimOnceWrong)

/-- 'spiritlevellaw30.TernsimValues': WHATEVER THE INPUT: true; the input reads as it did. -/
def ternsimValuesSpec : ChangeSpec := { name := "ternsimValues", fn := fun _ => fun
  | [d1, d2, d3] => { results := [.lit (.bool true)], args := [d1, d2, d3] }
  | _ => none }
def ternsimValuesRow : OpenClaim := { program := "ytmcdanpecajklaa", sum := "9f7554a55419e1a0a3fba158e62b9b7a65c828c9b990f31456474191b94e9906", func := "spiritlevel/spiritlevellaw30.TernsimValues", spec := "ternsimValues", unfollowed := true, recurses := true, plainKeys := false, apart := false }
def TernsimValuesSaid : Prop := ternsimValuesRow.holds Try.pinned (OpenSpec.ofChange ternsimValuesSpec)

/-- ITS FALSE NEIGHBOUR: 'it returns false'. Refute it at one input. -/
def ternsimValuesWrong : ChangeSpec := { name := "ternsimValues", fn := fun _ => fun
  | [d1, d2, d3] => { results := [.lit (.bool false)], args := [d1, d2, d3] }
  | _ => none }
def TernsimValuesWrongFalsely : Prop := ternsimValuesRow.holds Try.pinned (OpenSpec.ofChange ternsimValuesWrong)

/- THE SECOND FORM. 'bulk': how many values and letters a reading holds, each counted each time it is reached (what is shared counts as often as it is met; a slice's spare places count too). A statement '..UptoSaid' is the law's where the arguments, and the package variables that the reading takes, are together of bulk at most 1048576: NARROWER than '..Said'. Prove '..Said' where nothing that the law and all that it calls make is longer than what came in: it says more and counts as full. Else prove '..UptoSaid'. A law counts once. -/
mutual
def uptoBulk {H : Type} : DataW H → Nat
  | .lit (.string bytes) => bytes.length + 1
  | .lit _ => 1
  | .nil => 1
  | .ptr d => uptoBulk d + 1
  | .slice elems spare => uptoBulkAll elems + uptoBulkAll spare + 1
  | .agg parts => uptoBulkAll parts + 1
  | .iface _ d => uptoBulk d + 1
  | .map entries => uptoBulkEntries entries + 1
  | .held _ => 1
def uptoBulkAll {H : Type} : List (DataW H) → Nat
  | [] => 0
  | d :: r => uptoBulk d + uptoBulkAll r
def uptoBulkEntries {H : Type} : List (Lit × DataW H) → Nat
  | [] => 0
  | x :: r => uptoBulkEntry x + uptoBulkEntries r
def uptoBulkEntry {H : Type} : Lit × DataW H → Nat
  | (.string bytes, d) => bytes.length + uptoBulk d + 1
  | (_, d) => uptoBulk d + 1
 end
def uptoSmall : (H : Type) → List (DataW H) → Bool := fun _ ds => decide (uptoBulkAll ds ≤ 1048576)
def OpenSpec.upto (s : _root_.Go.ChangeSpec) : _root_.Go.OpenSpec := { _root_.Go.OpenSpec.ofChange s with cond := some uptoSmall }

/-- 'spiritlevellaw30.TernsimCovers', WHERE WHAT IT READS IS OF BULK AT MOST 1048576: true; the input reads as it did. -/
def ternsimCoversUptoRow : OpenClaim := { program := "ytmcdanpecajklaa", sum := "9f7554a55419e1a0a3fba158e62b9b7a65c828c9b990f31456474191b94e9906", func := "spiritlevel/spiritlevellaw30.TernsimCovers", spec := "ternsimCovers", unfollowed := true, recurses := true, plainKeys := false, apart := false, narrowed := true }
def TernsimCoversUptoSaid : Prop := ternsimCoversUptoRow.holds Try.pinned (OpenSpec.upto ternsimCoversSpec)

/-- 'spiritlevellaw30.TernsimStates', WHERE WHAT IT READS IS OF BULK AT MOST 1048576: true; the input reads as it did. -/
def ternsimStatesUptoRow : OpenClaim := { program := "ytmcdanpecajklaa", sum := "9f7554a55419e1a0a3fba158e62b9b7a65c828c9b990f31456474191b94e9906", func := "spiritlevel/spiritlevellaw30.TernsimStates", spec := "ternsimStates", unfollowed := true, recurses := true, plainKeys := false, apart := false, narrowed := true }
def TernsimStatesUptoSaid : Prop := ternsimStatesUptoRow.holds Try.pinned (OpenSpec.upto ternsimStatesSpec)

/-- 'spiritlevellaw30.TernsimPasses', WHERE WHAT IT READS IS OF BULK AT MOST 1048576: true; the input reads as it did. -/
def ternsimPassesUptoRow : OpenClaim := { program := "ytmcdanpecajklaa", sum := "9f7554a55419e1a0a3fba158e62b9b7a65c828c9b990f31456474191b94e9906", func := "spiritlevel/spiritlevellaw30.TernsimPasses", spec := "ternsimPasses", unfollowed := true, recurses := true, plainKeys := false, apart := false, narrowed := true }
def TernsimPassesUptoSaid : Prop := ternsimPassesUptoRow.holds Try.pinned (OpenSpec.upto ternsimPassesSpec)

/-- 'spiritlevellaw30.TernsimNames', WHERE WHAT IT READS IS OF BULK AT MOST 1048576: true; the input reads as it did. -/
def ternsimNamesUptoRow : OpenClaim := { program := "ytmcdanpecajklaa", sum := "9f7554a55419e1a0a3fba158e62b9b7a65c828c9b990f31456474191b94e9906", func := "spiritlevel/spiritlevellaw30.TernsimNames", spec := "ternsimNames", unfollowed := true, recurses := true, plainKeys := false, apart := false, narrowed := true }
def TernsimNamesUptoSaid : Prop := ternsimNamesUptoRow.holds Try.pinned (OpenSpec.upto ternsimNamesSpec)

/-- 'spiritlevellaw30.TernsimOnce', WHERE WHAT IT READS IS OF BULK AT MOST 1048576: true; the input reads as it did. -/
def ternsimOnceUptoRow : OpenClaim := { program := "ytmcdanpecajklaa", sum := "9f7554a55419e1a0a3fba158e62b9b7a65c828c9b990f31456474191b94e9906", func := "spiritlevel/spiritlevellaw30.TernsimOnce", spec := "ternsimOnce", unfollowed := true, recurses := true, plainKeys := false, apart := false, narrowed := true }
def TernsimOnceUptoSaid : Prop := ternsimOnceUptoRow.holds Try.pinned (OpenSpec.upto ternsimOnceSpec)

/-- 'spiritlevellaw30.TernsimValues', WHERE WHAT IT READS IS OF BULK AT MOST 1048576: true; the input reads as it did. -/
def ternsimValuesUptoRow : OpenClaim := { program := "ytmcdanpecajklaa", sum := "9f7554a55419e1a0a3fba158e62b9b7a65c828c9b990f31456474191b94e9906", func := "spiritlevel/spiritlevellaw30.TernsimValues", spec := "ternsimValues", unfollowed := true, recurses := true, plainKeys := false, apart := false, narrowed := true }
def TernsimValuesUptoSaid : Prop := ternsimValuesUptoRow.holds Try.pinned (OpenSpec.upto ternsimValuesSpec)

end Rows
end Go.Proofs.Ytmcdanpecajklaa
