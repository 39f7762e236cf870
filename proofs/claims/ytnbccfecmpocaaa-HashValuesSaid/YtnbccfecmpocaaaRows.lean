/-
  No cell of these rows narrows 'for every input' (looked for: loops, veiled, ifaces, maps, wideKeys, modest, calm, conditions, laid).
  DERIVED. THE GIVEN ROWS OF THIS SEAT. 5 by the template 'for every input the law returns true; each argument reads behind the call as it read before'; 0 by the template 'total and deterministic' (their statements: YtnbccfecmpocaaaTotals.lean).
  GIVEN WITH THE SEED: the statements are not yours to turn. If you find one false, say at which input.
  Laid BY PROGRAM, IN A SANDBOX (cutbox-rows.mjs): the forced cells as the released guide's own fill.sh prints them over the translation 32be8220b12040ad… (all of the seat's roots in one cut). By AI agents, Wed Nov 11 2026. No macro, syntax, notation, axiom, sorry.
-/
import Derived.Test.YtnbccfecmpocaaaChecked
import GoSem.Claim
import GoSem.ClaimJoined
import GoSem.ClaimMapViews
import Derived.JoinedTies
import Derived.KernelRfl
namespace Go.Proofs.Ytnbccfecmpocaaa
/- THE CELL 'sum', in the pinned program and in every row, IS THE sha256 OF THE DUMP (.gsa) THAT YtnbccfecmpocaaaProg.lean LOADS. Nothing in Lean hashes anything: it is a label: what it is worth is what the hold of that sum in a sandbox is worth. -/
noncomputable def Try.pinned : Pinned := { name := "ytnbccfecmpocaaa", sum := "32be8220b12040ad2952bcba7794683cdf233544496ef03aeed3aecb9097b632", checked := Try.checked }
namespace Rows
def none {H : Type} : Left H := { results := [], args := [] }

/-- 'spiritlevellaw26.HashGates': WHATEVER THE INPUT: true; the input reads as it did. -/
def hashGatesSpec : ChangeSpec := { name := "hashGates", fn := fun _ => fun
  | [d1, d2, d3] => { results := [.lit (.bool true)], args := [d1, d2, d3] }
  | _ => none }
def hashGatesRow : OpenClaim := { program := "ytnbccfecmpocaaa", sum := "32be8220b12040ad2952bcba7794683cdf233544496ef03aeed3aecb9097b632", func := "spiritlevel/spiritlevellaw26.HashGates", spec := "hashGates", unfollowed := true, recurses := true, plainKeys := false, apart := false }
def HashGatesSaid : Prop := hashGatesRow.holds Try.pinned (OpenSpec.ofChange hashGatesSpec)

/-- ITS FALSE NEIGHBOUR: 'it returns false'. Refute it at one input. -/
def hashGatesWrong : ChangeSpec := { name := "hashGates", fn := fun _ => fun
  | [d1, d2, d3] => { results := [.lit (.bool false)], args := [d1, d2, d3] }
  | _ => none }
def HashGatesWrongFalsely : Prop := hashGatesRow.holds Try.pinned (OpenSpec.ofChange hashGatesWrong)

/-- 'spiritlevellaw26.HashGate': WHATEVER THE INPUT: true; the input reads as it did. -/
def hashGateSpec : ChangeSpec := { name := "hashGate", fn := fun _ => fun
  | [d1, d2, d3, d4, d5] => { results := [.lit (.bool true)], args := [d1, d2, d3, d4, d5] }
  | _ => none }
def hashGateRow : OpenClaim := { program := "ytnbccfecmpocaaa", sum := "32be8220b12040ad2952bcba7794683cdf233544496ef03aeed3aecb9097b632", func := "spiritlevel/spiritlevellaw26.HashGate", spec := "hashGate", unfollowed := true, recurses := true, plainKeys := false, apart := false }
def HashGateSaid : Prop := hashGateRow.holds Try.pinned (OpenSpec.ofChange hashGateSpec)

/-- ITS FALSE NEIGHBOUR: 'it returns false'. Refute it at one input. -/
def hashGateWrong : ChangeSpec := { name := "hashGate", fn := fun _ => fun
  | [d1, d2, d3, d4, d5] => { results := [.lit (.bool false)], args := [d1, d2, d3, d4, d5] }
  | _ => none }
def HashGateWrongFalsely : Prop := hashGateRow.holds Try.pinned (OpenSpec.ofChange hashGateWrong)

/-- 'spiritlevellaw26.HashBuilds': WHATEVER THE INPUT: true; the input reads as it did. -/
def hashBuildsSpec : ChangeSpec := { name := "hashBuilds", fn := fun _ => fun
  | [d1, d2] => { results := [.lit (.bool true)], args := [d1, d2] }
  | _ => none }
def hashBuildsRow : OpenClaim := { program := "ytnbccfecmpocaaa", sum := "32be8220b12040ad2952bcba7794683cdf233544496ef03aeed3aecb9097b632", func := "spiritlevel/spiritlevellaw26.HashBuilds", spec := "hashBuilds", unfollowed := true, recurses := true, plainKeys := false, apart := false }
def HashBuildsSaid : Prop := hashBuildsRow.holds Try.pinned (OpenSpec.ofChange hashBuildsSpec)

/-- ITS FALSE NEIGHBOUR: 'it returns false'. Refute it at one input. -/
def hashBuildsWrong : ChangeSpec := { name := "hashBuilds", fn := fun _ => fun
  | [d1, d2] => { results := [.lit (.bool false)], args := [d1, d2] }
  | _ => none }
def HashBuildsWrongFalsely : Prop := hashBuildsRow.holds Try.pinned (OpenSpec.ofChange hashBuildsWrong)

/-- 'spiritlevellaw26.HashFew': WHATEVER THE INPUT: true; the input reads as it did. -/
def hashFewSpec : ChangeSpec := { name := "hashFew", fn := fun _ => fun
  | [d1, d2] => { results := [.lit (.bool true)], args := [d1, d2] }
  | _ => none }
def hashFewRow : OpenClaim := { program := "ytnbccfecmpocaaa", sum := "32be8220b12040ad2952bcba7794683cdf233544496ef03aeed3aecb9097b632", func := "spiritlevel/spiritlevellaw26.HashFew", spec := "hashFew", unfollowed := true, recurses := true, plainKeys := false, apart := false }
def HashFewSaid : Prop := hashFewRow.holds Try.pinned (OpenSpec.ofChange hashFewSpec)

/-- ITS FALSE NEIGHBOUR: 'it returns false'. Refute it at one input. -/
def hashFewWrong : ChangeSpec := { name := "hashFew", fn := fun _ => fun
  | [d1, d2] => { results := [.lit (.bool false)], args := [d1, d2] }
  | _ => none }
def HashFewWrongFalsely : Prop := hashFewRow.holds Try.pinned (OpenSpec.ofChange hashFewWrong)

/-- 'spiritlevellaw26.HashValues': WHATEVER THE INPUT: true; the input reads as it did. -/
def hashValuesSpec : ChangeSpec := { name := "hashValues", fn := fun _ => fun
  | [d1, d2, d3, d4] => { results := [.lit (.bool true)], args := [d1, d2, d3, d4] }
  | _ => none }
def hashValuesRow : OpenClaim := { program := "ytnbccfecmpocaaa", sum := "32be8220b12040ad2952bcba7794683cdf233544496ef03aeed3aecb9097b632", func := "spiritlevel/spiritlevellaw26.HashValues", spec := "hashValues", unfollowed := true, recurses := true, plainKeys := false, apart := false }
def HashValuesSaid : Prop := hashValuesRow.holds Try.pinned (OpenSpec.ofChange hashValuesSpec)

/-- ITS FALSE NEIGHBOUR: 'it returns false'. Refute it at one input. -/
def hashValuesWrong : ChangeSpec := { name := "hashValues", fn := fun _ => fun
  | [d1, d2, d3, d4] => { results := [.lit (.bool false)], args := [d1, d2, d3, d4] }
  | _ => none }
def HashValuesWrongFalsely : Prop := hashValuesRow.holds Try.pinned (OpenSpec.ofChange hashValuesWrong)

/- THE SECOND FORM. 'bulk': how many values and letters a reading holds, each counted each time it is reached (what is shared counts as often as it is met; a slice's spare places count too). A statement '..UptoSaid' is the law's where the arguments, and the package variables that the reading takes, are together of bulk at most 1048576: NARROWER than '..Said'. Prove '..Said' where nothing that the law and all that it calls make is longer than what came in: it says more and counts as full. Else prove '..UptoSaid'. A law counts once. -/
mutual
def uptoBulk {H : Type} : DataW H → Nat
  | .lit (.string bytes) => bytes.length + 1
  | .lit _ => 1
  | .nil => 1
  | .ptr d => uptoBulk d + 1
  | .slice elems spare => uptoBulkAll elems + uptoBulkAll spare + 1
  | .agg parts => uptoBulkAll parts + 1
  | .iface _ d => uptoBulk d + 1
  | .map entries => uptoBulkEntries entries + 1
  | .held _ => 1
def uptoBulkAll {H : Type} : List (DataW H) → Nat
  | [] => 0
  | d :: r => uptoBulk d + uptoBulkAll r
def uptoBulkEntries {H : Type} : List (Lit × DataW H) → Nat
  | [] => 0
  | x :: r => uptoBulkEntry x + uptoBulkEntries r
def uptoBulkEntry {H : Type} : Lit × DataW H → Nat
  | (.string bytes, d) => bytes.length + uptoBulk d + 1
  | (_, d) => uptoBulk d + 1
 end
def uptoSmall : (H : Type) → List (DataW H) → Bool := fun _ ds => decide (uptoBulkAll ds ≤ 1048576)
def OpenSpec.upto (s : _root_.Go.ChangeSpec) : _root_.Go.OpenSpec := { _root_.Go.OpenSpec.ofChange s with cond := some uptoSmall }

/-- 'spiritlevellaw26.HashGates', WHERE WHAT IT READS IS OF BULK AT MOST 1048576: true; the input reads as it did. -/
def hashGatesUptoRow : OpenClaim := { program := "ytnbccfecmpocaaa", sum := "32be8220b12040ad2952bcba7794683cdf233544496ef03aeed3aecb9097b632", func := "spiritlevel/spiritlevellaw26.HashGates", spec := "hashGates", unfollowed := true, recurses := true, plainKeys := false, apart := false, narrowed := true }
def HashGatesUptoSaid : Prop := hashGatesUptoRow.holds Try.pinned (OpenSpec.upto hashGatesSpec)

/-- 'spiritlevellaw26.HashGate', WHERE WHAT IT READS IS OF BULK AT MOST 1048576: true; the input reads as it did. -/
def hashGateUptoRow : OpenClaim := { program := "ytnbccfecmpocaaa", sum := "32be8220b12040ad2952bcba7794683cdf233544496ef03aeed3aecb9097b632", func := "spiritlevel/spiritlevellaw26.HashGate", spec := "hashGate", unfollowed := true, recurses := true, plainKeys := false, apart := false, narrowed := true }
def HashGateUptoSaid : Prop := hashGateUptoRow.holds Try.pinned (OpenSpec.upto hashGateSpec)

/-- 'spiritlevellaw26.HashBuilds', WHERE WHAT IT READS IS OF BULK AT MOST 1048576: true; the input reads as it did. -/
def hashBuildsUptoRow : OpenClaim := { program := "ytnbccfecmpocaaa", sum := "32be8220b12040ad2952bcba7794683cdf233544496ef03aeed3aecb9097b632", func := "spiritlevel/spiritlevellaw26.HashBuilds", spec := "hashBuilds", unfollowed := true, recurses := true, plainKeys := false, apart := false, narrowed := true }
def HashBuildsUptoSaid : Prop := hashBuildsUptoRow.holds Try.pinned (OpenSpec.upto hashBuildsSpec)

/-- 'spiritlevellaw26.HashFew', WHERE WHAT IT READS IS OF BULK AT MOST 1048576: true; the input reads as it did. -/
def hashFewUptoRow : OpenClaim := { program := "ytnbccfecmpocaaa", sum := "32be8220b12040ad2952bcba7794683cdf233544496ef03aeed3aecb9097b632", func := "spiritlevel/spiritlevellaw26.HashFew", spec := "hashFew", unfollowed := true, recurses := true, plainKeys := false, apart := false, narrowed := true }
def HashFewUptoSaid : Prop := hashFewUptoRow.holds Try.pinned (OpenSpec.upto hashFewSpec)

/-- 'spiritlevellaw26.HashValues', WHERE WHAT IT READS IS OF BULK AT MOST 1048576: true; the input reads as it did. -/
def hashValuesUptoRow : OpenClaim := { program := "ytnbccfecmpocaaa", sum := "32be8220b12040ad2952bcba7794683cdf233544496ef03aeed3aecb9097b632", func := "spiritlevel/spiritlevellaw26.HashValues", spec := "hashValues", unfollowed := true, recurses := true, plainKeys := false, apart := false, narrowed := true }
def HashValuesUptoSaid : Prop := hashValuesUptoRow.holds Try.pinned (OpenSpec.upto hashValuesSpec)

end Rows
end Go.Proofs.Ytnbccfecmpocaaa
