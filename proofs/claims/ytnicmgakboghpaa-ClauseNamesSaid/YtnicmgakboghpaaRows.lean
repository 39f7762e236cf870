/-
  No cell of these rows narrows 'for every input' (looked for: loops, veiled, ifaces, maps, wideKeys, modest, calm, conditions, laid).
  DERIVED. THE GIVEN ROWS OF THIS SEAT. 7 by the template 'for every input the law returns true; each argument reads behind the call as it read before'; 0 by the template 'total and deterministic' (their statements: YtnicmgakboghpaaTotals.lean).
  GIVEN WITH THE SEED: the statements are not yours to turn. If you find one false, say at which input.
  Laid BY PROGRAM, IN A SANDBOX (cutbox-rows.mjs): the forced cells as the released guide's own fill.sh prints them over the translation 3a9238159867961a… (all of the seat's roots in one cut). By AI agents, Wed Nov 11 2026. No macro, syntax, notation, axiom, sorry.
-/
import Derived.Test.YtnicmgakboghpaaChecked
import GoSem.Claim
import GoSem.ClaimJoined
import GoSem.ClaimMapViews
import Derived.JoinedTies
import Derived.KernelRfl
namespace Go.Proofs.Ytnicmgakboghpaa
/- THE CELL 'sum', in the pinned program and in every row, IS THE sha256 OF THE DUMP (.gsa) THAT YtnicmgakboghpaaProg.lean LOADS. Nothing in Lean hashes anything: it is a label: what it is worth is what the hold of that sum in a sandbox is worth. -/
noncomputable def Try.pinned : Pinned := { name := "ytnicmgakboghpaa", sum := "3a9238159867961a07afb28335167ea4d681414d2089d9ca5cfe6e5af9243a3a", checked := Try.checked }
namespace Rows
def none {H : Type} : Left H := { results := [], args := [] }

/-- 'spiritlevellaw13.ClauseTells': WHATEVER THE INPUT: true; the input reads as it did. -/
def clauseTellsSpec : ChangeSpec := { name := "clauseTells", fn := fun _ => fun
  | [d1, d2, d3] => { results := [.lit (.bool true)], args := [d1, d2, d3] }
  | _ => none }
def clauseTellsRow : OpenClaim := { program := "ytnicmgakboghpaa", sum := "3a9238159867961a07afb28335167ea4d681414d2089d9ca5cfe6e5af9243a3a", func := "spiritlevel/spiritlevellaw13.ClauseTells", spec := "clauseTells", recurses := true, apart := false }
def ClauseTellsSaid : Prop := clauseTellsRow.holds Try.pinned (OpenSpec.ofChange clauseTellsSpec)

/-- ITS FALSE NEIGHBOUR: 'it returns false'. Refute it at one input. -/
def clauseTellsWrong : ChangeSpec := { name := "clauseTells", fn := fun _ => fun
  | [d1, d2, d3] => { results := [.lit (.bool false)], args := [d1, d2, d3] }
  | _ => none }
def ClauseTellsWrongFalsely : Prop := clauseTellsRow.holds Try.pinned (OpenSpec.ofChange clauseTellsWrong)

/-- 'spiritlevellaw13.ClauseFollows': WHATEVER THE INPUT: true; the input reads as it did. -/
def clauseFollowsSpec : ChangeSpec := { name := "clauseFollows", fn := fun _ => fun
  | [d1, d2, d3, d4] => { results := [.lit (.bool true)], args := [d1, d2, d3, d4] }
  | _ => none }
def clauseFollowsRow : OpenClaim := { program := "ytnicmgakboghpaa", sum := "3a9238159867961a07afb28335167ea4d681414d2089d9ca5cfe6e5af9243a3a", func := "spiritlevel/spiritlevellaw13.ClauseFollows", spec := "clauseFollows", unfollowed := true, recurses := true, apart := false }
def ClauseFollowsSaid : Prop := clauseFollowsRow.holds Try.pinned (OpenSpec.ofChange clauseFollowsSpec)

/-- ITS FALSE NEIGHBOUR: 'it returns false'. Refute it at one input. -/
def clauseFollowsWrong : ChangeSpec := { name := "clauseFollows", fn := fun _ => fun
  | [d1, d2, d3, d4] => { results := [.lit (.bool false)], args := [d1, d2, d3, d4] }
  | _ => none }
def ClauseFollowsWrongFalsely : Prop := clauseFollowsRow.holds Try.pinned (OpenSpec.ofChange clauseFollowsWrong)

/-- 'spiritlevellaw13.ClauseMakes': WHATEVER THE INPUT: true; the input reads as it did. -/
def clauseMakesSpec : ChangeSpec := { name := "clauseMakes", fn := fun _ => fun
  | [d1, d2, d3] => { results := [.lit (.bool true)], args := [d1, d2, d3] }
  | _ => none }
def clauseMakesRow : OpenClaim := { program := "ytnicmgakboghpaa", sum := "3a9238159867961a07afb28335167ea4d681414d2089d9ca5cfe6e5af9243a3a", func := "spiritlevel/spiritlevellaw13.ClauseMakes", spec := "clauseMakes", unfollowed := true, recurses := true, apart := false }
def ClauseMakesSaid : Prop := clauseMakesRow.holds Try.pinned (OpenSpec.ofChange clauseMakesSpec)

/-- ITS FALSE NEIGHBOUR: 'it returns false'. Refute it at one input. -/
def clauseMakesWrong : ChangeSpec := { name := "clauseMakes", fn := fun _ => fun
  | [d1, d2, d3] => { results := [.lit (.bool false)], args := [d1, d2, d3] }
  | _ => none }
def ClauseMakesWrongFalsely : Prop := clauseMakesRow.holds Try.pinned (OpenSpec.ofChange clauseMakesWrong)

/-- 'spiritlevellaw13.ClauseEmpty': WHATEVER THE INPUT: true; the input reads as it did. -/
def clauseEmptySpec : ChangeSpec := { name := "clauseEmpty", fn := fun _ => fun
  | [d1, d2] => { results := [.lit (.bool true)], args := [d1, d2] }
  | _ => none }
def clauseEmptyRow : OpenClaim := { program := "ytnicmgakboghpaa", sum := "3a9238159867961a07afb28335167ea4d681414d2089d9ca5cfe6e5af9243a3a", func := "spiritlevel/spiritlevellaw13.ClauseEmpty", spec := "clauseEmpty", unfollowed := true, recurses := true, apart := false }
def ClauseEmptySaid : Prop := clauseEmptyRow.holds Try.pinned (OpenSpec.ofChange clauseEmptySpec)

/-- ITS FALSE NEIGHBOUR: 'it returns false'. Refute it at one input. -/
def clauseEmptyWrong : ChangeSpec := { name := "clauseEmpty", fn := fun _ => fun
  | [d1, d2] => { results := [.lit (.bool false)], args := [d1, d2] }
  | _ => none }
def ClauseEmptyWrongFalsely : Prop := clauseEmptyRow.holds Try.pinned (OpenSpec.ofChange clauseEmptyWrong)

/-- 'spiritlevellaw13.ClauseResolves': WHATEVER THE INPUT: true; the input reads as it did. -/
def clauseResolvesSpec : ChangeSpec := { name := "clauseResolves", fn := fun _ => fun
  | [d1, d2, d3, d4] => { results := [.lit (.bool true)], args := [d1, d2, d3, d4] }
  | _ => none }
def clauseResolvesRow : OpenClaim := { program := "ytnicmgakboghpaa", sum := "3a9238159867961a07afb28335167ea4d681414d2089d9ca5cfe6e5af9243a3a", func := "spiritlevel/spiritlevellaw13.ClauseResolves", spec := "clauseResolves", unfollowed := true, recurses := true, apart := false }
def ClauseResolvesSaid : Prop := clauseResolvesRow.holds Try.pinned (OpenSpec.ofChange clauseResolvesSpec)

/-- ITS FALSE NEIGHBOUR: 'it returns false'. Refute it at one input. -/
def clauseResolvesWrong : ChangeSpec := { name := "clauseResolves", fn := fun _ => fun
  | [d1, d2, d3, d4] => { results := [.lit (.bool false)], args := [d1, d2, d3, d4] }
  | _ => none }
def ClauseResolvesWrongFalsely : Prop := clauseResolvesRow.holds Try.pinned (OpenSpec.ofChange clauseResolvesWrong)

/-- 'spiritlevellaw13.ClauseNames': WHATEVER THE INPUT: true; the input reads as it did. -/
def clauseNamesSpec : ChangeSpec := { name := "clauseNames", fn := fun _ => fun
  | [] => { results := [.lit (.bool true)], args := [] }
  | _ => none }
def clauseNamesRow : OpenClaim := { program := "ytnicmgakboghpaa", sum := "3a9238159867961a07afb28335167ea4d681414d2089d9ca5cfe6e5af9243a3a", func := "spiritlevel/spiritlevellaw13.ClauseNames", spec := "clauseNames", unfollowed := true, recurses := true, apart := false }
def ClauseNamesSaid : Prop := clauseNamesRow.holds Try.pinned (OpenSpec.ofChange clauseNamesSpec)

/-- ITS FALSE NEIGHBOUR: 'it returns false'. Refute it at one input. -/
def clauseNamesWrong : ChangeSpec := { name := "clauseNames", fn := fun _ => fun
  | [] => { results := [.lit (.bool false)], args := [] }
  | _ => none }
def ClauseNamesWrongFalsely : Prop := clauseNamesRow.holds Try.pinned (OpenSpec.ofChange clauseNamesWrong)

/-- 'spiritlevellaw13.ClauseImplies': WHATEVER THE INPUT: true; the input reads as it did. -/
def clauseImpliesSpec : ChangeSpec := { name := "clauseImplies", fn := fun _ => fun
  | [d1, d2, d3] => { results := [.lit (.bool true)], args := [d1, d2, d3] }
  | _ => none }
def clauseImpliesRow : OpenClaim := { program := "ytnicmgakboghpaa", sum := "3a9238159867961a07afb28335167ea4d681414d2089d9ca5cfe6e5af9243a3a", func := "spiritlevel/spiritlevellaw13.ClauseImplies", spec := "clauseImplies", unfollowed := true, recurses := true, apart := false }
def ClauseImpliesSaid : Prop := clauseImpliesRow.holds Try.pinned (OpenSpec.ofChange clauseImpliesSpec)

/-- ITS FALSE NEIGHBOUR: 'it returns false'. Refute it at one input. -/
def clauseImpliesWrong : ChangeSpec := { name := "clauseImplies", fn := fun _ => fun
  | [d1, d2, d3] => { results := [.lit (.bool false)], args := [d1, d2, d3] }
  | _ => none }
def ClauseImpliesWrongFalsely : Prop := clauseImpliesRow.holds Try.pinned (OpenSpec.ofChange clauseImpliesWrong)

/- THE SECOND FORM. 'bulk': how many values and letters a reading holds, each counted each time it is reached (what is shared counts as often as it is met; a slice's spare places count too). A statement '..UptoSaid' is the law's where the arguments, and the package variables that the reading takes, are together of bulk at most 1048576: NARROWER than '..Said'. Prove '..Said' where nothing that the law and all that it calls make is longer than what came in: it says more and counts as full. Else prove '..UptoSaid'. A law counts once. -/
mutual
def uptoBulk {H : Type} : DataW H → Nat
  | .lit (.string bytes) => bytes.length + 1
  | .lit _ => 1
  | .nil => 1
  | .ptr d => uptoBulk d + 1
  | .slice elems spare => uptoBulkAll elems + uptoBulkAll spare + 1
  | .agg parts => uptoBulkAll parts + 1
  | .iface _ d => uptoBulk d + 1
  | .map entries => uptoBulkEntries entries + 1
  | .held _ => 1
def uptoBulkAll {H : Type} : List (DataW H) → Nat
  | [] => 0
  | d :: r => uptoBulk d + uptoBulkAll r
def uptoBulkEntries {H : Type} : List (Lit × DataW H) → Nat
  | [] => 0
  | x :: r => uptoBulkEntry x + uptoBulkEntries r
def uptoBulkEntry {H : Type} : Lit × DataW H → Nat
  | (.string bytes, d) => bytes.length + uptoBulk d + 1
  | (_, d) => uptoBulk d + 1
 end
def uptoSmall : (H : Type) → List (DataW H) → Bool := fun _ ds => decide (uptoBulkAll ds ≤ 1048576)
def OpenSpec.upto (s : _root_.Go.ChangeSpec) : _root_.Go.OpenSpec := { _root_.Go.OpenSpec.ofChange s with cond := some uptoSmall }

/-- 'spiritlevellaw13.ClauseTells', WHERE WHAT IT READS IS OF BULK AT MOST 1048576: true; the input reads as it did. -/
def clauseTellsUptoRow : OpenClaim := { program := "ytnicmgakboghpaa", sum := "3a9238159867961a07afb28335167ea4d681414d2089d9ca5cfe6e5af9243a3a", func := "spiritlevel/spiritlevellaw13.ClauseTells", spec := "clauseTells", recurses := true, apart := false, narrowed := true }
def ClauseTellsUptoSaid : Prop := clauseTellsUptoRow.holds Try.pinned (OpenSpec.upto clauseTellsSpec)

/-- 'spiritlevellaw13.ClauseFollows', WHERE WHAT IT READS IS OF BULK AT MOST 1048576: true; the input reads as it did. -/
def clauseFollowsUptoRow : OpenClaim := { program := "ytnicmgakboghpaa", sum := "3a9238159867961a07afb28335167ea4d681414d2089d9ca5cfe6e5af9243a3a", func := "spiritlevel/spiritlevellaw13.ClauseFollows", spec := "clauseFollows", unfollowed := true, recurses := true, apart := false, narrowed := true }
def ClauseFollowsUptoSaid : Prop := clauseFollowsUptoRow.holds Try.pinned (OpenSpec.upto clauseFollowsSpec)

/-- 'spiritlevellaw13.ClauseMakes', WHERE WHAT IT READS IS OF BULK AT MOST 1048576: true; the input reads as it did. -/
def clauseMakesUptoRow : OpenClaim := { program := "ytnicmgakboghpaa", sum := "3a9238159867961a07afb28335167ea4d681414d2089d9ca5cfe6e5af9243a3a", func := "spiritlevel/spiritlevellaw13.ClauseMakes", spec := "clauseMakes", unfollowed := true, recurses := true, apart := false, narrowed := true }
def ClauseMakesUptoSaid : Prop := clauseMakesUptoRow.holds Try.pinned (OpenSpec.upto clauseMakesSpec)

/-- 'spiritlevellaw13.ClauseEmpty', WHERE WHAT IT READS IS OF BULK AT MOST 1048576: true; the input reads as it did. -/
def clauseEmptyUptoRow : OpenClaim := { program := "ytnicmgakboghpaa", sum := "3a9238159867961a07afb28335167ea4d681414d2089d9ca5cfe6e5af9243a3a", func := "spiritlevel/spiritlevellaw13.ClauseEmpty", spec := "clauseEmpty", unfollowed := true, recurses := true, apart := false, narrowed := true }
def ClauseEmptyUptoSaid : Prop := clauseEmptyUptoRow.holds Try.pinned (OpenSpec.upto clauseEmptySpec)

/-- 'spiritlevellaw13.ClauseResolves', WHERE WHAT IT READS IS OF BULK AT MOST 1048576: true; the input reads as it did. -/
def clauseResolvesUptoRow : OpenClaim := { program := "ytnicmgakboghpaa", sum := "3a9238159867961a07afb28335167ea4d681414d2089d9ca5cfe6e5af9243a3a", func := "spiritlevel/spiritlevellaw13.ClauseResolves", spec := "clauseResolves", unfollowed := true, recurses := true, apart := false, narrowed := true }
def ClauseResolvesUptoSaid : Prop := clauseResolvesUptoRow.holds Try.pinned (OpenSpec.upto clauseResolvesSpec)

/-- 'spiritlevellaw13.ClauseNames', WHERE WHAT IT READS IS OF BULK AT MOST 1048576: true; the input reads as it did. -/
def clauseNamesUptoRow : OpenClaim := { program := "ytnicmgakboghpaa", sum := "3a9238159867961a07afb28335167ea4d681414d2089d9ca5cfe6e5af9243a3a", func := "spiritlevel/spiritlevellaw13.ClauseNames", spec := "clauseNames", unfollowed := true, recurses := true, apart := false, narrowed := true }
def ClauseNamesUptoSaid : Prop := clauseNamesUptoRow.holds Try.pinned (OpenSpec.upto clauseNamesSpec)

/-- 'spiritlevellaw13.ClauseImplies', WHERE WHAT IT READS IS OF BULK AT MOST 1048576: true; the input reads as it did. -/
def clauseImpliesUptoRow : OpenClaim := { program := "ytnicmgakboghpaa", sum := "3a9238159867961a07afb28335167ea4d681414d2089d9ca5cfe6e5af9243a3a", func := "spiritlevel/spiritlevellaw13.ClauseImplies", spec := "clauseImplies", unfollowed := true, recurses := true, apart := false, narrowed := true }
def ClauseImpliesUptoSaid : Prop := clauseImpliesUptoRow.holds Try.pinned (OpenSpec.upto clauseImpliesSpec)

end Rows
end Go.Proofs.Ytnicmgakboghpaa
