/-
  No cell of these rows narrows 'for every input' (looked for: loops, veiled, ifaces, maps, wideKeys, modest, calm, conditions, laid).
  DERIVED. THE GIVEN ROWS OF THIS SEAT. 7 by the template 'for every input the law returns true; each argument reads behind the call as it read before'; 0 by the template 'total and deterministic' (their statements: YtddelmbkbpoelaaTotals.lean).
  GIVEN WITH THE SEED: the statements are not yours to turn. If you find one false, say at which input.
  Laid BY PROGRAM, IN A SANDBOX (cutbox-rows.mjs): the forced cells as the released guide's own fill.sh prints them over the translation 92859db5496372b9… (all of the seat's roots in one cut). By AI agents, Wed Nov 11 2026. No macro, syntax, notation, axiom, sorry.
-/
import Derived.Test.YtddelmbkbpoelaaChecked
import GoSem.Claim
import GoSem.ClaimJoined
import GoSem.ClaimMapViews
import Derived.JoinedTies
import Derived.KernelRfl
namespace Go.Proofs.Ytddelmbkbpoelaa
/- THE CELL 'sum', in the pinned program and in every row, IS THE sha256 OF THE DUMP (.gsa) THAT YtddelmbkbpoelaaProg.lean LOADS. Nothing in Lean hashes anything: it is a label: what it is worth is what the hold of that sum in a sandbox is worth. -/
noncomputable def Try.pinned : Pinned := { name := "ytddelmbkbpoelaa", sum := "92859db5496372b9062337cd30101f7f2e5c88b912ebdbf48708e1330fb635ca", checked := Try.checked }
namespace Rows
def none {H : Type} : Left H := { results := [], args := [] }

/-- 'spiritlevellaw05.TernaryTells': WHATEVER THE INPUT: true; the input reads as it did. -/
def ternaryTellsSpec : ChangeSpec := { name := "ternaryTells", fn := fun _ => fun
  | [d1, d2, d3, d4] => { results := [.lit (.bool true)], args := [d1, d2, d3, d4] }
  | _ => none }
def ternaryTellsRow : OpenClaim := { program := "ytddelmbkbpoelaa", sum := "92859db5496372b9062337cd30101f7f2e5c88b912ebdbf48708e1330fb635ca", func := "spiritlevel/spiritlevellaw05.TernaryTells", spec := "ternaryTells", unfollowed := true, recurses := true, apart := false }
def TernaryTellsSaid : Prop := ternaryTellsRow.holds Try.pinned (OpenSpec.ofChange ternaryTellsSpec)

/-- ITS FALSE NEIGHBOUR: 'it returns false'. Refute it at one input. -/
def ternaryTellsWrong : ChangeSpec := { name := "ternaryTells", fn := fun _ => fun
  | [d1, d2, d3, d4] => { results := [.lit (.bool false)], args := [d1, d2, d3, d4] }
  | _ => none }
def TernaryTellsWrongFalsely : Prop := ternaryTellsRow.holds Try.pinned (OpenSpec.ofChange ternaryTellsWrong)

/-- 'spiritlevellaw05.TernaryTable': WHATEVER THE INPUT: true; the input reads as it did. -/
def ternaryTableSpec : ChangeSpec := { name := "ternaryTable", fn := fun _ => fun
  | [d1, d2, d3] => { results := [.lit (.bool true)], args := [d1, d2, d3] }
  | _ => none }
def ternaryTableRow : OpenClaim := { program := "ytddelmbkbpoelaa", sum := "92859db5496372b9062337cd30101f7f2e5c88b912ebdbf48708e1330fb635ca", func := "spiritlevel/spiritlevellaw05.TernaryTable", spec := "ternaryTable", unfollowed := true, recurses := true, apart := false }
def TernaryTableSaid : Prop := ternaryTableRow.holds Try.pinned (OpenSpec.ofChange ternaryTableSpec)

/-- ITS FALSE NEIGHBOUR: 'it returns false'. Refute it at one input. -/
def ternaryTableWrong : ChangeSpec := { name := "ternaryTable", fn := fun _ => fun
  | [d1, d2, d3] => { results := [.lit (.bool false)], args := [d1, d2, d3] }
  | _ => none }
def TernaryTableWrongFalsely : Prop := ternaryTableRow.holds Try.pinned (OpenSpec.ofChange ternaryTableWrong)

/-- 'spiritlevellaw05.TernaryOne': WHATEVER THE INPUT: true; the input reads as it did. -/
def ternaryOneSpec : ChangeSpec := { name := "ternaryOne", fn := fun _ => fun
  | [d1, d2, d3] => { results := [.lit (.bool true)], args := [d1, d2, d3] }
  | _ => none }
def ternaryOneRow : OpenClaim := { program := "ytddelmbkbpoelaa", sum := "92859db5496372b9062337cd30101f7f2e5c88b912ebdbf48708e1330fb635ca", func := "spiritlevel/spiritlevellaw05.TernaryOne", spec := "ternaryOne", unfollowed := true, recurses := true, apart := false }
def TernaryOneSaid : Prop := ternaryOneRow.holds Try.pinned (OpenSpec.ofChange ternaryOneSpec)

/-- ITS FALSE NEIGHBOUR: 'it returns false'. Refute it at one input. -/
def ternaryOneWrong : ChangeSpec := { name := "ternaryOne", fn := fun _ => fun
  | [d1, d2, d3] => { results := [.lit (.bool false)], args := [d1, d2, d3] }
  | _ => none }
def TernaryOneWrongFalsely : Prop := ternaryOneRow.holds Try.pinned (OpenSpec.ofChange ternaryOneWrong)

/-- 'spiritlevellaw05.TernaryFrames': WHATEVER THE INPUT: true; the input reads as it did. -/
def ternaryFramesSpec : ChangeSpec := { name := "ternaryFrames", fn := fun _ => fun
  | [d1, d2, d3] => { results := [.lit (.bool true)], args := [d1, d2, d3] }
  | _ => none }
def ternaryFramesRow : OpenClaim := { program := "ytddelmbkbpoelaa", sum := "92859db5496372b9062337cd30101f7f2e5c88b912ebdbf48708e1330fb635ca", func := "spiritlevel/spiritlevellaw05.TernaryFrames", spec := "ternaryFrames", unfollowed := true, recurses := true, apart := false }
def TernaryFramesSaid : Prop := ternaryFramesRow.holds Try.pinned (OpenSpec.ofChange ternaryFramesSpec)

/-- ITS FALSE NEIGHBOUR: 'it returns false'. Refute it at one input. -/
def ternaryFramesWrong : ChangeSpec := { name := "ternaryFrames", fn := fun _ => fun
  | [d1, d2, d3] => { results := [.lit (.bool false)], args := [d1, d2, d3] }
  | _ => none }
def TernaryFramesWrongFalsely : Prop := ternaryFramesRow.holds Try.pinned (OpenSpec.ofChange ternaryFramesWrong)

/-- 'spiritlevellaw05.TernaryCovers': WHATEVER THE INPUT: true; the input reads as it did. -/
def ternaryCoversSpec : ChangeSpec := { name := "ternaryCovers", fn := fun _ => fun
  | [d1, d2, d3, d4, d5] => { results := [.lit (.bool true)], args := [d1, d2, d3, d4, d5] }
  | _ => none }
def ternaryCoversRow : OpenClaim := { program := "ytddelmbkbpoelaa", sum := "92859db5496372b9062337cd30101f7f2e5c88b912ebdbf48708e1330fb635ca", func := "spiritlevel/spiritlevellaw05.TernaryCovers", spec := "ternaryCovers", unfollowed := true, recurses := true, apart := false }
def TernaryCoversSaid : Prop := ternaryCoversRow.holds Try.pinned (OpenSpec.ofChange ternaryCoversSpec)

/-- ITS FALSE NEIGHBOUR: 'it returns false'. Refute it at one input. -/
def ternaryCoversWrong : ChangeSpec := { name := "ternaryCovers", fn := fun _ => fun
  | [d1, d2, d3, d4, d5] => { results := [.lit (.bool false)], args := [d1, d2, d3, d4, d5] }
  | _ => none }
def TernaryCoversWrongFalsely : Prop := ternaryCoversRow.holds Try.pinned (OpenSpec.ofChange ternaryCoversWrong)

/-- 'spiritlevellaw05.TernaryNames': WHATEVER THE INPUT: true; the input reads as it did. -/
def ternaryNamesSpec : ChangeSpec := { name := "ternaryNames", fn := fun _ => fun
  | [] => { results := [.lit (.bool true)], args := [] }
  | _ => none }
def ternaryNamesRow : OpenClaim := { program := "ytddelmbkbpoelaa", sum := "92859db5496372b9062337cd30101f7f2e5c88b912ebdbf48708e1330fb635ca", func := "spiritlevel/spiritlevellaw05.TernaryNames", spec := "ternaryNames", unfollowed := true, recurses := true, apart := false }
def TernaryNamesSaid : Prop := ternaryNamesRow.holds Try.pinned (OpenSpec.ofChange ternaryNamesSpec)

/-- ITS FALSE NEIGHBOUR: 'it returns false'. Refute it at one input. -/
def ternaryNamesWrong : ChangeSpec := { name := "ternaryNames", fn := fun _ => fun
  | [] => { results := [.lit (.bool false)], args := [] }
  | _ => none }
def TernaryNamesWrongFalsely : Prop := ternaryNamesRow.holds Try.pinned (OpenSpec.ofChange ternaryNamesWrong)

/-- 'spiritlevellaw05.TernaryTwo': WHATEVER THE INPUT: true; the input reads as it did. -/
def ternaryTwoSpec : ChangeSpec := { name := "ternaryTwo", fn := fun _ => fun
  | [d1, d2, d3] => { results := [.lit (.bool true)], args := [d1, d2, d3] }
  | _ => none }
def ternaryTwoRow : OpenClaim := { program := "ytddelmbkbpoelaa", sum := "92859db5496372b9062337cd30101f7f2e5c88b912ebdbf48708e1330fb635ca", func := "spiritlevel/spiritlevellaw05.TernaryTwo", spec := "ternaryTwo", unfollowed := true, recurses := true, apart := false }
def TernaryTwoSaid : Prop := ternaryTwoRow.holds Try.pinned (OpenSpec.ofChange ternaryTwoSpec)

/-- ITS FALSE NEIGHBOUR: 'it returns false'. Refute it at one input. -/
def ternaryTwoWrong : ChangeSpec := { name := "ternaryTwo", fn := fun _ => fun
  | [d1, d2, d3] => { results := [.lit (.bool false)], args := [d1, d2, d3] }
  | _ => none }
def TernaryTwoWrongFalsely : Prop := ternaryTwoRow.holds Try.pinned (OpenSpec.ofChange ternaryTwoWrong)

/- THE SECOND FORM. 'bulk': how many values and letters a reading holds, each counted each time it is reached (what is shared counts as often as it is met; a slice's spare places count too). A statement '..UptoSaid' is the law's where the arguments, and the package variables that the reading takes, are together of bulk at most 1048576: NARROWER than '..Said'. Prove '..Said' where nothing that the law and all that it calls make is longer than what came in: it says more and counts as full. Else prove '..UptoSaid'. A law counts once. -/
mutual
def uptoBulk {H : Type} : DataW H → Nat
  | .lit (.string bytes) => bytes.length + 1
  | .lit _ => 1
  | .nil => 1
  | .ptr d => uptoBulk d + 1
  | .slice elems spare => uptoBulkAll elems + uptoBulkAll spare + 1
  | .agg parts => uptoBulkAll parts + 1
  | .iface _ d => uptoBulk d + 1
  | .map entries => uptoBulkEntries entries + 1
  | .held _ => 1
def uptoBulkAll {H : Type} : List (DataW H) → Nat
  | [] => 0
  | d :: r => uptoBulk d + uptoBulkAll r
def uptoBulkEntries {H : Type} : List (Lit × DataW H) → Nat
  | [] => 0
  | x :: r => uptoBulkEntry x + uptoBulkEntries r
def uptoBulkEntry {H : Type} : Lit × DataW H → Nat
  | (.string bytes, d) => bytes.length + uptoBulk d + 1
  | (_, d) => uptoBulk d + 1
 end
def uptoSmall : (H : Type) → List (DataW H) → Bool := fun _ ds => decide (uptoBulkAll ds ≤ 1048576)
def OpenSpec.upto (s : _root_.Go.ChangeSpec) : _root_.Go.OpenSpec := { _root_.Go.OpenSpec.ofChange s with cond := some uptoSmall }

/-- 'spiritlevellaw05.TernaryTells', WHERE WHAT IT READS IS OF BULK AT MOST 1048576: true; the input reads as it did. -/
def ternaryTellsUptoRow : OpenClaim := { program := "ytddelmbkbpoelaa", sum := "92859db5496372b9062337cd30101f7f2e5c88b912ebdbf48708e1330fb635ca", func := "spiritlevel/spiritlevellaw05.TernaryTells", spec := "ternaryTells", unfollowed := true, recurses := true, apart := false, narrowed := true }
def TernaryTellsUptoSaid : Prop := ternaryTellsUptoRow.holds Try.pinned (OpenSpec.upto ternaryTellsSpec)

/-- 'spiritlevellaw05.TernaryTable', WHERE WHAT IT READS IS OF BULK AT MOST 1048576: true; the input reads as it did. -/
def ternaryTableUptoRow : OpenClaim := { program := "ytddelmbkbpoelaa", sum := "92859db5496372b9062337cd30101f7f2e5c88b912ebdbf48708e1330fb635ca", func := "spiritlevel/spiritlevellaw05.TernaryTable", spec := "ternaryTable", unfollowed := true, recurses := true, apart := false, narrowed := true }
def TernaryTableUptoSaid : Prop := ternaryTableUptoRow.holds Try.pinned (OpenSpec.upto ternaryTableSpec)

/-- 'spiritlevellaw05.TernaryOne', WHERE WHAT IT READS IS OF BULK AT MOST 1048576: true; the input reads as it did. -/
def ternaryOneUptoRow : OpenClaim := { program := "ytddelmbkbpoelaa", sum := "92859db5496372b9062337cd30101f7f2e5c88b912ebdbf48708e1330fb635ca", func := "spiritlevel/spiritlevellaw05.TernaryOne", spec := "ternaryOne", unfollowed := true, recurses := true, apart := false, narrowed := true }
def TernaryOneUptoSaid : Prop := ternaryOneUptoRow.holds Try.pinned (OpenSpec.upto ternaryOneSpec)

/-- 'spiritlevellaw05.TernaryFrames', WHERE WHAT IT READS IS OF BULK AT MOST 1048576: true; the input reads as it did. -/
def ternaryFramesUptoRow : OpenClaim := { program := "ytddelmbkbpoelaa", sum := "92859db5496372b9062337cd30101f7f2e5c88b912ebdbf48708e1330fb635ca", func := "spiritlevel/spiritlevellaw05.TernaryFrames", spec := "ternaryFrames", unfollowed := true, recurses := true, apart := false, narrowed := true }
def TernaryFramesUptoSaid : Prop := ternaryFramesUptoRow.holds Try.pinned (OpenSpec.upto ternaryFramesSpec)

/-- 'spiritlevellaw05.TernaryCovers', WHERE WHAT IT READS IS OF BULK AT MOST 1048576: true; the input reads as it did. -/
def ternaryCoversUptoRow : OpenClaim := { program := "ytddelmbkbpoelaa", sum := "92859db5496372b9062337cd30101f7f2e5c88b912ebdbf48708e1330fb635ca", func := "spiritlevel/spiritlevellaw05.TernaryCovers", spec := "ternaryCovers", unfollowed := true, recurses := true, apart := false, narrowed := true }
def TernaryCoversUptoSaid : Prop := ternaryCoversUptoRow.holds Try.pinned (OpenSpec.upto ternaryCoversSpec)

/-- 'spiritlevellaw05.TernaryNames', WHERE WHAT IT READS IS OF BULK AT MOST 1048576: true; the input reads as it did. -/
def ternaryNamesUptoRow : OpenClaim := { program := "ytddelmbkbpoelaa", sum := "92859db5496372b9062337cd30101f7f2e5c88b912ebdbf48708e1330fb635ca", func := "spiritlevel/spiritlevellaw05.TernaryNames", spec := "ternaryNames", unfollowed := true, recurses := true, apart := false, narrowed := true }
def TernaryNamesUptoSaid : Prop := ternaryNamesUptoRow.holds Try.pinned (OpenSpec.upto ternaryNamesSpec)

/-- 'spiritlevellaw05.TernaryTwo', WHERE WHAT IT READS IS OF BULK AT MOST 1048576: true; the input reads as it did. -/
def ternaryTwoUptoRow : OpenClaim := { program := "ytddelmbkbpoelaa", sum := "92859db5496372b9062337cd30101f7f2e5c88b912ebdbf48708e1330fb635ca", func := "spiritlevel/spiritlevellaw05.TernaryTwo", spec := "ternaryTwo", unfollowed := true, recurses := true, apart := false, narrowed := true }
def TernaryTwoUptoSaid : Prop := ternaryTwoUptoRow.holds Try.pinned (OpenSpec.upto ternaryTwoSpec)

end Rows
end Go.Proofs.Ytddelmbkbpoelaa
