/-
  No cell of these rows narrows 'for every input' (looked for: loops, veiled, ifaces, maps, wideKeys, modest, calm, conditions, laid).
  DERIVED. THE GIVEN ROWS OF THIS SEAT. 6 by the template 'for every input the law returns true; each argument reads behind the call as it read before'; 0 by the template 'total and deterministic' (their statements: YtmdabengejlijaaTotals.lean).
  GIVEN WITH THE SEED: the statements are not yours to turn. If you find one false, say at which input.
  Laid BY PROGRAM, IN A SANDBOX (cutbox-rows.mjs): the forced cells as the released guide's own fill.sh prints them over the translation 479c5c1fe46eeb1f… (all of the seat's roots in one cut). By AI agents, Wed Nov 11 2026. No macro, syntax, notation, axiom, sorry.
-/
import Derived.Test.YtmdabengejlijaaChecked
import GoSem.Claim
import GoSem.ClaimJoined
import GoSem.ClaimMapViews
import Derived.JoinedTies
import Derived.KernelRfl
namespace Go.Proofs.Ytmdabengejlijaa
/- THE CELL 'sum', in the pinned program and in every row, IS THE sha256 OF THE DUMP (.gsa) THAT YtmdabengejlijaaProg.lean LOADS. Nothing in Lean hashes anything: it is a label: what it is worth is what the hold of that sum in a sandbox is worth. -/
noncomputable def Try.pinned : Pinned := { name := "ytmdabengejlijaa", sum := "479c5c1fe46eeb1f978dbde33ba7e7ae37a5ead5f841869b5719edc9ba05f7a6", checked := Try.checked }
namespace Rows
def none {H : Type} : Left H := { results := [], args := [] }

/-- 'spiritlevellaw01.LitsAnds': WHATEVER THE INPUT: true; the input reads as it did. -/
def litsAndsSpec : ChangeSpec := { name := "litsAnds", fn := fun _ => fun
  | [d1, d2, d3] => { results := [.lit (.bool true)], args := [d1, d2, d3] }
  | _ => none }
def litsAndsRow : OpenClaim := { program := "ytmdabengejlijaa", sum := "479c5c1fe46eeb1f978dbde33ba7e7ae37a5ead5f841869b5719edc9ba05f7a6", func := "spiritlevel/spiritlevellaw01.LitsAnds", spec := "litsAnds", apart := false }
def LitsAndsSaid : Prop := litsAndsRow.holds Try.pinned (OpenSpec.ofChange litsAndsSpec)

/-- ITS FALSE NEIGHBOUR: 'it returns false'. Refute it at one input. -/
def litsAndsWrong : ChangeSpec := { name := "litsAnds", fn := fun _ => fun
  | [d1, d2, d3] => { results := [.lit (.bool false)], args := [d1, d2, d3] }
  | _ => none }
def LitsAndsWrongFalsely : Prop := litsAndsRow.holds Try.pinned (OpenSpec.ofChange litsAndsWrong)

/-- 'spiritlevellaw01.LitsTells': WHATEVER THE INPUT: true; the input reads as it did. -/
def litsTellsSpec : ChangeSpec := { name := "litsTells", fn := fun _ => fun
  | [d1, d2, d3] => { results := [.lit (.bool true)], args := [d1, d2, d3] }
  | _ => none }
def litsTellsRow : OpenClaim := { program := "ytmdabengejlijaa", sum := "479c5c1fe46eeb1f978dbde33ba7e7ae37a5ead5f841869b5719edc9ba05f7a6", func := "spiritlevel/spiritlevellaw01.LitsTells", spec := "litsTells", apart := false }
def LitsTellsSaid : Prop := litsTellsRow.holds Try.pinned (OpenSpec.ofChange litsTellsSpec)

/-- ITS FALSE NEIGHBOUR: 'it returns false'. Refute it at one input. -/
def litsTellsWrong : ChangeSpec := { name := "litsTells", fn := fun _ => fun
  | [d1, d2, d3] => { results := [.lit (.bool false)], args := [d1, d2, d3] }
  | _ => none }
def LitsTellsWrongFalsely : Prop := litsTellsRow.holds Try.pinned (OpenSpec.ofChange litsTellsWrong)

/-- 'spiritlevellaw01.LitsOrder': WHATEVER THE INPUT: true; the input reads as it did. -/
def litsOrderSpec : ChangeSpec := { name := "litsOrder", fn := fun _ => fun
  | [d1, d2] => { results := [.lit (.bool true)], args := [d1, d2] }
  | _ => none }
def litsOrderRow : OpenClaim := { program := "ytmdabengejlijaa", sum := "479c5c1fe46eeb1f978dbde33ba7e7ae37a5ead5f841869b5719edc9ba05f7a6", func := "spiritlevel/spiritlevellaw01.LitsOrder", spec := "litsOrder", apart := false }
def LitsOrderSaid : Prop := litsOrderRow.holds Try.pinned (OpenSpec.ofChange litsOrderSpec)

/-- ITS FALSE NEIGHBOUR: 'it returns false'. Refute it at one input. -/
def litsOrderWrong : ChangeSpec := { name := "litsOrder", fn := fun _ => fun
  | [d1, d2] => { results := [.lit (.bool false)], args := [d1, d2] }
  | _ => none }
def LitsOrderWrongFalsely : Prop := litsOrderRow.holds Try.pinned (OpenSpec.ofChange litsOrderWrong)

/-- 'spiritlevellaw01.LitsRules': WHATEVER THE INPUT: true; the input reads as it did. -/
def litsRulesSpec : ChangeSpec := { name := "litsRules", fn := fun _ => fun
  | [d1, d2, d3, d4] => { results := [.lit (.bool true)], args := [d1, d2, d3, d4] }
  | _ => none }
def litsRulesRow : OpenClaim := { program := "ytmdabengejlijaa", sum := "479c5c1fe46eeb1f978dbde33ba7e7ae37a5ead5f841869b5719edc9ba05f7a6", func := "spiritlevel/spiritlevellaw01.LitsRules", spec := "litsRules", apart := false }
def LitsRulesSaid : Prop := litsRulesRow.holds Try.pinned (OpenSpec.ofChange litsRulesSpec)

/-- ITS FALSE NEIGHBOUR: 'it returns false'. Refute it at one input. -/
def litsRulesWrong : ChangeSpec := { name := "litsRules", fn := fun _ => fun
  | [d1, d2, d3, d4] => { results := [.lit (.bool false)], args := [d1, d2, d3, d4] }
  | _ => none }
def LitsRulesWrongFalsely : Prop := litsRulesRow.holds Try.pinned (OpenSpec.ofChange litsRulesWrong)

/-- 'spiritlevellaw01.LitsNames': WHATEVER THE INPUT: true; the input reads as it did. -/
def litsNamesSpec : ChangeSpec := { name := "litsNames", fn := fun _ => fun
  | [] => { results := [.lit (.bool true)], args := [] }
  | _ => none }
def litsNamesRow : OpenClaim := { program := "ytmdabengejlijaa", sum := "479c5c1fe46eeb1f978dbde33ba7e7ae37a5ead5f841869b5719edc9ba05f7a6", func := "spiritlevel/spiritlevellaw01.LitsNames", spec := "litsNames", apart := false }
def LitsNamesSaid : Prop := litsNamesRow.holds Try.pinned (OpenSpec.ofChange litsNamesSpec)

/-- ITS FALSE NEIGHBOUR: 'it returns false'. Refute it at one input. -/
def litsNamesWrong : ChangeSpec := { name := "litsNames", fn := fun _ => fun
  | [] => { results := [.lit (.bool false)], args := [] }
  | _ => none }
def LitsNamesWrongFalsely : Prop := litsNamesRow.holds Try.pinned (OpenSpec.ofChange litsNamesWrong)

/-- 'spiritlevellaw01.LitsTwice': WHATEVER THE INPUT: true; the input reads as it did. -/
def litsTwiceSpec : ChangeSpec := { name := "litsTwice", fn := fun _ => fun
  | [d1, d2, d3, d4] => { results := [.lit (.bool true)], args := [d1, d2, d3, d4] }
  | _ => none }
def litsTwiceRow : OpenClaim := { program := "ytmdabengejlijaa", sum := "479c5c1fe46eeb1f978dbde33ba7e7ae37a5ead5f841869b5719edc9ba05f7a6", func := "spiritlevel/spiritlevellaw01.LitsTwice", spec := "litsTwice", apart := false }
def LitsTwiceSaid : Prop := litsTwiceRow.holds Try.pinned (OpenSpec.ofChange litsTwiceSpec)

/-- ITS FALSE NEIGHBOUR: 'it returns false'. Refute it at one input. -/
def litsTwiceWrong : ChangeSpec := { name := "litsTwice", fn := fun _ => fun
  | [d1, d2, d3, d4] => { results := [.lit (.bool false)], args := [d1, d2, d3, d4] }
  | _ => none }
def LitsTwiceWrongFalsely : Prop := litsTwiceRow.holds Try.pinned (OpenSpec.ofChange litsTwiceWrong)

/- THE SECOND FORM. 'bulk': how many values and letters a reading holds, each counted each time it is reached (what is shared counts as often as it is met; a slice's spare places count too). A statement '..UptoSaid' is the law's where the arguments, and the package variables that the reading takes, are together of bulk at most 1048576: NARROWER than '..Said'. Prove '..Said' where nothing that the law and all that it calls make is longer than what came in: it says more and counts as full. Else prove '..UptoSaid'. A law counts once. -/
mutual
def uptoBulk {H : Type} : DataW H → Nat
  | .lit (.string bytes) => bytes.length + 1
  | .lit _ => 1
  | .nil => 1
  | .ptr d => uptoBulk d + 1
  | .slice elems spare => uptoBulkAll elems + uptoBulkAll spare + 1
  | .agg parts => uptoBulkAll parts + 1
  | .iface _ d => uptoBulk d + 1
  | .map entries => uptoBulkEntries entries + 1
  | .held _ => 1
def uptoBulkAll {H : Type} : List (DataW H) → Nat
  | [] => 0
  | d :: r => uptoBulk d + uptoBulkAll r
def uptoBulkEntries {H : Type} : List (Lit × DataW H) → Nat
  | [] => 0
  | x :: r => uptoBulkEntry x + uptoBulkEntries r
def uptoBulkEntry {H : Type} : Lit × DataW H → Nat
  | (.string bytes, d) => bytes.length + uptoBulk d + 1
  | (_, d) => uptoBulk d + 1
 end
def uptoSmall : (H : Type) → List (DataW H) → Bool := fun _ ds => decide (uptoBulkAll ds ≤ 1048576)
def OpenSpec.upto (s : _root_.Go.ChangeSpec) : _root_.Go.OpenSpec := { _root_.Go.OpenSpec.ofChange s with cond := some uptoSmall }

/-- 'spiritlevellaw01.LitsAnds', WHERE WHAT IT READS IS OF BULK AT MOST 1048576: true; the input reads as it did. -/
def litsAndsUptoRow : OpenClaim := { program := "ytmdabengejlijaa", sum := "479c5c1fe46eeb1f978dbde33ba7e7ae37a5ead5f841869b5719edc9ba05f7a6", func := "spiritlevel/spiritlevellaw01.LitsAnds", spec := "litsAnds", apart := false, narrowed := true }
def LitsAndsUptoSaid : Prop := litsAndsUptoRow.holds Try.pinned (OpenSpec.upto litsAndsSpec)

/-- 'spiritlevellaw01.LitsTells', WHERE WHAT IT READS IS OF BULK AT MOST 1048576: true; the input reads as it did. -/
def litsTellsUptoRow : OpenClaim := { program := "ytmdabengejlijaa", sum := "479c5c1fe46eeb1f978dbde33ba7e7ae37a5ead5f841869b5719edc9ba05f7a6", func := "spiritlevel/spiritlevellaw01.LitsTells", spec := "litsTells", apart := false, narrowed := true }
def LitsTellsUptoSaid : Prop := litsTellsUptoRow.holds Try.pinned (OpenSpec.upto litsTellsSpec)

/-- 'spiritlevellaw01.LitsOrder', WHERE WHAT IT READS IS OF BULK AT MOST 1048576: true; the input reads as it did. -/
def litsOrderUptoRow : OpenClaim := { program := "ytmdabengejlijaa", sum := "479c5c1fe46eeb1f978dbde33ba7e7ae37a5ead5f841869b5719edc9ba05f7a6", func := "spiritlevel/spiritlevellaw01.LitsOrder", spec := "litsOrder", apart := false, narrowed := true }
def LitsOrderUptoSaid : Prop := litsOrderUptoRow.holds Try.pinned (OpenSpec.upto litsOrderSpec)

/-- 'spiritlevellaw01.LitsRules', WHERE WHAT IT READS IS OF BULK AT MOST 1048576: true; the input reads as it did. -/
def litsRulesUptoRow : OpenClaim := { program := "ytmdabengejlijaa", sum := "479c5c1fe46eeb1f978dbde33ba7e7ae37a5ead5f841869b5719edc9ba05f7a6", func := "spiritlevel/spiritlevellaw01.LitsRules", spec := "litsRules", apart := false, narrowed := true }
def LitsRulesUptoSaid : Prop := litsRulesUptoRow.holds Try.pinned (OpenSpec.upto litsRulesSpec)

/-- 'spiritlevellaw01.LitsNames', WHERE WHAT IT READS IS OF BULK AT MOST 1048576: true; the input reads as it did. -/
def litsNamesUptoRow : OpenClaim := { program := "ytmdabengejlijaa", sum := "479c5c1fe46eeb1f978dbde33ba7e7ae37a5ead5f841869b5719edc9ba05f7a6", func := "spiritlevel/spiritlevellaw01.LitsNames", spec := "litsNames", apart := false, narrowed := true }
def LitsNamesUptoSaid : Prop := litsNamesUptoRow.holds Try.pinned (OpenSpec.upto litsNamesSpec)

/-- 'spiritlevellaw01.LitsTwice', WHERE WHAT IT READS IS OF BULK AT MOST 1048576: true; the input reads as it did. -/
def litsTwiceUptoRow : OpenClaim := { program := "ytmdabengejlijaa", sum := "479c5c1fe46eeb1f978dbde33ba7e7ae37a5ead5f841869b5719edc9ba05f7a6", func := "spiritlevel/spiritlevellaw01.LitsTwice", spec := "litsTwice", apart := false, narrowed := true }
def LitsTwiceUptoSaid : Prop := litsTwiceUptoRow.holds Try.pinned (OpenSpec.upto litsTwiceSpec)

end Rows
end Go.Proofs.Ytmdabengejlijaa
