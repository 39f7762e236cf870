-- Made by wip/myprint.sh (a patched print): a text of this session's own.
import Derived.Test.YtnbccfecmpocaaaProg
import Derived.Below
import Derived.Deep.Draws
import Derived.Deep.AppendLies
import Derived.Maps.AppendAt
import Derived.OwnWalk
import Derived.Laws.BytesArg
import Derived.Laws.MakeOwn
import Derived.Laws.OwnMore
import Derived.Deep.OwnRows
import Derived.Tactics
import Derived.Lib.ConvBytes
import Derived.Laws.Slices
import Derived.WalkKit
import Derived.KernelRfl
import Derived.RowKit3
import Derived.Deep.LoopGhost
import Derived.Deep.QuietTactic
import Derived.BigQuiet
import Derived.WideLaws
import Derived.Deep.DeepCutAuto
import Derived.Deep.CutBlock
import Derived.Deep.RegionHeld3
import Derived.Laws.Rows
import Derived.Lib.AppendStr
import Derived.ArgAppend
import Derived.Laws.IdiomCopy
import Derived.OrdersHeld
import Derived.Laws.BitsLemmas
import Derived.RowKit
import Derived.Laws.EntriesVeiled
import Derived.LoopN
import Derived.Laws.CopyOwn
import Derived.Lib.SliceRun
import Derived.RegionTactic
import Derived.ChangeAlike
import Derived.Maps.OwnSet
import Derived.WideKeyPair
import Derived.Deep.RegionLaw
import Derived.Laws.StructEq
import Derived.Deep.CutBlock
import Derived.Deep.DeepCutAuto
import Derived.Test.YtnbccfecmpocaaaVWWords
import Derived.Test.YtnbccfecmpocaaaVWLast
import Derived.Test.YtnbccfecmpocaaaVWTab
import Derived.Test.YtnbccfecmpocaaaVWQPut
import Derived.Test.YtnbccfecmpocaaaVWApart
import Derived.Test.YtnbccfecmpocaaaVWArr
import Derived.Test.YtnbccfecmpocaaaVWZeros
import Derived.Test.YtnbccfecmpocaaaVWFoot
import Derived.Test.YtnbccfecmpocaaaVWKept
import Derived.Test.YtnbccfecmpocaaaVWShare
import Derived.Test.YtnbccfecmpocaaaVWN
import Derived.Test.YtnbccfecmpocaaaVWFootNe
import Derived.Test.YtnbccfecmpocaaaVWEqStruct
import Derived.Test.YtnbccfecmpocaaaVWRepsOne
import Derived.Test.YtnbccfecmpocaaaVWInv
import Derived.Test.YtnbccfecmpocaaaVWInvWords
import Derived.Test.YtnbccfecmpocaaaVWGuard
import Derived.Test.YtnbccfecmpocaaaVWNEv
import Derived.Test.YtnbccfecmpocaaaVWMore
namespace Go.Proofs.Ytnbccfecmpocaaa.QHashValues
open Go.RowKit Go.Proofs.YtnbccfecmpocaaaW.PrintWords Go.Proofs.YtnbccfecmpocaaaW.PrintLast Go.Proofs.YtnbccfecmpocaaaW.PrintMore
attribute [local go_sem] max2_int min2_int max_two min_two max_three min_three max_four min_four   -- for this text's walks alone
set_option linter.unusedVariables false
set_option linter.unusedSimpArgs false
-- slimmed
abbrev a0_ := @Kd.R_alloc
abbrev a1_ := @Kd.R_drewN
abbrev a2_ := @Kd.R_drew
abbrev b0_ := @below_alloc
abbrev b1_ := @pw_below_drewN
abbrev b2_ := @below_drew1
theorem M_ {p : Prop} (h : p) : Aside0 p := Aside0.mk h
abbrev c0_ := @Kd.C_alloc
abbrev c1_ := @Kd.C_drewN
abbrev c2_ := @Kd.C_drew
theorem e1_ {α : Type _} (l : List α) (i : Nat) (a : α) : l.toArray.setIfInBounds i a = (l.set i a).toArray := List.setIfInBounds_toArray ..
theorem e2_ {α : Type _} (a b : α) (l : List α) : (a :: l).set 0 b = b :: l := rfl
theorem e3_ {α : Type _} (a b : α) (l : List α) (n : Nat) : (a :: l).set (n + 1) b = a :: l.set n b := rfl
abbrev z0_ : Array Bool := #[false, false, false, false, false, false, false, false, false, false, false, false]
abbrev z1_ : Array Bool := #[true, false, false, false, false, false, false, false, false, false, false, false]
abbrev z2_ : Array Bool := #[true, false, true, false, false, false, false, false, false, false, false, false]
abbrev z3_ : Array Bool := #[true, false, true, false, false, false, true, false, false, false, false, false]
abbrev z4_ : Array Bool := #[true, false, true, false, false, false, true, true, false, false, false, false]
abbrev z5_ : Array Bool := #[true, true, true, false, false, false, true, true, false, false, false, false]
abbrev z6_ : Array Bool := #[true, true, true, true, false, false, true, true, false, false, false, false]
abbrev z7_ : Array Bool := #[true, true, true, true, true, false, true, true, false, false, false, false]
abbrev z8_ : Array Bool := #[true, true, true, true, true, true, true, true, false, false, false, false]
abbrev z9_ : Array Bool := #[true, true, true, true, true, true, true, true, true, false, false, false]
abbrev z10_ : Array Bool := #[true, true, true, true, true, true, true, true, true, true, false, false]
abbrev z11_ : Array Bool := #[true, true, true, true, true, true, true, true, true, true, true, false]
abbrev z12_ : Array Bool := #[true, true, true, true, true, true, true, true, true, true, true, true]
abbrev z13_ : Array Bool := #[false, false, false, false, false, false, false, false, false, false, false, false, false, false]
abbrev z14_ : Array Bool := #[false, false, true, false, false, false, false, false, false, false, false, false, false, false]
abbrev z15_ : Array Bool := #[false, false, true, true, false, false, false, false, false, false, false, false, false, false]
abbrev z16_ : Array Bool := #[true, false, true, true, false, false, false, false, false, false, false, false, false, false]
abbrev z17_ : Array Bool := #[true, true, true, true, true, true, true, true, true, true, true, false, false, false]
abbrev z18_ : Array Bool := #[true, true, true, true, false, false, false, false, false, false, false, false, false, false]
abbrev z19_ : Array Bool := #[true, false, true, true, false, false, false, false, false, false, true, false, false, false]
abbrev z20_ : Array Bool := #[true, true, true, true, true, false, false, false, false, false, false, false, false, false]
abbrev z21_ : Array Bool := #[true, true, true, true, false, false, false, false, false, false, true, false, false, false]
abbrev z22_ : Array Bool := #[true, true, true, true, true, true, false, false, false, false, false, false, false, false]
abbrev z23_ : Array Bool := #[true, true, true, true, true, false, false, false, false, false, true, false, false, false]
abbrev z24_ : Array Bool := #[true, true, true, true, true, true, true, false, false, false, false, false, false, false]
abbrev z25_ : Array Bool := #[true, true, true, true, true, true, true, true, false, false, false, false, false, false]
abbrev z26_ : Array Bool := #[true, true, true, true, true, true, true, true, true, false, false, false, false, false]
abbrev z27_ : Array Bool := #[true, true, true, true, true, true, true, true, true, true, false, false, false, false]
abbrev z28_ : Array Bool := #[true, true, true, true, true, true, false, false, false, false, true, false, false, false]
abbrev z29_ : Array Bool := #[true, true, true, true, true, true, true, false, false, false, true, false, false, false]
abbrev z30_ : Array Bool := #[true, true, true, true, true, true, true, true, false, false, true, false, false, false]
abbrev z31_ : Array Bool := #[true, true, true, true, true, true, true, true, true, false, true, false, false, false]
abbrev z32_ : Array Bool := #[true, true, true, true, true, true, true, true, true, true, true, true, false, false]
abbrev z33_ : Array Bool := #[true, true, true, true, true, true, true, true, true, true, true, true, true, false]
abbrev z34_ : Array Bool := #[true, true, true, true, true, true, true, true, true, true, true, true, true, true]



def errW : Option Int → Value
 | none => .nilIface
 | some c => .iface 0 (.int .i64 c)
theorem errW_none : errW none = .nilIface := rfl
theorem errW_some (c : Int) : errW (some c) = .iface 0 (.int .i64 c) := rfl

theorem info3 : (Try.prog.info? 3).map (fun i => (i.zero, i.size, i.bytes)) = some (some (.int .i64 0), 1, 8) := by kernel_rfl
theorem info4 : (Try.prog.info? 4).map (fun i => (i.zero, i.size, i.bytes)) = some (some (.bool false), 1, 1) := by kernel_rfl
theorem info24 : (Try.prog.info? 24).map (fun i => (i.zero, i.size, i.bytes)) = some (some (.slice none 0 0), 1, 24) := by kernel_rfl
theorem info67 : (Try.prog.info? 67).map (fun i => (i.zero, i.size, i.bytes)) = some (some (.agg #[(.int .i64 0), (.int .i64 0)]), 2, 16) := by kernel_rfl
theorem info86 : (Try.prog.info? 86).map (fun i => (i.zero, i.size, i.bytes)) = some (some (.agg #[(.int .i64 0), (.int .i64 0)]), 2, 16) := by kernel_rfl
-- the values' own types
/-! #### struct type 86 -/
structure S86 where
 f0 : Int
 f1 : Int
def z86 : S86 := ⟨(0 : Int), (0 : Int)⟩
def k86 : Kd S86 := Kd.iso (Kd.pair (Kd.int .i64) (Kd.int .i64)) (fun x : S86 => (x.f0, x.f1))
theorem k86_open {w : World} {x : S86} {cs : List Value} (h : k86.K w x cs) : cs = [.int .i64 x.f0, .int .i64 x.f1] := by
 obtain ⟨_, _, rfl, rfl, rfl⟩ := h
 exact rfl
theorem k86_openM {w : World} {base : Nat} {ok : Nat → Prop} {x : S86} {cs : List Value} (h : k86.M w base ok x cs) : cs = [.int .i64 x.f0, .int .i64 x.f1] := by
 obtain ⟨_, _, rfl, rfl, rfl⟩ := h
 exact rfl
theorem k86_mk (w : World) (x : S86)  : k86.K w x [.int .i64 x.f0, .int .i64 x.f1] := ⟨[.int .i64 x.f0], [.int .i64 x.f1], rfl, rfl, rfl⟩
theorem k86_mkM (w : World) (base : Nat) (ok : Nat → Prop) (x : S86)  : k86.M w base ok x [.int .i64 x.f0, .int .i64 x.f1] := ⟨[.int .i64 x.f0], [.int .i64 x.f1], rfl, rfl, rfl⟩
def rd_T86 (xs : List S86) (i : Int) : S86 := xs.getD i.toNat z86
theorem at_T86 {w : World} {A : Option Addr} {n : Nat} {xs : List S86} (h : Kd.C k86 w A n xs) (i : Int) (h0 : 0 ≤ i) (h1 : i < n) : ∃ ad , A = some ad ∧ w.cell? (ad.add (i.toNat * 2)) = some (.int .i64 (rd_T86 xs i).f0) ∧ w.cell? ⟨(ad.add (i.toNat * 2)).block, (ad.add (i.toNat * 2)).off + 1, none⟩ = some (.int .i64 (rd_T86 xs i).f1) := by
 obtain ⟨ad, c, e, _, hK, hc0⟩ := Kd.C_get h z86 i h0 h1
 have hc : ∀ j u, c[j]? = some u → w.cell? (ad.add (i.toNat * 2 + j)) = some u := hc0
 obtain rfl := k86_open hK
 exact ⟨ad, e, hc 0 _ rfl, by rw [← add_field _ _ 1 (by omega)]; exact hc 1 _ rfl⟩

/-! #### struct type 67 -/
structure S67 where
 f0 : Int
 f1 : Int
def z67 : S67 := ⟨(0 : Int), (0 : Int)⟩
def k67 : Kd S67 := Kd.iso (Kd.pair (Kd.int .i64) (Kd.int .i64)) (fun x : S67 => (x.f0, x.f1))
theorem k67_open {w : World} {x : S67} {cs : List Value} (h : k67.K w x cs) : cs = [.int .i64 x.f0, .int .i64 x.f1] := by
 obtain ⟨_, _, rfl, rfl, rfl⟩ := h
 exact rfl
theorem k67_openM {w : World} {base : Nat} {ok : Nat → Prop} {x : S67} {cs : List Value} (h : k67.M w base ok x cs) : cs = [.int .i64 x.f0, .int .i64 x.f1] := by
 obtain ⟨_, _, rfl, rfl, rfl⟩ := h
 exact rfl
theorem k67_mk (w : World) (x : S67)  : k67.K w x [.int .i64 x.f0, .int .i64 x.f1] := ⟨[.int .i64 x.f0], [.int .i64 x.f1], rfl, rfl, rfl⟩
theorem k67_mkM (w : World) (base : Nat) (ok : Nat → Prop) (x : S67)  : k67.M w base ok x [.int .i64 x.f0, .int .i64 x.f1] := ⟨[.int .i64 x.f0], [.int .i64 x.f1], rfl, rfl, rfl⟩
def rd_T67 (xs : List S67) (i : Int) : S67 := xs.getD i.toNat z67
theorem at_T67 {w : World} {A : Option Addr} {n : Nat} {xs : List S67} (h : Kd.C k67 w A n xs) (i : Int) (h0 : 0 ≤ i) (h1 : i < n) : ∃ ad , A = some ad ∧ w.cell? (ad.add (i.toNat * 2)) = some (.int .i64 (rd_T67 xs i).f0) ∧ w.cell? ⟨(ad.add (i.toNat * 2)).block, (ad.add (i.toNat * 2)).off + 1, none⟩ = some (.int .i64 (rd_T67 xs i).f1) := by
 obtain ⟨ad, c, e, _, hK, hc0⟩ := Kd.C_get h z67 i h0 h1
 have hc : ∀ j u, c[j]? = some u → w.cell? (ad.add (i.toNat * 2 + j)) = some u := hc0
 obtain rfl := k67_open hK
 exact ⟨ad, e, hc 0 _ rfl, by rw [← add_field _ _ 1 (by omega)]; exact hc 1 _ rfl⟩

def rd_L4 (xs : List (List Int)) (i : Int) : (List Int) := xs.getD i.toNat ([] : List Int)
theorem at_L4 {w : World} {A : Option Addr} {n : Nat} {xs : List (List Int)} (h : Kd.C (Kd.slice 3 (Kd.int .i64)) w A n xs) (i : Int) (h0 : 0 ≤ i) (h1 : i < n) : ∃ ad A0 c0, A = some ad ∧ w.cell? (ad.add i.toNat) = some (.slice A0 (rd_L4 xs i).length c0) ∧ (rd_L4 xs i).length ≤ c0 ∧ (Kd.int .i64).C w A0 (rd_L4 xs i).length (rd_L4 xs i) := by
 obtain ⟨ad, c, e, _, hK, hc0⟩ := Kd.C_get h ([] : List Int) i h0 h1
 have hc : ∀ j u, c[j]? = some u → w.cell? (ad.add (i.toNat * 1 + j)) = some u := hc0
 obtain ⟨A0, c0, rfl, l0, g0⟩ := hK
 exact ⟨ad, A0, c0, e, by have hq := hc 0 _ rfl; rwa [Nat.mul_one, Nat.add_zero] at hq, l0, g0⟩

abbrev k0_ := @blk_drewN
abbrev k1_ := @blk_drew
abbrev k2_ := @blk_alloc
end Go.Proofs.Ytnbccfecmpocaaa.QHashValues
