-- Made by wip/myprint.sh (a patched print): a text of this session's own.
import Derived.Test.YtmcdanpecajklaaProg
import Derived.Below
import Derived.Deep.Draws
import Derived.Deep.AppendLies
import Derived.Maps.AppendAt
import Derived.OwnWalk
import Derived.Laws.BytesArg
import Derived.Laws.MakeOwn
import Derived.Laws.OwnMore
import Derived.Deep.OwnRows
import Derived.Tactics
import Derived.Lib.ConvBytes
import Derived.Laws.Slices
import Derived.WalkKit
import Derived.KernelRfl
import Derived.RowKit3
import Derived.Deep.LoopGhost
import Derived.Deep.QuietTactic
import Derived.BigQuiet
import Derived.WideLaws
import Derived.Deep.DeepCutAuto
import Derived.Deep.CutBlock
import Derived.Deep.RegionHeld3
import Derived.Laws.Rows
import Derived.Lib.AppendStr
import Derived.ArgAppend
import Derived.Laws.IdiomCopy
import Derived.OrdersHeld
import Derived.Laws.BitsLemmas
import Derived.RowKit
import Derived.Laws.EntriesVeiled
import Derived.LoopN
import Derived.Laws.CopyOwn
import Derived.Lib.SliceRun
import Derived.RegionTactic
import Derived.ChangeAlike
import Derived.Maps.OwnSet
import Derived.WideKeyPair
import Derived.Deep.RegionLaw
import Derived.Laws.StructEq
import Derived.Deep.CutBlock
import Derived.Deep.DeepCutAuto
import Derived.Maps.OwnSet
import Derived.WalkMore
import Derived.ScopeJumps
import Derived.Deep.RegionHeld3
import Derived.Deep.CutBlock
import Derived.Deep.DeepCutAuto
import Derived.Laws.BitsLemmas
import Derived.WideKeyPair
import Derived.Deep.RegionLaw
import Derived.Laws.CopyOwn
import Derived.Test.YtmcdanpecajklaaVWWords
import Derived.Test.YtmcdanpecajklaaVWLast
import Derived.Test.YtmcdanpecajklaaVWTab
import Derived.Test.YtmcdanpecajklaaVWQPut
import Derived.Test.YtmcdanpecajklaaVWApart
import Derived.Test.YtmcdanpecajklaaVWArr
import Derived.Test.YtmcdanpecajklaaVWZeros
import Derived.Test.YtmcdanpecajklaaVWFoot
import Derived.Test.YtmcdanpecajklaaVWKept
import Derived.Test.YtmcdanpecajklaaVWShare
import Derived.Test.YtmcdanpecajklaaVWN
import Derived.Test.YtmcdanpecajklaaVWFootNe
import Derived.Test.YtmcdanpecajklaaVWRepsOne
import Derived.Test.YtmcdanpecajklaaVWInv
import Derived.Test.YtmcdanpecajklaaVWInvWords
import Derived.Test.YtmcdanpecajklaaVWGuard
import Derived.Test.YtmcdanpecajklaaVWNEv
import Derived.Test.YtmcdanpecajklaaVWMore
namespace Go.Proofs.Ytmcdanpecajklaa.QTernsimValues
open Go.RowKit Go.Proofs.YtmcdanpecajklaaW.PrintWords Go.Proofs.YtmcdanpecajklaaW.PrintLast Go.Proofs.YtmcdanpecajklaaW.PrintMore
attribute [local go_sem] max2_int min2_int max_two min_two max_three min_three max_four min_four   -- for this text's walks alone
set_option linter.unusedVariables false
set_option linter.unusedSimpArgs false
-- slimmed
abbrev a0_ := @Kd.R_alloc
abbrev a1_ := @Kd.R_drewN
abbrev a2_ := @Kd.R_drew
abbrev a3_ := @Kd.V_alloc
abbrev a4_ := @Kd.V_drewN
abbrev a5_ := @Kd.V_drew
abbrev a6_ := @Kd.N_alloc
abbrev a7_ := @Kd.N_drewN
abbrev a8_ := @Kd.N_drew
abbrev b0_ := @below_alloc
abbrev b1_ := @pw_below_drewN
abbrev b2_ := @below_drew1
theorem M_ {p : Prop} (h : p) : Aside0 p := Aside0.mk h
abbrev c0_ := @Kd.C_alloc
abbrev c1_ := @Kd.C_drewN
abbrev c2_ := @Kd.C_drew
theorem e1_ {α : Type _} (l : List α) (i : Nat) (a : α) : l.toArray.setIfInBounds i a = (l.set i a).toArray := List.setIfInBounds_toArray ..
theorem e2_ {α : Type _} (a b : α) (l : List α) : (a :: l).set 0 b = b :: l := rfl
theorem e3_ {α : Type _} (a b : α) (l : List α) (n : Nat) : (a :: l).set (n + 1) b = a :: l.set n b := rfl
abbrev z0_ : Array Bool := #[false, false, false, false, false, false, false, false, false, false, false, false, false]
abbrev z1_ : Array Bool := #[true, false, false, false, false, false, false, false, false, false, false, false, false]
abbrev z2_ : Array Bool := #[true, true, false, false, false, false, false, false, false, false, false, false, false]
abbrev z3_ : Array Bool := #[true, true, true, false, false, false, false, false, false, false, false, false, false]
abbrev z4_ : Array Bool := #[true, true, true, false, false, true, false, false, false, false, false, false, false]
abbrev z5_ : Array Bool := #[true, true, true, false, false, true, true, false, false, false, false, false, false]
abbrev z6_ : Array Bool := #[true, true, true, true, false, true, true, false, false, false, false, false, false]
abbrev z7_ : Array Bool := #[true, true, true, true, false, true, true, true, false, false, false, false, false]
abbrev z8_ : Array Bool := #[true, true, true, true, true, true, true, true, false, false, false, false, false]
abbrev z9_ : Array Bool := #[true, true, true, true, true, true, true, true, true, false, false, false, false]
abbrev z10_ : Array Bool := #[true, true, true, true, true, true, true, true, true, true, false, false, false]
abbrev z11_ : Array Bool := #[true, true, true, true, true, true, true, true, true, true, true, false, false]
abbrev z12_ : Array Bool := #[true, true, true, true, true, true, true, true, true, true, true, true, false]
abbrev z13_ : Array Bool := #[true, true, true, true, true, true, true, true, true, true, true, true, true]
abbrev z14_ : Array Bool := #[false, false, false, false, false, false, false, false, false, false, false, false]
abbrev z15_ : Array Bool := #[true, false, false, false, false, false, false, false, false, false, false, false]
abbrev z16_ : Array Bool := #[true, false, true, false, false, false, false, false, false, false, false, false]
abbrev z17_ : Array Bool := #[true, false, true, false, false, false, true, false, false, false, false, false]
abbrev z18_ : Array Bool := #[true, false, true, false, false, false, true, true, false, false, false, false]
abbrev z19_ : Array Bool := #[true, true, true, false, false, false, true, true, false, false, false, false]
abbrev z20_ : Array Bool := #[true, true, true, true, false, false, true, true, false, false, false, false]
abbrev z21_ : Array Bool := #[true, true, true, true, true, false, true, true, false, false, false, false]
abbrev z22_ : Array Bool := #[true, true, true, true, true, true, true, true, false, false, false, false]
abbrev z23_ : Array Bool := #[true, true, true, true, true, true, true, true, true, false, false, false]
abbrev z24_ : Array Bool := #[true, true, true, true, true, true, true, true, true, true, false, false]
abbrev z25_ : Array Bool := #[true, true, true, true, true, true, true, true, true, true, true, false]
abbrev z26_ : Array Bool := #[true, true, true, true, true, true, true, true, true, true, true, true]
abbrev z27_ : Array Bool := #[true, true, false, false, false, false, false, false, false, false, false, false]
abbrev z28_ : Array Bool := #[true, true, true, false, false, false, false, false, false, false, false, false]
abbrev z29_ : Array Bool := #[true, true, true, false, true, false, false, false, false, false, false, false]
abbrev z30_ : Array Bool := #[true, true, true, true, true, false, false, false, false, false, false, false]
abbrev z31_ : Array Bool := #[true, true, true, true, true, true, false, false, false, false, false, false]
abbrev z32_ : Array Bool := #[true, true, true, true, true, true, true, false, false, false, false, false]



def errW : Option Int → Value
 | none => .nilIface
 | some c => .iface 0 (.int .i64 c)
theorem errW_none : errW none = .nilIface := rfl
theorem errW_some (c : Int) : errW (some c) = .iface 0 (.int .i64 c) := rfl

theorem info3 : (Try.prog.info? 3).map (fun i => (i.zero, i.size, i.bytes)) = some (some (.int .i64 0), 1, 8) := by kernel_rfl
theorem info5 : (Try.prog.info? 5).map (fun i => (i.zero, i.size, i.bytes)) = some (some (.int .u8 0), 1, 1) := by kernel_rfl
theorem info24 : (Try.prog.info? 24).map (fun i => (i.zero, i.size, i.bytes)) = some (some (.slice none 0 0), 1, 24) := by kernel_rfl
theorem info36 : (Try.prog.info? 36).map (fun i => (i.zero, i.size, i.bytes)) = some (some (.agg #[(.int .i64 0), (.int .i64 0)]), 2, 16) := by kernel_rfl
theorem info69 : (Try.prog.info? 69).map (fun i => (i.zero, i.size, i.bytes)) = some (some (.agg #[(.int .i64 0), (.int .i64 0)]), 2, 16) := by kernel_rfl
theorem info70 : (Try.prog.info? 70).map (fun i => (i.zero, i.size, i.bytes)) = some (some (.slice none 0 0), 1, 24) := by kernel_rfl
-- the values' own types
/-! #### struct type 36 -/
structure S36 where
 f0 : Int
 f1 : Int
def z36 : S36 := ⟨(0 : Int), (0 : Int)⟩
def k36 : Kd S36 := Kd.iso (Kd.pair (Kd.int .i64) (Kd.int .i64)) (fun x : S36 => (x.f0, x.f1))
theorem k36_open {w : World} {x : S36} {cs : List Value} (h : k36.K w x cs) : cs = [.int .i64 x.f0, .int .i64 x.f1] := by
 obtain ⟨_, _, rfl, rfl, rfl⟩ := h
 exact rfl
theorem k36_openM {w : World} {base : Nat} {ok : Nat → Prop} {x : S36} {cs : List Value} (h : k36.M w base ok x cs) : cs = [.int .i64 x.f0, .int .i64 x.f1] := by
 obtain ⟨_, _, rfl, rfl, rfl⟩ := h
 exact rfl
theorem k36_mkM (w : World) (base : Nat) (ok : Nat → Prop) (x : S36)  : k36.M w base ok x [.int .i64 x.f0, .int .i64 x.f1] := ⟨[.int .i64 x.f0], [.int .i64 x.f1], rfl, rfl, rfl⟩
def rd_T36 (xs : List S36) (i : Int) : S36 := xs.getD i.toNat z36
theorem at_T36 {w : World} {A : Option Addr} {n : Nat} {xs : List S36} (h : Kd.C k36 w A n xs) (i : Int) (h0 : 0 ≤ i) (h1 : i < n) : ∃ ad , A = some ad ∧ w.cell? (ad.add (i.toNat * 2)) = some (.int .i64 (rd_T36 xs i).f0) ∧ w.cell? ⟨(ad.add (i.toNat * 2)).block, (ad.add (i.toNat * 2)).off + 1, none⟩ = some (.int .i64 (rd_T36 xs i).f1) := by
 obtain ⟨ad, c, e, _, hK, hc0⟩ := Kd.C_get h z36 i h0 h1
 have hc : ∀ j u, c[j]? = some u → w.cell? (ad.add (i.toNat * 2 + j)) = some u := hc0
 obtain rfl := k36_open hK
 exact ⟨ad, e, hc 0 _ rfl, by rw [← add_field _ _ 1 (by omega)]; exact hc 1 _ rfl⟩

/-! #### struct type 69 -/
structure S69 where
 f0 : Int
 f1 : Int
def z69 : S69 := ⟨(0 : Int), (0 : Int)⟩
def k69 : Kd S69 := Kd.iso (Kd.pair (Kd.int .i64) (Kd.int .i64)) (fun x : S69 => (x.f0, x.f1))
theorem k69_open {w : World} {x : S69} {cs : List Value} (h : k69.K w x cs) : cs = [.int .i64 x.f0, .int .i64 x.f1] := by
 obtain ⟨_, _, rfl, rfl, rfl⟩ := h
 exact rfl
theorem k69_mkM (w : World) (base : Nat) (ok : Nat → Prop) (x : S69)  : k69.M w base ok x [.int .i64 x.f0, .int .i64 x.f1] := ⟨[.int .i64 x.f0], [.int .i64 x.f1], rfl, rfl, rfl⟩
def rd_T69 (xs : List S69) (i : Int) : S69 := xs.getD i.toNat z69
theorem at_T69 {w : World} {A : Option Addr} {n : Nat} {xs : List S69} (h : Kd.C k69 w A n xs) (i : Int) (h0 : 0 ≤ i) (h1 : i < n) : ∃ ad , A = some ad ∧ w.cell? (ad.add (i.toNat * 2)) = some (.int .i64 (rd_T69 xs i).f0) ∧ w.cell? ⟨(ad.add (i.toNat * 2)).block, (ad.add (i.toNat * 2)).off + 1, none⟩ = some (.int .i64 (rd_T69 xs i).f1) := by
 obtain ⟨ad, c, e, _, hK, hc0⟩ := Kd.C_get h z69 i h0 h1
 have hc : ∀ j u, c[j]? = some u → w.cell? (ad.add (i.toNat * 2 + j)) = some u := hc0
 obtain rfl := k69_open hK
 exact ⟨ad, e, hc 0 _ rfl, by rw [← add_field _ _ 1 (by omega)]; exact hc 1 _ rfl⟩

def rd_L4 (xs : List (List Int)) (i : Int) : (List Int) := xs.getD i.toNat ([] : List Int)
theorem at_L4 {w : World} {A : Option Addr} {n : Nat} {xs : List (List Int)} (h : Kd.C (Kd.slice 5 (Kd.int .u8)) w A n xs) (i : Int) (h0 : 0 ≤ i) (h1 : i < n) : ∃ ad A0 c0, A = some ad ∧ w.cell? (ad.add i.toNat) = some (.slice A0 (rd_L4 xs i).length c0) ∧ (rd_L4 xs i).length ≤ c0 ∧ (Kd.int .u8).C w A0 (rd_L4 xs i).length (rd_L4 xs i) := by
 obtain ⟨ad, c, e, _, hK, hc0⟩ := Kd.C_get h ([] : List Int) i h0 h1
 have hc : ∀ j u, c[j]? = some u → w.cell? (ad.add (i.toNat * 1 + j)) = some u := hc0
 obtain ⟨A0, c0, rfl, l0, g0⟩ := hK
 exact ⟨ad, A0, c0, e, by have hq := hc 0 _ rfl; rwa [Nat.mul_one, Nat.add_zero] at hq, l0, g0⟩

def rd_L5 (xs : List (List Int)) (i : Int) : (List Int) := xs.getD i.toNat ([] : List Int)
theorem at_L5 {w : World} {A : Option Addr} {n : Nat} {xs : List (List Int)} (h : Kd.C (Kd.slice 3 (Kd.int .i64)) w A n xs) (i : Int) (h0 : 0 ≤ i) (h1 : i < n) : ∃ ad A0 c0, A = some ad ∧ w.cell? (ad.add i.toNat) = some (.slice A0 (rd_L5 xs i).length c0) ∧ (rd_L5 xs i).length ≤ c0 ∧ (Kd.int .i64).C w A0 (rd_L5 xs i).length (rd_L5 xs i) := by
 obtain ⟨ad, c, e, _, hK, hc0⟩ := Kd.C_get h ([] : List Int) i h0 h1
 have hc : ∀ j u, c[j]? = some u → w.cell? (ad.add (i.toNat * 1 + j)) = some u := hc0
 obtain ⟨A0, c0, rfl, l0, g0⟩ := hK
 exact ⟨ad, A0, c0, e, by have hq := hc 0 _ rfl; rwa [Nat.mul_one, Nat.add_zero] at hq, l0, g0⟩

abbrev k0_ := @blk_drewN
abbrev k1_ := @blk_drew
abbrev k2_ := @blk_alloc
end Go.Proofs.Ytmcdanpecajklaa.QTernsimValues
