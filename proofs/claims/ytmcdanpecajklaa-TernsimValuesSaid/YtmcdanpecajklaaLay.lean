-- Layers of a world by instances: what alloc and draws leave as it was. A text of this session's own.
import Derived.Test.YtmcdanpecajklaaVWWords
import Derived.Test.YtmcdanpecajklaaVWMore
import Derived.Test.YtmcdanpecajklaaVWLast
namespace Go.Proofs.YtmcdanpecajklaaW.PrintWords
open Go.RowKit
class Lay (W W' : World) : Prop where
  below : Below W.heap.size W W'
instance Lay.refl (W : World) : Lay W W := ⟨Below.refl _ _⟩
instance Lay.alloc (W W' : World) (o : Obj) [h : Lay W W'] : Lay W (W'.alloc o) := ⟨below_alloc h.below o⟩
instance Lay.drew (W W' : World) [h : Lay W W'] : Lay W W'.drew := ⟨below_drew h.below⟩
instance Lay.drewN (W W' : World) (n : Nat) [h : Lay W W'] : Lay W (W'.drewN n) := ⟨pw_below_drewN h.below n⟩
theorem rl_ {α : Type} {d : Kd α} {e base : Nat} {ok : Nat → Prop} {v : Value} {xs : List α} {W W' : World} (h : d.R e W base ok v xs) [k : Lay W W'] : d.R e W' base ok v xs := Kd.R_below h k.below
theorem bl_ {W W' : World} {g : Nat} {o : Obj} (h : W.heap[g]? = some o) [k : Lay W W'] : W'.heap[g]? = some o := blk_below h k.below
theorem wl_ {w W W' : World} (h : Below w.heap.size w W) [k : Lay W W'] : Below w.heap.size w W' := below_step h k.below
theorem cl_ {α : Type} {d : Kd α} {W W' : World} {A : Option Addr} {n : Nat} {xs : List α} (h : d.C W A n xs) [k : Lay W W'] : d.C W' A n xs := Kd.C_below h k.below
theorem rb_ {α : Type} {d : Kd α} {e base : Nat} {ok : Nat → Prop} {v : Value} {xs : List α} {W W' w2 : World} (h : Aside0 (d.R e W base ok v xs)) (hb : Below W'.heap.size W' w2) [k : Lay W W'] : Aside0 (d.R e w2 base ok v xs) := ⟨Kd.R_below (Kd.R_below h.out k.below) hb⟩
theorem bb_ {W W' w2 : World} {g : Nat} {o : Obj} (h : Aside0 (W.heap[g]? = some o)) (hb : Below W'.heap.size W' w2) [k : Lay W W'] : Aside0 (w2.heap[g]? = some o) := ⟨blk_below (blk_below h.out k.below) hb⟩
class Ge (a b : Nat) : Prop where
  le : a ≤ b
class LayS (w W W' : World) : Prop where
  go : Below w.heap.size w W → Below w.heap.size w W'
instance LayS.refl (w W : World) : LayS w W W := ⟨fun h => h⟩
instance LayS.alloc (w W W' : World) (o : Obj) [h : LayS w W W'] : LayS w W (W'.alloc o) := ⟨fun k => below_alloc (h.go k) o⟩
instance LayS.drew (w W W' : World) [h : LayS w W W'] : LayS w W W'.drew := ⟨fun k => below_drew (h.go k)⟩
instance LayS.drewN (w W W' : World) (n : Nat) [h : LayS w W W'] : LayS w W (W'.drewN n) := ⟨fun k => pw_below_drewN (h.go k) n⟩
instance LayS.set (w W W' : World) (g i : Nat) (v : Value) [q : Ge w.heap.size g] [h : LayS w W W'] : LayS w W (W'.setCell ⟨g, i, none⟩ v) := ⟨fun k => below_set (h.go k) q.le⟩
theorem ws_ {w W W' : World} (h : Below w.heap.size w W) [k : LayS w W W'] : Below w.heap.size w W' := k.go h
theorem wb_ {w W W' w2 : World} (h : Aside0 (Below w.heap.size w W)) (hb : Below W'.heap.size W' w2) [k : LayS w W W'] : Aside0 (Below w.heap.size w w2) := ⟨below_step (k.go h.out) hb⟩
section
variable {W : World} {g : Nat} {t : TypeId} {a b c d e f h i j k l m : Value}
theorem cz2_ (z : W.heap[g]? = some (.cells #[a, b] t (0, 0))) : W.cell? ⟨g, 0, none⟩ = some a ∧ W.cell? ⟨g, 1, none⟩ = some b := ⟨(blk_cell z 0).trans rfl, (blk_cell z 1).trans rfl⟩
theorem fz2_ {o : Array Value} (z : W.heap[g]? = some (.cells o t (0, 0))) : W.frozen? ⟨g, 0, none⟩ = false ∧ W.frozen? ⟨g, 1, none⟩ = false := ⟨blk_frozen z 0, blk_frozen z 1⟩
theorem cz5_ (z : W.heap[g]? = some (.cells #[a, b, c, d, e] t (0, 0))) : W.cell? ⟨g, 0, none⟩ = some a ∧ W.cell? ⟨g, 1, none⟩ = some b ∧ W.cell? ⟨g, 2, none⟩ = some c ∧ W.cell? ⟨g, 3, none⟩ = some d ∧ W.cell? ⟨g, 4, none⟩ = some e := ⟨(blk_cell z 0).trans rfl, (blk_cell z 1).trans rfl, (blk_cell z 2).trans rfl, (blk_cell z 3).trans rfl, (blk_cell z 4).trans rfl⟩
theorem fz5_ {o : Array Value} (z : W.heap[g]? = some (.cells o t (0, 0))) : W.frozen? ⟨g, 0, none⟩ = false ∧ W.frozen? ⟨g, 1, none⟩ = false ∧ W.frozen? ⟨g, 2, none⟩ = false ∧ W.frozen? ⟨g, 3, none⟩ = false ∧ W.frozen? ⟨g, 4, none⟩ = false := ⟨blk_frozen z 0, blk_frozen z 1, blk_frozen z 2, blk_frozen z 3, blk_frozen z 4⟩
theorem cz12_ (z : W.heap[g]? = some (.cells #[a, b, c, d, e, f, h, i, j, k, l, m] t (0, 0))) : W.cell? ⟨g, 0, none⟩ = some a ∧ W.cell? ⟨g, 1, none⟩ = some b ∧ W.cell? ⟨g, 2, none⟩ = some c ∧ W.cell? ⟨g, 3, none⟩ = some d ∧ W.cell? ⟨g, 4, none⟩ = some e ∧ W.cell? ⟨g, 5, none⟩ = some f ∧ W.cell? ⟨g, 6, none⟩ = some h ∧ W.cell? ⟨g, 7, none⟩ = some i ∧ W.cell? ⟨g, 8, none⟩ = some j ∧ W.cell? ⟨g, 9, none⟩ = some k ∧ W.cell? ⟨g, 10, none⟩ = some l ∧ W.cell? ⟨g, 11, none⟩ = some m := ⟨(blk_cell z 0).trans rfl, (blk_cell z 1).trans rfl, (blk_cell z 2).trans rfl, (blk_cell z 3).trans rfl, (blk_cell z 4).trans rfl, (blk_cell z 5).trans rfl, (blk_cell z 6).trans rfl, (blk_cell z 7).trans rfl, (blk_cell z 8).trans rfl, (blk_cell z 9).trans rfl, (blk_cell z 10).trans rfl, (blk_cell z 11).trans rfl⟩
theorem fz12_ {o : Array Value} (z : W.heap[g]? = some (.cells o t (0, 0))) : W.frozen? ⟨g, 0, none⟩ = false ∧ W.frozen? ⟨g, 1, none⟩ = false ∧ W.frozen? ⟨g, 2, none⟩ = false ∧ W.frozen? ⟨g, 3, none⟩ = false ∧ W.frozen? ⟨g, 4, none⟩ = false ∧ W.frozen? ⟨g, 5, none⟩ = false ∧ W.frozen? ⟨g, 6, none⟩ = false ∧ W.frozen? ⟨g, 7, none⟩ = false ∧ W.frozen? ⟨g, 8, none⟩ = false ∧ W.frozen? ⟨g, 9, none⟩ = false ∧ W.frozen? ⟨g, 10, none⟩ = false ∧ W.frozen? ⟨g, 11, none⟩ = false := ⟨blk_frozen z 0, blk_frozen z 1, blk_frozen z 2, blk_frozen z 3, blk_frozen z 4, blk_frozen z 5, blk_frozen z 6, blk_frozen z 7, blk_frozen z 8, blk_frozen z 9, blk_frozen z 10, blk_frozen z 11⟩
end
end Go.Proofs.YtmcdanpecajklaaW.PrintWords
