-- Made by wip/myprint.sh (a patched print): a text of this session's own.
import Derived.Test.YtmcdanpecajklaaQTernsimValuesx0
import Derived.Test.YtmcdanpecajklaaQTernsimValuesx7
namespace Go.Proofs.Ytmcdanpecajklaa.QTernsimValues
open Go.RowKit Go.Proofs.YtmcdanpecajklaaW.PrintWords Go.Proofs.YtmcdanpecajklaaW.PrintLast Go.Proofs.YtmcdanpecajklaaW.PrintMore
attribute [local go_sem] max2_int min2_int max_two min_two max_three min_three max_four min_four
set_option linter.unusedVariables false
set_option linter.unusedSimpArgs false

-- hash_begin.dep
def ternsim_builder_and.dep : Nat := 0
/-! the map of the gates of a predicate, by their parts -/
theorem deepF : WideMaps.KeyLaw Try.prog 69 := deep_law (m := 2) (by omega) (by kernel_rfl) (by kernel_rfl) (by rw [Try.underlying69])
theorem lawF : Go.Maps.Keyed Try.prog 69 := Go.Maps.Keyed.of_law deepF
theorem zeroF (w : World) : (zeroValue 3).run Try.prog w = .ok (.int .i64 0) w := by kernel_rfl
theorem ktF : Try.prog.keyType 69 = true := by kernel_rfl
theorem cellsF : Try.prog.cellsOf 69 = 2 := by kernel_rfl
theorem cellsI : Try.prog.cellsOf 3 = 1 := by kernel_rfl
theorem kf_of {x y : Int} (wx : (Lit.int .i64 x).wf = true) (wy : (Lit.int .i64 y).wf = true) : keyOf Try.prog 69 (.agg #[.int .i64 x, .int .i64 y]) = some (kx x y) := by
 obtain ⟨m, hm⟩ : ∃ m, Try.prog.types.size = m + 1 := ⟨Try.prog.types.size - 1, by kernel_rfl⟩
 unfold keyOf
 simp only [Try.underlying69]
 rw [if_pos (by simp [ktF, Value.formed, Try.underlying69, cellsF]), hm]
 unfold Program.keyLits
 simp only [Try.underlying69, Value.cells]
 rw [if_pos (by rw [cellsF]; exact ⟨rfl, by kernel_rfl⟩)]
 simp [cellsI, Program.keyLits, Try.underlying3, wx, wy, kx]
theorem kf_key {x y : Int} (wx : (Lit.int .i64 x).wf = true) (wy : (Lit.int .i64 y).wf = true) : WideAt.IsKeyLit (kx x y) := lawF.key (kf_of wx wy)
theorem kf_inj {x y x' y' : Int} (wx : (Lit.int .i64 x).wf = true) (wy : (Lit.int .i64 y).wf = true) (wx' : (Lit.int .i64 x').wf = true) (wy' : (Lit.int .i64 y').wf = true) (h : kx x y = kx x' y') : x = x' ∧ y = y' := by
 have := lawF.inj (kf_of wx wy) (h ▸ kf_of wx' wy')
 simpa using this
def KnownF (W : World) (b n : Nat) (f : Int → Int → Option Int) : Prop :=
 ∃ D : DataW Unit, W.ownsMap Try.prog 69 (plainElem Try.prog 3) b n D ∧ ∀ x y : Int, (Lit.int .i64 x).wf = true → (Lit.int .i64 y).wf = true → Go.Maps.has D (kx x y) = (f x y).isSome ∧ ∀ v, f x y = some v → D.atKey (kx x y) (.lit (.int .i64 0)) = .lit (.int .i64 v)
theorem KnownF.made (W : World) : KnownF (W.alloc (.map #[] 0)) W.heap.size 0 (fun _ _ => none) :=
 ⟨.map [], World.ownsMap_made _ _ _ _, fun _ _ _ _ => ⟨rfl, fun _ h => by cases h⟩⟩
theorem KnownF.kept {W W' : World} {b n : Nat} {f : Int → Int → Option Int} {row : Option Nat} (h : KnownF W b n f) (hg : W.grownBy W' row) (hne : some b ≠ row) : KnownF W' b n f := by
 obtain ⟨D, h1, h2⟩ := h
 exact ⟨D, h1.kept hg hne, h2⟩
theorem KnownF.keep {W W' : World} {b n : Nat} {f : Int → Int → Option Int} (h : KnownF W b n f) (hk : W'.heap[b]? = W.heap[b]?) : KnownF W' b n f := by
 obtain ⟨D, ⟨es, cl, h1, h3⟩, h2⟩ := h
 exact ⟨D, ⟨es, cl, hk.trans h1, h3⟩, h2⟩
theorem KnownF.lt {W : World} {b n : Nat} {f : Int → Int → Option Int} (h : KnownF W b n f) : b < W.heap.size := by
 obtain ⟨D, h1, -⟩ := h
 exact h1.lt
theorem KnownF.below {W W' : World} {b n : Nat} {f : Int → Int → Option Int} (h : KnownF W b n f) (hb : Below W.heap.size W W') : KnownF W' b n f := h.keep (hb.block b h.lt)
theorem KnownF.blk {W : World} {b n : Nat} {f : Int → Int → Option Int} (h : KnownF W b n f) : ∃ es cl, W.heap[b]? = some (.map es cl) := by
 obtain ⟨D, ⟨es, cl, h1, -⟩, -⟩ := h
 exact ⟨es, cl, h1⟩
theorem KnownF.look {W : World} {b n : Nat} {f : Int → Int → Option Int} (h : KnownF W b n f) {x y : Int} (wx : (Lit.int .i64 x).wf = true) (wy : (Lit.int .i64 y).wf = true) :
  (Instr.lookup 130 (.map (some b)) (.agg #[.int .i64 x, .int .i64 y]) true).run Try.prog W = .ok (.tuple #[.int .i64 ((f x y).getD 0), .bool (f x y).isSome]) W := by
 obtain ⟨D, h1, h2⟩ := h
 obtain ⟨v, ps, hrun, hv⟩ := h1.look_ok (e := 3) lawF Try.underlying130 (zeroF W) (plainElem_int (H := Unit) Try.underlying3 (show (Lit.int .i64 0).wf = true by decide)) (kf_of wx wy)
 obtain ⟨c, rfl, hc, _⟩ := plainElem_int_inv Try.underlying3 hv
 obtain ⟨g1, g2⟩ := h2 x y wx wy
 have hc1 : D.atKey (kx x y) (.lit (.int .i64 0)) = .lit (.int .i64 c) := congrArg Prod.fst hc
 rw [hrun, g1]
 cases e : f x y with
 | none =>
  rw [e] at g1
  rw [Go.Maps.atKey_of_not_has g1] at hc1
  have hc2 : (0 : Int) = c := lit_inj hc1
  rw [← hc2]
  rfl
 | some u =>
  rw [g2 u e] at hc1
  have hc2 : u = c := lit_inj hc1
  rw [← hc2]
  rfl
theorem KnownF.store {W : World} {b n : Nat} {f : Int → Int → Option Int} (h : KnownF W b n f) (hn : n < 1000000000) {x y v : Int} (wx : (Lit.int .i64 x).wf = true) (wy : (Lit.int .i64 y).wf = true) (wv : (Lit.int .i64 v).wf = true) :
  ∃ es cl, (Instr.mapUpdate 130 (.map (some b)) (.agg #[.int .i64 x, .int .i64 y]) (.int .i64 v)).run Try.prog W = .ok () (Go.ChangeMaps.setBlock W b (.map es cl)) ∧ KnownF (Go.ChangeMaps.setBlock W b (.map es cl)) b (n + 1) (fun x' y' => if x' = x ∧ y' = y then some v else f x' y') := by
 obtain ⟨D, h1, h2⟩ := h
 obtain ⟨w', hrun, h3, es0, c0, es, cl, hb0, rfl⟩ := h1.store (e := 3) lawF Try.underlying130 (by unfold maxLen; omega) (kf_of wx wy) (plainElem_int (H := Unit) Try.underlying3 wv)
 refine ⟨es, cl, hrun, _, h3, fun x' y' wx' wy' => ?_⟩
 by_cases c : x' = x ∧ y' = y
 ·obtain ⟨rfl, rfl⟩ := c
  dsimp only
  rw [if_pos ⟨rfl, rfl⟩]
  refine ⟨Go.Maps.has_put_same h1.isMap (kf_key wx' wy') _, fun u hu => ?_⟩
  rw [← Option.some.inj hu]
  exact Go.Maps.atKey_put_same h1.isMap (kf_key wx' wy') _ _
 ·dsimp only
  rw [if_neg c]
  have hne : kx x' y' ≠ kx x y := fun e => c (kf_inj wx' wy' wx wy e)
  obtain ⟨g1, g2⟩ := h2 x' y' wx' wy'
  exact ⟨(Go.Maps.has_put_other hne _).trans g1, fun u hu => (Go.Maps.atKey_put_other hne _ _).trans (g2 u hu)⟩
structure StG (w W : World) (bb bm : Nat) (lat : Int) (gs : List S69) (lit : Int) (n : Nat) (f : Int → Int → Option Int) : Prop where
 hb : Below w.heap.size w W
 lb : w.heap.size ≤ bb
 lm : w.heap.size ≤ bm
 blk : ∃ vA, W.heap[bb]? = some (.cells #[.int .i64 lat, vA, .int .i64 lit, .map (some bm)] 132 (0, 0)) ∧ Kd.R k69 69 W w.heap.size (fun _ => True) vA gs
 known : KnownF W bm n f
abbrev StF (w W : World) (bb bm : Nat) (lat : Int) (gs : List S69) (lit : Int) : Prop := StG w W bb bm lat gs lit gs.length (findG (lat + 1) gs)
def KeepF (bm : Nat) (W W' : World) : Prop := W.heap.size ≤ W'.heap.size ∧ ∀ (k : Nat) (cs : Array Value) (t : TypeId) (fr : Nat × Nat), W.heap[k]? = some (.cells cs t fr) → t ≠ 132 → t ≠ 69 → W'.heap[k]? = some (.cells cs t fr)
section
variable {w W W' : World} {bb bm : Nat} {lat lit : Int} {gs gs' : List S69} {n : Nat} {f : Int → Int → Option Int}
theorem KeepF.trans {W W' W2 : World} (h : KeepF bm W W') (h' : KeepF bm W' W2) : KeepF bm W W2 := ⟨Nat.le_trans h.1 h'.1, fun k cs t fr e a b => h'.2 k cs t fr (h.2 k cs t fr e a b) a b⟩
theorem KeepF.below {W W' : World} (h : Below W.heap.size W W') : KeepF bm W W' := ⟨h.size, fun k cs t fr e _ _ => (h.block k (Array.getElem?_eq_some_iff.1 e).1).trans e⟩
theorem KeepF.blk {W W' : World} {k t : Nat} {cs : Array Value} (h : KeepF bm W W') (hb : W.heap[k]? = some (.cells cs t (0, 0))) (a : t ≠ 132) (b : t ≠ 69) : W'.heap[k]? = some (.cells cs t (0, 0)) := h.2 k cs t (0, 0) hb a b
theorem KeepF.set {W : World} {b i : Nat} {cs : Array Value} (h : W.heap[b]? = some (.cells cs 132 (0, 0))) (v : Value) : KeepF bm W (W.setCell ⟨b, i, none⟩ v) := by
 refine ⟨by simp, fun k cs' t fr e a _ => ?_⟩
 have hne : k ≠ b := by
  rintro rfl
  rw [h] at e
  injection e with e
  injection e with _ e
  exact a e.symm
 exact (Below.heap_setCell W _ v k hne).trans e
theorem KeepF.grown {W W' : World} {row : Option Nat} (hg : W.grownBy W' row) (hr : ∀ k, row = some k → ∃ cs, W.heap[k]? = some (.cells cs 69 (0, 0))) : KeepF bm W W' := by
 refine ⟨hg.size, fun k cs' t fr e _ b => (hg.block k (Array.getElem?_eq_some_iff.1 e).1 ?_).trans e⟩
 intro hk
 obtain ⟨cs, hc⟩ := hr k hk.symm
 rw [hc] at e
 injection e with e
 injection e with _ e
 exact b e.symm
theorem KeepF.map {W : World} {b : Nat} {es : Array MapEntry} {c : Nat} (h : W.heap[b]? = some (.map es c)) (o : Obj) : KeepF bm W (Go.ChangeMaps.setBlock W b o) := by
 refine ⟨by simp [Go.ChangeMaps.setBlock], fun k cs' t fr e _ _ => (Go.ChangeMaps.heap_setBlock_other h o ?_).trans e⟩
 rintro rfl
 rw [h] at e
 cases e
theorem StG.below (h : StG w W bb bm lat gs lit n f) (hb : Below W.heap.size W W') : StG w W' bb bm lat gs lit n f := by
 obtain ⟨h0, h1, h2, ⟨vA, h3, h5⟩, h8⟩ := h
 exact ⟨below_step h0 hb, h1, h2, ⟨vA, blk_below h3 hb, Kd.R_below h5 hb⟩, h8.below hb⟩
theorem StG.cells (h : StG w W bb bm lat gs lit n f) : ∃ AA cA, W.heap[bb]? = some (.cells #[.int .i64 lat, .slice AA gs.length cA, .int .i64 lit, .map (some bm)] 132 (0, 0)) ∧ Kd.R k69 69 W w.heap.size (fun _ => True) (.slice AA gs.length cA) gs := by
 obtain ⟨vA, h3, h5⟩ := h.blk
 obtain ⟨AA, cA, rfl⟩ := Kd.R_slice h5
 exact ⟨AA, cA, h3, h5⟩
theorem StG.push {X w1 : World} (h : StG w X bb bm lat gs lit n f) {vA v1 : Value} {AA : Option Addr} {cA : Nat} (hv : vA = .slice AA gs.length cA) (hc2 : X.cell? ⟨bb, 1, none⟩ = some vA) (hb1 : Below w.heap.size w w1) (hg : X.grownBy w1 vA.ownBlock)
  (hr : Kd.R k69 69 w1 w.heap.size (fun _ => True) v1 gs') :
  StG w (w1.setCell ⟨bb, 1, none⟩ v1) bb bm lat gs' lit n f ∧ KeepF bm X (w1.setCell ⟨bb, 1, none⟩ v1) ∧ ∃ cs, w1.heap[bb]? = some (.cells cs 132 (0, 0)) ∧ (cs[1]?).isSome = true := by
 obtain ⟨h0, l1, l2, ⟨vA', h3, h5⟩, h8⟩ := h
 have e2 : vA' = vA := by
  have := (blk_cell h3 1).symm.trans hc2
  simpa using this
 subst e2
 have hrow : ∀ k, vA'.ownBlock = some k → ∃ cs, X.heap[k]? = some (.cells cs 69 (0, 0)) := Kd.R_typed h5
 have hne : some bb ≠ vA'.ownBlock := fun e => by
  obtain ⟨cs, hc⟩ := hrow bb e.symm
  rw [hc] at h3
  injection h3 with h3
  injection h3 with _ h3
  exact absurd h3 (by decide)
 have hb3 := blk_grown h3 hg hne
 have hme : some bm ≠ vA'.ownBlock := fun e => by
  obtain ⟨cs, hc⟩ := hrow bm e.symm
  obtain ⟨es, cl, hm⟩ := h8.blk
  rw [hc] at hm
  cases hm
 refine ⟨⟨hb1.setCell l1 _, l1, l2, ⟨v1, ?_, Kd.R_set hr hb3 (by decide) 1 _⟩, ?_⟩, (KeepF.grown hg hrow).trans (KeepF.set hb3 v1), _, hb3, rfl⟩
 ·have := blk_set hb3 1 v1
  simpa using this
 ·refine (h8.kept hg hme).keep (Below.heap_setCell _ _ _ _ ?_)
  rintro rfl
  obtain ⟨es, cl, hm⟩ := (h8.kept hg hme).blk
  rw [hm] at hb3
  cases hb3
theorem StG.put {Y : World} (h : StG w Y bb bm lat gs lit n f) (hn : n < 1000000000) {x y v : Int} (wx : (Lit.int .i64 x).wf = true) (wy : (Lit.int .i64 y).wf = true) (wv : (Lit.int .i64 v).wf = true) :
  ∃ es cl, (Instr.mapUpdate 130 (.map (some bm)) (.agg #[.int .i64 x, .int .i64 y]) (.int .i64 v)).run Try.prog Y = .ok () (Go.ChangeMaps.setBlock Y bm (.map es cl)) ∧ StG w (Go.ChangeMaps.setBlock Y bm (.map es cl)) bb bm lat gs lit (n + 1) (fun x' y' => if x' = x ∧ y' = y then some v else f x' y') ∧ KeepF bm Y (Go.ChangeMaps.setBlock Y bm (.map es cl)) := by
 obtain ⟨h0, l1, l2, ⟨vA, h3, h5⟩, h8⟩ := h
 obtain ⟨es0, cl0, hm⟩ := h8.blk
 obtain ⟨es, cl, hrun, h9⟩ := h8.store hn wx wy wv
 have ot : ∀ {k : Nat} {cs : Array Value} {t : TypeId} {fr : Nat × Nat}, Y.heap[k]? = some (.cells cs t fr) → (Go.ChangeMaps.setBlock Y bm (.map es cl)).heap[k]? = Y.heap[k]? := fun hk => Go.ChangeMaps.heap_setBlock_other hm _ (by rintro rfl; rw [hm] at hk; cases hk)
 have mv : ∀ {α : Type} {d : Kd α} {e : Nat} {ok : Nat → Prop} {u : Value} {xs : List α}, d.R e Y w.heap.size ok u xs → d.R e (Go.ChangeMaps.setBlock Y bm (.map es cl)) w.heap.size ok u xs := fun hR => Kd.R_mono (Kd.R_move (Kd.R_bound hR) (fun k hk => by
  obtain ⟨_, _, _, q, _, cells, hc⟩ := hk
  exact ot hc)) (fun _ hk => hk.1)
 refine ⟨es, cl, hrun, ⟨?_, l1, l2, ⟨vA, (ot h3).trans h3, mv h5⟩, h9⟩, KeepF.map hm _⟩
 refine ⟨h0.os, h0.tape, h0.output, by simpa [Go.ChangeMaps.setBlock] using h0.size, fun i hi => ?_⟩
 exact (Go.ChangeMaps.heap_setBlock_other hm _ (by omega)).trans (h0.block i hi)
end
theorem fpushed {w1 : World} {bb t : Nat} (h : ∃ cs, w1.heap[bb]? = some (.cells cs t (0, 0)) ∧ (cs[1]?).isSome = true) : ∃ u, w1.cell? ⟨bb, 1, none⟩ = some u := by
 obtain ⟨cs, h1, h2⟩ := h
 rw [blk_cell h1 1]
 exact Option.isSome_iff_exists.1 h2
theorem fpushed2 {w1 : World} {bb t : Nat} (h : ∃ cs, w1.heap[bb]? = some (.cells cs t (0, 0)) ∧ (cs[1]?).isSome = true) : w1.frozen? ⟨bb, 1, none⟩ = false := by
 obtain ⟨cs, h1, h2⟩ := h
 exact blk_frozen h1 1
theorem KnownF.up {W : World} {b n m : Nat} {f : Int → Int → Option Int} (h : KnownF W b n f) (hm : n ≤ m) : KnownF W b m f := by
 obtain ⟨D, h1, h2⟩ := h
 exact ⟨D, h1.mono hm, h2⟩
set_option maxHeartbeats 4000000 in
set_option maxRecDepth 100000 in
theorem fand_simple {W : World} {bb : Nat} {lat : Int} {gs : List S69} (x y : Int) (hc : x = 0 ∨ y = 0 ∨ x = Go.bits .xor .i64 y 1 ∨ x = 1 ∨ x = y ∨ y = 1) :
  Calls Try.prog 112 #[.pointer (some ⟨bb, 0, none⟩), .int .i64 x, .int .i64 y] W fun e W' => e = .returned (.int .i64 (andP (lat + 1) gs x y).2) ∧ (andP (lat + 1) gs x y).1 = gs ∧ Below W.heap.size W W' := by
 unfold andP
 by_cases c1 : x = 0
 ·rw [if_pos (Or.inl c1)]
  have b1 := beqT c1
  clear hc c1
  go_enter Try.func112, Try.ntmps112
  go_wp2
  go_ret
  exact ⟨by simp, by simp, Below.refl _ _⟩
 have b1 := beqF c1
 by_cases c2 : y = 0
 ·rw [if_pos (Or.inr (Or.inl c2))]
  have b2 := beqT c2
  clear hc c1 c2
  go_enter Try.func112, Try.ntmps112
  go_wp2
  go_ret
  exact ⟨by simp, by simp, Below.refl _ _⟩
 have b2 := beqF c2
 by_cases c3 : x = Go.bits .xor .i64 y 1
 ·rw [if_pos (Or.inr (Or.inr c3))]
  have b3 := beqT c3
  clear hc c1 c2 c3
  go_enter Try.func112, Try.ntmps112
  go_wp2
  go_ret
  exact ⟨by simp, by simp, Below.refl _ _⟩
 have b3 := beqF c3
 rw [if_neg (by rintro (h | h | h) <;> contradiction)]
 by_cases c4 : x = 1
 ·rw [if_pos (Or.inl c4)]
  have b4 := beqT c4
  clear hc c1 c2 c3 c4
  go_enter Try.func112, Try.ntmps112
  go_wp2
  go_ret
  exact ⟨by simp, by simp, Below.refl _ _⟩
 have b4 := beqF c4
 by_cases c5 : x = y
 ·rw [if_pos (Or.inr c5)]
  have b5 := beqT c5
  clear hc c1 c2 c3 c4 c5
  go_enter Try.func112, Try.ntmps112
  go_wp2
  go_ret
  exact ⟨by simp, by simp, Below.refl _ _⟩
 have b5 := beqF c5
 rw [if_neg (by rintro (h | h) <;> contradiction)]
 by_cases c6 : y = 1
 ·rw [if_pos c6]
  have b6 := beqT c6
  clear hc c1 c2 c3 c4 c5 c6
  go_enter Try.func112, Try.ntmps112
  go_wp2
  go_ret
  exact ⟨by simp, by simp, Below.refl _ _⟩
 ·rcases hc with h | h | h | h | h | h <;> contradiction

theorem look_boxF {w W : World} {bb bm : Nat} {lat lit : Int} {gs : List S69} (h : StF w W bb bm lat gs lit) {x y : Int} (wx : (Lit.int .i64 x).wf = true) (wy : (Lit.int .i64 y).wf = true) (W' : World) (hb : Below W.heap.size W W') :
  (Instr.lookup 130 (.map (some bm)) (.agg #[.int .i64 x, .int .i64 y]) true).run Try.prog W' = .ok (.tuple #[.int .i64 ((findG (lat + 1) gs x y).getD 0), .bool (findG (lat + 1) gs x y).isSome]) W' := (h.known.below hb).look wx wy
set_option maxHeartbeats 4000000 in
set_option maxRecDepth 100000 in
theorem fand_found {w W : World} {bb bm : Nat} {lat lit : Int} {gs : List S69} (h : StF w W bb bm lat gs lit) (x y p q : Int) (hp : mx x y = p) (hq : mn x y = q) (hc : ¬ (x = 0 ∨ y = 0 ∨ x = Go.bits .xor .i64 y 1 ∨ x = 1 ∨ x = y ∨ y = 1)) (wx : (Lit.int .i64 p).wf = true) (wy : (Lit.int .i64 q).wf = true) (v : Int) (hv : findG (lat + 1) gs p q = some v) :
  Calls Try.prog 112 #[.pointer (some ⟨bb, 0, none⟩), .int .i64 x, .int .i64 y] W fun e W' => e = .returned (.int .i64 v) ∧ Below W.heap.size W W' := by
 obtain ⟨AA, cA, h3, h5⟩ := h.cells
 have b1 := beqF (fun e => hc (Or.inl e) : ¬ x = 0)
 have b2 := beqF (fun e => hc (Or.inr (Or.inl e)) : ¬ y = 0)
 have b3 := beqF (fun e => hc (Or.inr (Or.inr (Or.inl e))) : ¬ x = Go.bits .xor .i64 y 1)
 have b4 := beqF (fun e => hc (Or.inr (Or.inr (Or.inr (Or.inl e)))) : ¬ x = 1)
 have b5 := beqF (fun e => hc (Or.inr (Or.inr (Or.inr (Or.inr (Or.inl e))))) : ¬ x = y)
 have b6 := beqF (fun e => hc (Or.inr (Or.inr (Or.inr (Or.inr (Or.inr e))))) : ¬ y = 1)
 have ep : (if x < y then y else x) = p := hp
 have eq : (if y < x then y else x) = q := hq
 have hz5 := alloc_cell h3 (.cells #[.int .i64 p, .int .i64 q] 69) (i := 3) (.map (some bm)) rfl
 have hl := fun (m : Nat) => look_boxF h wx wy ((W.alloc (.cells #[.int .i64 p, .int .i64 q] 69)).drewN m) (pw_below_drewN (below_alloc (Below.refl _ _) _) m)
 rw [hv] at hl
 simp only [Option.getD_some, Option.isSome_some] at hl
 have hu0 := Try.underlying132
 have hu1 := Try.underlying44
 have hu2 := Try.underlying69
 clear h h3 h5 hc hv wx wy hp hq
 go_enter Try.func112, Try.ntmps112
 go_wp2
 go_quiet (fail)
 go_wp2
 go_ret
 exact ⟨by simp, by first | exact pw_below_drewN (below_alloc (Below.refl _ _) _) _⟩
set_option maxHeartbeats 8000000 in
set_option maxRecDepth 100000 in
theorem fand_new {w W : World} {bb bm : Nat} {lat lit : Int} {gs : List S69} (h : StF w W bb bm lat gs lit) (f0 : 0 ≤ lat) (f1 : lat ≤ 1000000) (f3 : gs.length ≤ 1000000) (x y p q : Int) (hp : mx x y = p) (hq : mn x y = q) (hc : ¬ (x = 0 ∨ y = 0 ∨ x = Go.bits .xor .i64 y 1 ∨ x = 1 ∨ x = y ∨ y = 1)) (wx : (Lit.int .i64 p).wf = true) (wy : (Lit.int .i64 q).wf = true) (hv : findG (lat + 1) gs p q = none) :
  Calls Try.prog 112 #[.pointer (some ⟨bb, 0, none⟩), .int .i64 x, .int .i64 y] W fun e W' => e = .returned (.int .i64 (2 * (lat + 1 + (gs.length : Int)))) ∧ StF w W' bb bm lat (gs ++ [⟨p, q⟩]) lit ∧ KeepF bm W W' := by
 have b1 := beqF (fun e => hc (Or.inl e) : ¬ x = 0)
 have b2 := beqF (fun e => hc (Or.inr (Or.inl e)) : ¬ y = 0)
 have b3 := beqF (fun e => hc (Or.inr (Or.inr (Or.inl e))) : ¬ x = Go.bits .xor .i64 y 1)
 have b4 := beqF (fun e => hc (Or.inr (Or.inr (Or.inr (Or.inl e)))) : ¬ x = 1)
 have b5 := beqF (fun e => hc (Or.inr (Or.inr (Or.inr (Or.inr (Or.inl e))))) : ¬ x = y)
 have b6 := beqF (fun e => hc (Or.inr (Or.inr (Or.inr (Or.inr (Or.inr e))))) : ¬ y = 1)
 have ep : (if x < y then y else x) = p := hp
 have eq : (if y < x then y else x) = q := hq
 have HS := M_ (h.below (below_alloc (Below.refl W.heap.size W) (.cells #[.int .i64 p, .int .i64 q] 69)))
 have HK := M_ (KeepF.below (bm := bm) (below_alloc (Below.refl W.heap.size W) (.cells #[.int .i64 p, .int .i64 q] 69)))
 have HX := M_ (heap_alloc_new W (.cells #[.int .i64 p, .int .i64 q] 69))
 have hl := fun (m : Nat) => look_boxF h wx wy ((W.alloc (.cells #[.int .i64 p, .int .i64 q] 69)).drewN m) (pw_below_drewN (below_alloc (Below.refl _ _) _) m)
 rw [hv] at hl
 simp only [Option.getD_none, Option.isSome_none] at hl
 have hu0 := Try.underlying132
 have hu1 := Try.underlying44
 have hu2 := Try.underlying69
 have HV := M_ hv
 have HW := M_ (And.intro wx wy)
 have HF := M_ (show 0 ≤ lat ∧ lat ≤ 1000000 ∧ gs.length ≤ 1000000 from ⟨f0, f1, f3⟩)
 have HR0 : Aside0 (∀ AA cA, Kd.R k69 69 W w.heap.size (fun _ => True) (.slice AA gs.length cA) gs → ∀ k, (Value.slice AA gs.length cA).ownBlock = some k → k < W.heap.size) := ⟨fun AA cA h => Kd.R_lt h⟩
 have H0 := M_ h
 clear h hc hv wx wy hp hq f0 f1 f3
 obtain ⟨AA, cA, h3, h5⟩ := HS.out.cells
 have HL0 : Aside0 (some W.heap.size ≠ (Value.slice AA gs.length cA).ownBlock) := by
  obtain ⟨AA', cA', h3', h5'⟩ := H0.out.cells
  have e := (blk_cell h3 1).symm.trans ((blk_cell (blk_alloc h3' (.cells #[.int .i64 p, .int .i64 q] 69)) 1))
  have e2 : Value.slice AA gs.length cA = .slice AA' gs.length cA' := by simpa using e
  rw [e2]
  exact ⟨fun e => absurd (Kd.R_lt h5' _ e.symm) (Nat.lt_irrefl _)⟩
 have hz5 := (blk_cell h3 3).trans (show _ = some (.map (some bm)) from rfl)
 have hz2 := (blk_cell h3 1).trans (show _ = some (.slice AA gs.length cA) from rfl)
 have H5 := M_ h5
 clear h3 h5 HR0 H0
 go_enter Try.func112, Try.ntmps112
 go_wp2
 go_quiet (fail)
 go_upto_region 10 with fail
 go_cut [] (fun wx => Aside0 (StG w wx bb bm lat (gs ++ [⟨p, q⟩]) lit gs.length (findG (lat + 1) gs)) ∧ Aside0 (wx.heap[W.heap.size]? = some (.cells #[.int .i64 p, .int .i64 q] 69 (0, 0))) ∧ Aside0 (KeepF bm W wx))
 case first =>
  have HX2 := M_ (HS.out.below (pw_below_drewN (Below.refl _ _) (nq + 1)))
  have HR2 := M_ (Kd.R_below H5.out (pw_below_drewN (Below.refl _ _) (nq + 1)))
  have HBX := M_ (blk_drewN HX.out (nq + 1))
  have hx0 := (blk_cell HBX.out 0).trans (show _ = some (.int .i64 p) from rfl)
  have hx1 := (blk_cell HBX.out 1).trans (show _ = some (.int .i64 q) from rfl)
  have hu23 := Try.underlying23
  have hx0' : (W.alloc (.cells #[.int .i64 p, .int .i64 q] 69)).cell? ⟨W.heap.size, 0, none⟩ = some (.int .i64 p) := hx0
  have hx1' : (W.alloc (.cells #[.int .i64 p, .int .i64 q] 69)).cell? ⟨W.heap.size, 1, none⟩ = some (.int .i64 q) := hx1
  have HL := M_ (show (gs.length + 1) * 16 ≤ 140737488355328 by have := HF.out; omega)
  have hz2' : (((W.alloc (.cells #[.int .i64 p, .int .i64 q] 69)).drewN (nq + 1)).alloc (.cells #[.int .i64 p, .int .i64 q] 69)).cell? ⟨bb, 1, none⟩ = some (.slice AA gs.length cA) := by
   obtain ⟨AA', cA', k3, -⟩ := HX2.out.cells
   have e : some (Value.slice AA' gs.length cA') = some (.slice AA gs.length cA) := (blk_cell k3 1).symm.trans hz2
   exact (blk_cell (blk_alloc k3 _) 1).trans e
  clear hx0 hx1
  go_region_law (go_loud (refine Kd.R_append_step k69 (w0 := w) w.heap.size (by rfl) (.tmp 59) (.tmp 61) 23 69 _ 16 rfl hu23 info69 rfl (by decide) (by decide) (.slice AA gs.length cA) gs ⟨p, q⟩ [.int .i64 p, .int .i64 q] (fun _ => True) (fun _ => False) rfl (congrArg (fun n_ => Value.slice (some ⟨n_, 0, none⟩) 1 1) (show W.heap.size + 1 = ((W.alloc (.cells #[.int .i64 p, .int .i64 q] 69)).drewN (nq + 1)).heap.size by simp)) (k69_mkM _ _ _ ⟨p, q⟩) (fun _ hk => hk.elim) (fun _ _ => trivial) HR2.out HX2.out.hb HX2.out.hb.size HL.out ?_; intro v1 w1 hr hb1 hg hat; clear hat; have HP := M_ (StG.push HX2.out rfl hz2 hb1 hg hr); have HBY := M_ ((Below.heap_setCell w1 ⟨bb, 1, none⟩ v1 W.heap.size (fun e => by obtain ⟨AA', cA', k3, -⟩ := HX2.out.cells; have e_ : W.heap.size = bb := e; rw [← e_, HBX.out] at k3; cases k3)).trans (blk_grown HBX.out hg HL0.out)); obtain ⟨A2, c2, e2⟩ := Kd.R_slice hr; have hm2 : (gs ++ [⟨p, q⟩] : List S69).length = gs.length + 1 := (by simp); rw [hm2] at e2; subst e2; clear hm2 hr hb1 hg; obtain ⟨u1, hq1⟩ := fpushed HP.out.2.2; have hq2 := fpushed2 HP.out.2.2; have HSY := M_ HP.out.1; have HKY := M_ (HK.out.trans ((KeepF.below (pw_below_drewN (Below.refl _ _) (nq + 1))).trans HP.out.2.1)); clear HP))
  all_goals (go_wp2_with fail; go_meet; exact ⟨HSY, HBY, HKY⟩)
 case rest =>
  obtain ⟨HSY, HBY, HKY⟩ := hcut
  clear hz5 hz2 H5 HS HK HX hl
  obtain ⟨BA, dA, k3, -⟩ := HSY.out.cells
  have hm2 : (gs ++ [⟨p, q⟩] : List S69).length = gs.length + 1 := by simp
  rw [hm2] at k3
  have hy0 := (blk_cell k3 0).trans (show _ = some (.int .i64 lat) from rfl)
  have hy2 := (blk_cell k3 1).trans (show _ = some (.slice BA (gs.length + 1) dA) from rfl)
  have hy5 := (blk_cell k3 3).trans (show _ = some (.map (some bm)) from rfl)
  have hp0 := (blk_cell HBY.out 0).trans (show _ = some (.int .i64 p) from rfl)
  have hp1 := (blk_cell HBY.out 1).trans (show _ = some (.int .i64 q) from rfl)
  have hF := HF.out
  have e2 : wrap64 (lat + ((gs.length : Int) + 1)) = lat + 1 + (gs.length : Int) := by unfold wrap64; omega
  have e3 : wrap64 (2 * (lat + 1 + (gs.length : Int))) = 2 * (lat + 1 + (gs.length : Int)) := by unfold wrap64; omega
  have HWV := M_ (show (Lit.int .i64 (2 * (lat + 1 + (gs.length : Int)))).wf = true by simp [Lit.wf, IntKind.min, IntKind.max, IntKind.signed, IntKind.bits]; omega)
  clear k3 hm2 hF
  go_wp2
  go_quiet (fail)
  go_wp2
  simp only [e3]
  obtain ⟨es, cl, hrun, HE0, HKE0⟩ := (HSY.out.below (pw_below_drewN (Below.refl _ _) (nq + 1))).put (by have := HF.out; omega) HW.out.1 HW.out.2 HWV.out
  have HE := M_ HE0
  have HKE := M_ HKE0
  clear HE0 HKE0 e2 e3
  go_region
  all_goals (
   go_wp2
   go_ret
   refine ⟨by simp, ?_, HKY.out.trans ((KeepF.below (pw_below_drewN (Below.refl _ _) (nq + 1))).trans HKE.out)⟩
   have h1 := HE.out
   rw [findG_push _ _ _ _ HV.out] at h1
   have hm2 : (gs ++ [⟨p, q⟩] : List S69).length = gs.length + 1 := by simp
   show StG _ _ _ _ _ _ _ _ _
   rw [hm2]
   exact h1)
theorem fand_calls {w W : World} {bb bm : Nat} {lat lit : Int} {gs : List S69} (h : StF w W bb bm lat gs lit) (f0 : 0 ≤ lat) (f1 : lat ≤ 1000000) (f3 : gs.length ≤ 1000000) (x y : Int) (x0 : 0 ≤ x) (x1 : x ≤ 100000000) (y0 : 0 ≤ y) (y1 : y ≤ 100000000) :
  Calls Try.prog 112 #[.pointer (some ⟨bb, 0, none⟩), .int .i64 x, .int .i64 y] W fun e W' => e = .returned (.int .i64 (andP (lat + 1) gs x y).2) ∧ StF w W' bb bm lat (andP (lat + 1) gs x y).1 lit ∧ KeepF bm W W' := by
 by_cases hc : x = 0 ∨ y = 0 ∨ x = Go.bits .xor .i64 y 1 ∨ x = 1 ∨ x = y ∨ y = 1
 ·refine (fand_simple (lat := lat) (gs := gs) x y hc).mono ?_
  rintro e W' ⟨rfl, h1, h2⟩
  rw [h1]
  exact ⟨rfl, h.below h2, KeepF.below h2⟩
 ·have wf : ∀ z : Int, 0 ≤ z → z ≤ 100000000 → (Lit.int .i64 z).wf = true := fun z h0 h1 => by simp [Lit.wf, IntKind.min, IntKind.max, IntKind.signed, IntKind.bits]; omega
  have wx := wf (mx x y) (by unfold mx; split <;> omega) (by unfold mx; split <;> omega)
  have wy := wf (mn x y) (by unfold mn; split <;> omega) (by unfold mn; split <;> omega)
  cases hv : findG (lat + 1) gs (mx x y) (mn x y) with
  | some v =>
   rw [andP_found hc hv]
   refine (fand_found h x y _ _ rfl rfl hc wx wy v hv).mono ?_
   rintro e W' ⟨rfl, h2⟩
   exact ⟨rfl, h.below h2, KeepF.below h2⟩
  | none =>
   rw [andP_new hc hv]
   refine (fand_new h f0 f1 f3 x y _ _ rfl rfl hc wx wy hv).mono ?_
   rintro e W' ⟨rfl, h2, h3⟩
   exact ⟨rfl, h2, h3⟩

-- ternsim_builder_and.dep
def ternsim_builder_all.dep : Nat := 0
def allP (first : Int) : List S69 → Int → List Int → List S69 × Int
 | gs, out, [] => (gs, out)
 | gs, out, x :: l => allP first (andP first gs out x).1 (andP first gs out x).2 l
theorem andF_len (first : Int) (gs : List S69) (x y : Int) : gs.length ≤ (andP first gs x y).1.length ∧ (andP first gs x y).1.length ≤ gs.length + 1 := by
 unfold andP
 split
 ·exact ⟨Nat.le_refl _, Nat.le_succ _⟩
 ·split
  ·exact ⟨Nat.le_refl _, Nat.le_succ _⟩
  ·split
   ·exact ⟨Nat.le_refl _, Nat.le_succ _⟩
   ·cases findG first gs (mx x y) (mn x y) with
    | some l => exact ⟨Nat.le_refl _, Nat.le_succ _⟩
    | none => simp
theorem andP_rng {first B : Int} (hB : 80000000 ≤ B) {gs : List S69} {x y : Int} (f0 : 0 ≤ first) (f1 : first + (gs.length : Int) ≤ 40000000) (x0 : 0 ≤ x) (x1 : x ≤ B) (y0 : 0 ≤ y) (y1 : y ≤ B) : 0 ≤ (andP first gs x y).2 ∧ (andP first gs x y).2 ≤ B := by
 unfold andP
 split
 ·exact ⟨Int.le_refl _, (show (0 : Int) ≤ B by omega)⟩
 ·split
  ·exact ⟨y0, y1⟩
  ·split
   ·exact ⟨x0, x1⟩
   ·cases e : findG first gs (mx x y) (mn x y) with
    | some l =>
     unfold findG at e
     obtain ⟨i, hi, rfl⟩ := Option.map_eq_some_iff.1 e
     obtain ⟨hlt, _⟩ := List.findIdx?_eq_some_iff_getElem.1 hi
     dsimp only; omega
    | none => dsimp only; omega
theorem allP_len (first : Int) : ∀ (l : List Int) (gs : List S69) (out : Int), gs.length ≤ (allP first gs out l).1.length ∧ (allP first gs out l).1.length ≤ gs.length + l.length
 | [], gs, out => ⟨Nat.le_refl _, Nat.le_refl _⟩
 | x :: l, gs, out => by
  have h1 := andF_len first gs out x
  have h2 := allP_len first l (andP first gs out x).1 (andP first gs out x).2
  rw [allP, List.length_cons]
  omega
theorem allP_rng {first B : Int} (hB : 80000000 ≤ B) (f0 : 0 ≤ first) : ∀ (l : List Int) (gs : List S69) (out : Int), first + (gs.length : Int) + (l.length : Int) ≤ 40000000 → 0 ≤ out → out ≤ B → (∀ x ∈ l, 0 ≤ x ∧ x ≤ B) → 0 ≤ (allP first gs out l).2 ∧ (allP first gs out l).2 ≤ B
 | [], gs, out, _, h0, h1, _ => ⟨h0, h1⟩
 | x :: l, gs, out, h, h0, h1, hl => by
  have hx := hl x (List.mem_cons_self ..)
  have h2 := andF_len first gs out x
  rw [List.length_cons] at h
  have h3 := andP_rng (x := out) (y := x) hB f0 (show first + (gs.length : Int) ≤ 40000000 by omega) h0 h1 hx.1 hx.2
  rw [allP]
  exact allP_rng hB f0 l _ _ (by omega) h3.1 h3.2 (fun y hy => hl y (List.mem_cons_of_mem _ hy))
theorem KeepF.R {W W' : World} {bm base : Nat} {ok : Nat → Prop} {v : Value} {xs : List Int} (hk : KeepF bm W W') (h : Kd.R (Kd.int .i64) 3 W base ok v xs) : Kd.R (Kd.int .i64) 3 W' base ok v xs :=
 Kd.R_mono (Kd.R_move (Kd.R_bound h) (fun k hk2 => by
  obtain ⟨_, _, _, q, hq, cells, hc⟩ := hk2
  have hq2 : q = 3 := by simpa [Kd.int, Kd.scalar] using hq
  subst hq2
  exact (hk.2 k cells _ (0, 0) hc (by decide) (by decide)).trans hc.symm)) (fun _ hk => hk.1)
set_option maxHeartbeats 8000000 in
set_option maxRecDepth 100000 in
theorem fall_calls {w W : World} {bb bm : Nat} {lat lit : Int} {gs : List S69} {B : Nat} {ok : Nat → Prop} {A : Option Addr} {c : Nat} (l : List Int) (h : StF w W bb bm lat gs lit) (hl : Kd.R (Kd.int .i64) 3 W B ok (.slice A l.length c) l) (f0 : 0 ≤ lat) (f1 : lat ≤ 1000000) (f3 : gs.length + l.length ≤ 1000000) (hx : ∀ x ∈ l, 0 ≤ x ∧ x ≤ 100000000) :
  Calls Try.prog 84 #[.pointer (some ⟨bb, 0, none⟩), .slice A l.length c] W fun e W' => e = .returned (.int .i64 (allP (lat + 1) gs 1 l).2) ∧ StF w W' bb bm lat (allP (lat + 1) gs 1 l).1 lit ∧ KeepF bm W W' := by
 have HS := M_ h
 have HL := M_ hl
 have HF := M_ (show 0 ≤ lat ∧ lat ≤ 1000000 ∧ gs.length + l.length ≤ 1000000 from ⟨f0, f1, f3⟩)
 have HX := M_ hx
 clear h hl f0 f1 f3 hx
 go_enter Try.func84, Try.ntmps84
 go_wp2
 go_loopg [5, 10] l.length (fun kq v5 v10 w' => ∃ (j : Nat) (gs' : List S69) (out : Int), v5 = .int .i64 out ∧ v10 = .int .i64 (j : Int) ∧ Aside0 (j + kq = l.length) ∧ Aside0 (allP (lat + 1) gs' out (l.drop j) = allP (lat + 1) gs 1 l) ∧ Aside0 (gs'.length ≤ gs.length + j ∧ 0 ≤ out ∧ out ≤ 100000000) ∧ Aside0 (StF w w' bb bm lat gs' lit) ∧ Aside0 (KeepF bm W w'))
 case atStart => exact ⟨0, gs, 1, rfl, rfl, ⟨by omega⟩, ⟨rfl⟩, ⟨by omega, by decide, by decide⟩, HS, ⟨KeepF.below (Below.refl _ _)⟩⟩
 case round =>
  obtain ⟨j, gs', out, rfl, rfl, HJ, HE, HB, HS', HK⟩ := hrel
  cases gk with
  | zero =>
   have hlt : decide (j < l.length) = false := decide_eq_false (by have := HJ.out; omega)
   go_wp2
   go_ret
   have he := HE.out
   rw [List.drop_of_length_le (by have := HJ.out; omega)] at he
   rw [← he]
   exact ⟨rfl, HS'.out, HK.out⟩
  | succ k1 =>
   have hj : j < l.length := by have := HJ.out; omega
   have HJL := M_ hj
   have hlt : decide (j < l.length) = true := decide_eq_true (by omega)
   have HL' := M_ (HK.out.R HL.out)
   obtain ⟨ad, rfl, u0⟩ := Kd.at_int (Kd.R_reads' HL'.out).2.2 (j : Int) (by omega) (by omega)
   have e1 : rd l (j : Int) = l[j] := by simp [rd, List.getD, hj]
   rw [e1, Int.toNat_natCast] at u0
   obtain ⟨x, hxe⟩ : ∃ x, x = l[j] := ⟨_, rfl⟩
   rw [← hxe] at u0
   have HXX := M_ (show 0 ≤ x ∧ x ≤ 100000000 by rw [hxe]; exact HX.out _ (List.getElem_mem hj))
   have HD := M_ (show l.drop j = x :: l.drop (j + 1) by rw [hxe]; exact List.drop_eq_getElem_cons hj)
   clear e1 hj hxe
   have p0 : ((0 : Int) ≤ (j : Int)) = True := eq_true (by omega)
   have p1 : (j < l.length) = True := eq_true HJL.out
   have p2 : ((j : Int) < (l.length : Int)) = True := eq_true (by have := HJL.out; omega)
   have ew : wrap64 ((j : Int) + 1) = ((j + 1 : Nat) : Int) := by have := HJL.out; have := HF.out; unfold wrap64; omega
   go_wp2_with (go_at_call 112; (with_reducible refine (fand_calls HS'.out HF.out.1 HF.out.2.1 (by have := HF.out; have := HB.out; have := HJL.out; omega) out x HB.out.2.1 HB.out.2.2 HXX.out.1 HXX.out.2).mono ?_); rintro e w5 ⟨rfl, hs5, hk5⟩; have HS5 := M_ hs5; have HK5 := M_ (HK.out.trans hk5); clear hs5 hk5)
   go_roundg k1
   case measure => exact Nat.lt_succ_self _
   case rel =>
    have hr := andP_rng (B := 100000000) (by decide) (first := lat + 1) (gs := gs') (x := out) (y := x) (by have := HF.out; omega) (by have := HF.out; have := HB.out; have := HJL.out; omega) HB.out.2.1 HB.out.2.2 HXX.out.1 HXX.out.2
    have hn := andF_len (lat + 1) gs' out x
    refine ⟨j + 1, _, _, rfl, congrArg (Value.int .i64) ew, ⟨by have := HJ.out; omega⟩, ⟨?_⟩, ⟨by have := HB.out; omega, hr.1, hr.2⟩, HS5, HK5⟩
    have he := HE.out
    rw [HD.out, allP] at he
    exact he

-- ternsim_builder_all.dep
def litsN (s : List Int) (n : Nat) : List Int := ((List.range n).filter fun i : Nat => decide (rd s (i : Int) ≠ 2)).map fun i : Nat => 2 * ((i : Int) + 1) + 1 - rd s (i : Int)
theorem litsN_yes (s : List Int) (n : Nat) (h : rd s (n : Int) ≠ 2) : litsN s (n + 1) = litsN s n ++ [2 * ((n : Int) + 1) + 1 - rd s (n : Int)] := by
 unfold litsN
 rw [List.range_succ, List.filter_append, List.filter_cons, if_pos (decide_eq_true h), List.map_append]
 rfl
theorem litsN_no (s : List Int) (n : Nat) (h : rd s (n : Int) = 2) : litsN s (n + 1) = litsN s n := by
 unfold litsN
 rw [List.range_succ, List.filter_append, List.filter_cons, if_neg (by simp [h]), List.map_append]
 simp
theorem litsN_len (s : List Int) (n : Nat) : (litsN s n).length ≤ n := by
 unfold litsN
 rw [List.length_map]
 exact Nat.le_trans (List.length_filter_le _ _) (by simp)
def factS (lat : Int) (p : List S69 × List Int) (s : List Int) : List S69 × List Int :=
 ((allP (lat + 1) p.1 1 (litsN s s.length)).1, p.2 ++ [Go.bits .xor .i64 (allP (lat + 1) p.1 1 (litsN s s.length)).2 1])
def factP (lat : Int) (l : List (List Int)) : List S69 × Int :=
 ((allP (lat + 1) (l.foldl (factS lat) ([], [])).1 1 (l.foldl (factS lat) ([], [])).2).1, Go.bits .xor .i64 (allP (lat + 1) (l.foldl (factS lat) ([], [])).1 1 (l.foldl (factS lat) ([], [])).2).2 1)
def okFact (lat : Int) (l : List (List Int)) : Bool := decide (0 ≤ lat ∧ lat ≤ 1000) && decide (l.length ≤ 100) && l.all (fun s => decide (s.length ≤ 1000) && s.all (fun x => decide (0 ≤ x ∧ x ≤ 2)))
def ternsim_fact.f (a0 : Int) (l1 : List (List Int)) : Option (List (S69) × Int) := if okFact a0 l1 = true then some (factP a0 l1) else none
theorem bx1 (y : Int) (h0 : 0 ≤ y) (h1 : y ≤ 80000000) : 0 ≤ Go.bits .xor .i64 y 1 ∧ Go.bits .xor .i64 y 1 ≤ 80000001 := by
 rw [h_bxor1 y h0 (by omega), notH]; split <;> omega
theorem fact_step (lat : Int) (l : List (List Int)) (j : Nat) (h : j < l.length) : (l.take (j + 1)).foldl (factS lat) ([], []) = factS lat ((l.take j).foldl (factS lat) ([], [])) l[j] := by
 rw [List.take_succ_eq_append_getElem h, List.foldl_append]; rfl
section
variable {w W W' : World} {bb bm : Nat} {lat lit : Int} {gs : List S69} {n : Nat} {f : Int → Int → Option Int}
theorem StG.over (h : StG w W bb bm lat gs lit n f) {v : Value} (hg : W.grownBy W' v.ownBlock) (ht : ∀ k, v.ownBlock = some k → ∃ cells, W.heap[k]? = some (.cells cells 3 (0, 0))) (hb : Below w.heap.size w W') : StG w W' bb bm lat gs lit n f := by
 obtain ⟨h0, h1, h2, ⟨vA, h3, h5⟩, h8⟩ := h
 refine ⟨hb, h1, h2, ⟨vA, blk_grown h3 hg (fun e => ?_), Kd.R_over' h5 ht (by decide) hg⟩, h8.kept hg (fun e => ?_)⟩
 ·obtain ⟨cs, hc⟩ := ht bb e.symm
  rw [hc] at h3; injection h3 with h3; injection h3 with _ h3; exact absurd h3 (by decide)
 ·obtain ⟨cs, hc⟩ := ht bm e.symm
  obtain ⟨es, cl, hm⟩ := h8.blk
  rw [hc] at hm; cases hm
theorem StG.setLit (h : StG w W bb bm lat gs lit n f) (x : Int) : StG w (W.setCell ⟨bb, 2, none⟩ (.int .i64 x)) bb bm lat gs x n f ∧ KeepF bm W (W.setCell ⟨bb, 2, none⟩ (.int .i64 x)) := by
 obtain ⟨h0, l1, l2, ⟨vA, h3, h5⟩, h8⟩ := h
 refine ⟨⟨h0.setCell l1 _, l1, l2, ⟨vA, ?_, Kd.R_set h5 h3 (by decide) 2 _⟩, h8.keep (Below.heap_setCell _ _ _ _ ?_)⟩, KeepF.set h3 _⟩
 ·have := blk_set h3 2 (.int .i64 x)
  simpa using this
 ·rintro rfl
  obtain ⟨es, cl, hm⟩ := h8.blk
  rw [hm] at h3
  cases h3
end
structure MF (w W : World) (bb bm : Nat) (lat : Int) (p : List S69 × List Int) (vN : Value) : Prop where
 st : StF w W bb bm lat p.1 0
 bk : W.heap[w.heap.size]? = some (.cells #[.slice none 0 0, .int .i64 0] 44 (0, 0))
 rn : Kd.R (Kd.int .i64) 3 W w.heap.size (fun _ => True) vN p.2
section
variable {w W W' : World} {bb bm : Nat} {lat : Int} {p : List S69 × List Int} {vN : Value}
theorem MF.below (h : MF w W bb bm lat p vN) (hb : Below W.heap.size W W') : MF w W' bb bm lat p vN := ⟨h.st.below hb, blk_below h.bk hb, Kd.R_below h.rn hb⟩
end
theorem litsN_rng {s : List Int} (h : s.length ≤ 1000 ∧ ∀ x ∈ s, 0 ≤ x ∧ x ≤ 2) : ∀ x ∈ litsN s s.length, 0 ≤ x ∧ x ≤ 100000000 ∧ x ≤ 80000000 := fun x hx => by
 obtain ⟨i, hi, rfl⟩ := List.mem_map.1 hx
 have hi2 := List.mem_range.1 (List.mem_filter.1 hi).1
 have hv : 0 ≤ rd s (i : Int) ∧ rd s (i : Int) ≤ 2 := by
  have e : rd s (i : Int) = s[i] := by simp [rd, List.getD, hi2]
  rw [e]; exact h.2 _ (List.getElem_mem hi2)
 omega
theorem fact_len (lat : Int) : ∀ (l : List (List Int)) (p : List S69 × List Int), (∀ s ∈ l, s.length ≤ 1000) → (l.foldl (factS lat) p).1.length ≤ p.1.length + 1000 * l.length ∧ (l.foldl (factS lat) p).2.length = p.2.length + l.length
 | [], p, _ => ⟨by simp, by simp⟩
 | s :: l, p, h => by
  have h1 := fact_len lat l (factS lat p s) (fun x hx => h x (List.mem_cons_of_mem _ hx))
  have h2 := allP_len (lat + 1) (litsN s s.length) p.1 1
  have h3 := litsN_len s s.length
  have h4 := h s (List.mem_cons_self ..)
  rw [List.foldl_cons]
  simp only [factS, List.length_append, List.length_cons, List.length_nil] at h1 ⊢
  omega
theorem fact_rng (lat : Int) (h0 : 0 ≤ lat) (h1 : lat ≤ 1000) : ∀ (l : List (List Int)) (p : List S69 × List Int), (∀ s ∈ l, s.length ≤ 1000 ∧ ∀ x ∈ s, 0 ≤ x ∧ x ≤ 2) → p.1.length + 1000 * l.length ≤ 1000000 → (∀ x ∈ p.2, 0 ≤ x ∧ x ≤ 80000001) → ∀ x ∈ (l.foldl (factS lat) p).2, 0 ≤ x ∧ x ≤ 80000001
 | [], p, _, _, hp => hp
 | s :: l, p, h, hl, hp => by
  have h2 := allP_len (lat + 1) (litsN s s.length) p.1 1
  have h3 := litsN_len s s.length
  have h4 := h s (List.mem_cons_self ..)
  rw [List.length_cons] at hl
  have h5 := allP_rng (B := 80000000) (by decide) (first := lat + 1) (by omega) (litsN s s.length) p.1 1 (by omega) (by decide) (by decide) (fun x hx => ⟨(litsN_rng h4 x hx).1, (litsN_rng h4 x hx).2.2⟩)
  rw [List.foldl_cons]
  refine fact_rng lat h0 h1 l _ (fun x hx => h x (List.mem_cons_of_mem _ hx)) (by simp only [factS]; omega) (fun x hx => ?_)
  rcases List.mem_append.1 hx with hx | hx
  ·exact hp x hx
  ·rw [List.mem_singleton.1 hx]
   exact bx1 _ h5.1 h5.2
set_option maxHeartbeats 20000000 in
set_option maxRecDepth 100000 in
theorem ternsim_fact.calls (a0 : Int) (A1 : Option Addr) (c1 : Nat) (l1 : List (List Int)) (r1 : List (S69)) (r2 : Int) (w : World) (hr1 : Kd.C (Kd.slice 5 (Kd.int .u8)) w A1 l1.length l1) (hc1 : l1.length ≤ c1) (h : ternsim_fact.f a0 l1 = some (r1, r2)) :
  Calls Try.prog 53 #[.int .i64 a0, .slice A1 l1.length c1] w fun e w' => ∃ v1_ : Value, e = .returned (.agg #[v1_, .int .i64 r2]) ∧ Kd.R k69 69 w' w.heap.size (fun _ => True) v1_ r1 ∧ Below w.heap.size w w' := by
 unfold ternsim_fact.f at h
 by_cases hok : okFact a0 l1 = true
 ·rw [if_pos hok] at h
  obtain ⟨lat, rfl⟩ : ∃ x, x = a0 := ⟨_, rfl⟩
  unfold okFact at hok
  simp only [Bool.and_eq_true, decide_eq_true_eq, List.all_eq_true] at hok
  obtain ⟨⟨hlat, hl1⟩, hst⟩ := hok
  have HC := M_ hr1
  have HC1 := M_ hc1
  have HLAT := M_ hlat
  have HL1 := M_ hl1
  have HST : Aside0 (∀ s ∈ l1, s.length ≤ 1000 ∧ ∀ x ∈ s, 0 ≤ x ∧ x ≤ 2) := ⟨fun s hs => ⟨(hst s hs).1, (hst s hs).2⟩⟩
  have HR := M_ (Option.some.inj h)
  have hmm := @run_makeMap Try.prog
  have huB := Try.underlying132
  have huP := Try.underlying44
  clear hr1 hc1 hlat hl1 hst h
  go_enter Try.func53, Try.ntmps53
  go_upto_region 3 with fail
  have hw3 : (((w.alloc (.cells #[.slice none 0 0, .int .i64 0] 44)).alloc (.map #[] 0)).alloc (.cells #[.int .i64 lat, .slice none 0 0, .int .i64 0, .map (some (w.heap.size + 1))] 132)).heap.size = w.heap.size + 3 := by simp
  have hb3 := below_alloc (below_alloc (below_alloc (Below.refl w.heap.size w) (.cells #[.slice none 0 0, .int .i64 0] 44)) (.map #[] 0)) (.cells #[.int .i64 lat, .slice none 0 0, .int .i64 0, .map (some (w.heap.size + 1))] 132)
  have hbk : (((w.alloc (.cells #[.slice none 0 0, .int .i64 0] 44)).alloc (.map #[] 0)).alloc (.cells #[.int .i64 lat, .slice none 0 0, .int .i64 0, .map (some (w.heap.size + 1))] 132)).heap[w.heap.size]? = some (.cells #[.slice none 0 0, .int .i64 0] 44 (0, 0)) := blk_alloc (blk_alloc (heap_alloc_new w _) _) _
  have hbb := heap_alloc_new ((w.alloc (.cells #[.slice none 0 0, .int .i64 0] 44)).alloc (.map #[] 0)) (.cells #[.int .i64 lat, .slice none 0 0, .int .i64 0, .map (some (w.heap.size + 1))] 132)
  have hkm := (KnownF.made (w.alloc (.cells #[.slice none 0 0, .int .i64 0] 44))).below (below_alloc (Below.refl _ _) (.cells #[.int .i64 lat, .slice none 0 0, .int .i64 0, .map (some (w.heap.size + 1))] 132))
  rw [World.size_alloc, World.size_alloc] at hbb
  rw [World.size_alloc] at hkm
  generalize (((w.alloc (.cells #[.slice none 0 0, .int .i64 0] 44)).alloc (.map #[] 0)).alloc (.cells #[.int .i64 lat, .slice none 0 0, .int .i64 0, .map (some (w.heap.size + 1))] 132)) = w3 at hb3 hbk hbb hkm ⊢
  obtain ⟨bb, hbbe⟩ : ∃ b, b = w.heap.size + 1 + 1 := ⟨_, rfl⟩
  obtain ⟨bm, hbme⟩ : ∃ b, b = w.heap.size + 1 := ⟨_, rfl⟩
  rw [← hbbe] at hbb ⊢
  rw [← hbme] at hbb hkm ⊢
  have HM3 : Aside0 (MF w w3 bb bm lat (([] : List (List Int)).foldl (factS lat) ([], [])) (.slice none 0 0)) := ⟨⟨⟨hb3, by omega, by omega, ⟨_, hbb, Kd.R_nil _ _ _ _ _⟩, by
   have e : findG (lat + 1) ([] : List S69) = fun _ _ => none := by funext x y; rfl
   show KnownF w3 bm 0 (findG (lat + 1) [])
   rw [e]; exact hkm⟩, hbk, Kd.R_nil _ _ _ _ _⟩⟩
  clear hb3 hbk hbb hkm hmm hbbe hbme hw3
  go_wp2
  go_loopg [6, 19] l1.length (fun kq v6 v19 w' => ∃ (j : Nat) (A6 : Option Addr) (c6 : Nat), v6 = .slice A6 ((l1.take j).foldl (factS lat) ([], [])).2.length c6 ∧ v19 = .int .i64 (j : Int) ∧ Aside0 (j + kq = l1.length) ∧ Aside0 (MF w w' bb bm lat ((l1.take j).foldl (factS lat) ([], [])) (.slice A6 ((l1.take j).foldl (factS lat) ([], [])).2.length c6)))
  case atStart => exact ⟨0, none, 0, rfl, rfl, ⟨by omega⟩, HM3⟩
  case round =>
   obtain ⟨j, AN, cN, rfl, rfl, HJ, HM⟩ := hrel
   have HP0 := M_ (fact_len lat (l1.take j) ([], []) (fun s hs => (HST.out s (List.mem_of_mem_take hs)).1))
   have HPR := M_ (fact_rng lat HLAT.out.1 HLAT.out.2 (l1.take j) ([], []) (fun s hs => HST.out s (List.mem_of_mem_take hs)) (by have := HL1.out; simp; omega) (fun x hx => by simp at hx))
   obtain ⟨p, hpe⟩ : ∃ p, p = (l1.take j).foldl (factS lat) ([], []) := ⟨_, rfl⟩
   rw [← hpe] at HM HP0 HPR
   have HPE := M_ hpe
   simp only [← hpe]
   clear hpe
   cases gk with
   | zero =>
    have hlt : decide (j < l1.length) = false := decide_eq_false (by have := HJ.out; omega)
    have HPL : Aside0 (p.1.length ≤ 100000 ∧ p.2.length ≤ 100) := ⟨by have h_ := HP0.out.1; have := HL1.out; rw [List.length_take] at h_; simp only [List.length_nil] at h_; omega, by have h_ := HP0.out.2; have := HL1.out; rw [List.length_take] at h_; simp only [List.length_nil] at h_; omega⟩
    have HPT := M_ (show p = l1.foldl (factS lat) ([], []) by rw [HPE.out, List.take_of_length_le (by have := HJ.out; omega)])
    clear HPE HP0
    go_upto_region 16 with (go_at_call 84; (with_reducible refine (fall_calls p.2 HM.out.st HM.out.rn HLAT.out.1 (by have := HLAT.out; omega) (by have := HPL.out; omega) (fun x hx => ⟨(HPR.out x hx).1, by have := (HPR.out x hx).2; omega⟩)).mono ?_); rintro e w6 ⟨rfl, hs6, hk6⟩; have S6 := M_ hs6; have B6 := M_ (hk6.blk HM.out.bk (by decide) (by decide)); clear hs6 hk6; obtain ⟨AA, cA, k3, -⟩ := S6.out.cells; have y2 := (blk_cell k3 2).trans (show _ = some (.int .i64 0) from rfl); have f2 := blk_frozen k3 2; clear k3)
    clear y2 f2 AA cA
    obtain ⟨X, hX⟩ : ∃ X, X = Go.bits .xor .i64 (allP (lat + 1) p.1 1 p.2).2 1 := ⟨_, rfl⟩
    rw [← hX]
    obtain ⟨s7, k7⟩ := S6.out.setLit X
    have B7 := M_ (k7.blk B6.out (by decide) (by decide))
    have S7 := M_ s7
    clear s7 k7 B6 S6
    generalize w6.setCell ⟨bb, 2, none⟩ (.int .i64 X) = w7 at S7 B7 ⊢
    obtain ⟨AA, cA, k3, k5⟩ := S7.out.cells
    have K5 := M_ k5
    have y1 := (blk_cell k3 1).trans (show _ = some (.slice AA (allP (lat + 1) p.1 1 p.2).1.length cA) from rfl)
    have y2 := (blk_cell k3 2).trans (show _ = some (.int .i64 X) from rfl)
    have z0 := (blk_cell B7.out 0).trans (show _ = some (.slice none 0 0) from rfl)
    have z1 := (blk_cell B7.out 1).trans (show _ = some (.int .i64 0) from rfl)
    have f0 := blk_frozen B7.out 0
    have f1 := blk_frozen B7.out 1
    have HXE := M_ hX
    clear k3 k5 hX
    go_wp2
    (try simp only [Exit.inBlock, Exit.then])
    have hb1 := blk_set B7.out 0 (.slice AA (allP (lat + 1) p.1 1 p.2).1.length cA)
    have hb2 := blk_set hb1 1 (.int .i64 X)
    have hb3 := hb2
    rw [show ((#[Value.slice none 0 0, .int .i64 0].setIfInBounds 0 (.slice AA (allP (lat + 1) p.1 1 p.2).1.length cA)).setIfInBounds 1 (.int .i64 X)) = #[.slice AA (allP (lat + 1) p.1 1 p.2).1.length cA, .int .i64 X] from rfl] at hb3
    refine bodyPost_ret (results_cell_row rfl _ _ w.heap.size 44 #[.slice AA (allP (lat + 1) p.1 1 p.2).1.length cA, .int .i64 X] (0, 0) _ rfl hb3 Try.underlying44 rfl (by kernel_rfl)) rfl ?_
    have hR := HR.out
    unfold factP at hR
    rw [← HPT.out, ← HXE.out, Prod.mk.injEq] at hR
    obtain ⟨rfl, rfl⟩ := hR
    exact ⟨_, rfl, Kd.R_set (Kd.R_set K5.out B7.out (by decide) 0 _) hb1 (by decide) 1 _, below_set (below_set S7.out.hb (Nat.le_refl _)) (Nat.le_refl _)⟩
   | succ k1 =>
    have hj : j < l1.length := by have := HJ.out; omega
    have HJJ : Aside0 (j < l1.length ∧ l1.length ≤ 100) := ⟨hj, HL1.out⟩
    have hlt : decide (j < l1.length) = true := decide_eq_true hj
    have p0 : ((0 : Int) ≤ (j : Int)) = True := eq_true (by omega)
    have p1 : (j < l1.length) = True := eq_true hj
    have p2 : ((j : Int) < (l1.length : Int)) = True := eq_true (by omega)
    obtain ⟨s, hse⟩ : ∃ s, s = l1[j] := ⟨_, rfl⟩
    have HSV : Aside0 (s.length ≤ 1000 ∧ ∀ x ∈ s, 0 ≤ x ∧ x ≤ 2) := ⟨by rw [hse]; exact HST.out _ (List.getElem_mem hj)⟩
    have HSL := M_ HSV.out.1
    have HSE := M_ (show (l1.take (j + 1)).foldl (factS lat) ([], []) = factS lat p s by rw [fact_step lat l1 j hj, ← HPE.out, ← hse])
    obtain ⟨ad, AS, cS, hA1, u0, hcs, hus⟩ := at_L4 HC.out (j : Int) (by omega) (by omega)
    subst hA1
    have ers : rd_L4 l1 (j : Int) = s := by rw [hse]; simp [rd_L4, List.getD, hj]
    rw [ers] at u0 hcs hus
    rw [Int.toNat_natCast] at u0
    replace u0 := pw_cell_below HM.out.st.hb u0
    clear ers
    have HUS := M_ hus
    have HCS := M_ hcs
    clear hse hus hcs hj
    go_wp2
    go_loopg [9, 25] s.length (fun kq v9 v25 w' => ∃ (i : Nat) (A9 : Option Addr) (c9 : Nat), v9 = .slice A9 (litsN s i).length c9 ∧ v25 = .int .i64 (i : Int) ∧ Aside0 (i + kq = s.length) ∧ Aside0 (StF w w' bb bm lat p.1 0) ∧ Aside0 (w'.heap[w.heap.size]? = some (.cells #[.slice none 0 0, .int .i64 0] 44 (0, 0))) ∧ Aside0 (Kd.R (Kd.int .i64) 3 w' w.heap.size (fun k_ => True ∧ some k_ ≠ (Value.slice A9 (litsN s i).length c9).ownBlock) (.slice AN p.2.length cN) p.2) ∧ Aside0 (Kd.R (Kd.int .i64) 3 w' w.heap.size (fun _ => True) (.slice A9 (litsN s i).length c9) (litsN s i)))
    case atStart => exact ⟨0, none, 0, rfl, rfl, ⟨by omega⟩, ⟨HM.out.st⟩, ⟨HM.out.bk⟩, ⟨Kd.R_apart_nil HM.out.rn⟩, ⟨Kd.R_nil _ _ _ _ _⟩⟩
    case round =>
     obtain ⟨i, A9, c9, rfl, rfl, HI9, S9, B9, N9, R9⟩ := hrel
     cases gk with
     | zero =>
      have hlt9 : decide (i < s.length) = false := decide_eq_false (by have := HI9.out; omega)
      obtain rfl : i = s.length := by have := HI9.out; omega
      have HGN : Aside0 (p.1.length ≤ 1000 * j) := ⟨by have h_ := HP0.out.1; have := HJJ.out; rw [List.length_take] at h_; simp only [List.length_nil] at h_; omega⟩
      have HNL : Aside0 (p.2.length ≤ j) := ⟨by have h_ := HP0.out.2; have := HJJ.out; rw [List.length_take] at h_; simp only [List.length_nil] at h_; omega⟩
      go_wp2_with (first | (go_at_call 84; (with_reducible refine (fall_calls (litsN s s.length) S9.out R9.out HLAT.out.1 (by have := HLAT.out; omega) (by have := HGN.out; have := litsN_len s s.length; have := HSL.out; have := HJJ.out; omega) (fun x hx => ⟨(litsN_rng HSV.out x hx).1, (litsN_rng HSV.out x hx).2.1⟩)).mono ?_); rintro e w6 ⟨rfl, hs6, hk6⟩; have S6 := M_ hs6; have B6 := M_ (hk6.blk B9.out (by decide) (by decide)); have N6 := M_ (hk6.R (Kd.R_drop N9.out)); clear hs6 hk6) | ((with_reducible refine gate_builtin (b := .append) (xs := #[.tmp 43, .tmp 48]) rfl ?_); at_builtin; refine Kd.R_append (Kd.int .i64) (w0 := w) w.heap.size rfl (.tmp 43) (.tmp 48) 24 3 (.int .i64 0) 8 rfl Try.underlying24 info3 rfl (by decide) (by omega) (.slice AN p.2.length cN) p.2 (Go.bits .xor .i64 (allP (lat + 1) p.1 1 (litsN s s.length)).2 1) [.int .i64 (Go.bits .xor .i64 (allP (lat + 1) p.1 1 (litsN s s.length)).2 1)] (fun _ => True) (fun _ => False) rfl rfl ?aP (fun _ hk => hk.elim) ?aF ?aO ?aB ?aS ?aL ?_; (case aP => exact rfl); (case aF => exact fun _ _ => trivial); (case aO => exact N6.out); (case aB => exact S6.out.hb); (case aS => exact below_size S6.out.hb); (case aL => have := HNL.out; have := HJJ.out; omega); intro v7 w7 ho hb hg hat; clear hat; have S7 := M_ (StG.over S6.out hg (Kd.R_typed N6.out) hb); have B7 := M_ (blk_grown B6.out hg (Kd.R_ne N6.out B6.out (by decide))); obtain ⟨A7, c7, rfl⟩ := Kd.R_slice ho; have N7 := M_ ho; clear ho hb hg))
      go_roundg k1
      case measure => exact Nat.lt_succ_self _
      case rel =>
       refine ⟨j + 1, A7, c7, ?_, congrArg (Value.int .i64) (show wrap64 ((j : Int) + 1) = ((j + 1 : Nat) : Int) by have := HJJ.out; unfold wrap64; omega), ⟨by have := HJ.out; omega⟩, ⟨?_⟩⟩
       ·rw [HSE.out]; simp [factS]
       ·rw [HSE.out]
        exact ⟨S7.out, B7.out, N7.out⟩
     | succ k2 =>
      have hi : i < s.length := by have := HI9.out; omega
      have hlt9 : decide (i < s.length) = true := decide_eq_true hi
      have q0 : ((0 : Int) ≤ (i : Int)) = True := eq_true (by omega)
      have q1 : (i < s.length) = True := eq_true hi
      have q2 : ((i : Int) < (s.length : Int)) = True := eq_true (by omega)
      obtain ⟨ad9, rfl, u9⟩ := Kd.at_int (Kd.C_below HUS.out S9.out.hb) (i : Int) (by omega) (by omega)
      rw [Int.toNat_natCast] at u9
      have HXV0 : 0 ≤ rd s (i : Int) ∧ rd s (i : Int) ≤ 2 := by
       have e : rd s (i : Int) = s[i] := by simp [rd, List.getD, hi]
       rw [e]; exact HSV.out.2 _ (List.getElem_mem hi)
      obtain ⟨x, hx⟩ : ∃ x, x = rd s (i : Int) := ⟨_, rfl⟩
      rw [← hx] at u9 HXV0
      have HXV := M_ HXV0
      clear HXV0 hi
      have HI9' := M_ (show i < s.length by have := HI9.out; omega)
      by_cases c2 : x = 2
      ·have c2b : (x != 2) = false := by rw [c2]; rfl
       have HLX := M_ (litsN_no s i (by rw [← hx]; exact c2))
       clear hx
       subst c2
       go_wp2
       go_roundg k2
       case measure => exact Nat.lt_succ_self _
       case rel => exact ⟨i + 1, A9, c9, by rw [HLX.out], congrArg (Value.int .i64) (show wrap64 ((i : Int) + 1) = ((i + 1 : Nat) : Int) by have := HI9'.out; have := HSL.out; unfold wrap64; omega), ⟨by have := HI9.out; omega⟩, S9, B9, by rw [HLX.out]; exact N9, by rw [HLX.out]; exact R9⟩
      ·have c2b : (x != 2) = true := bne_iff_ne.mpr c2
       have HLX := M_ (show litsN s (i + 1) = litsN s i ++ [2 * ((i : Int) + 1) + 1 - x] by rw [hx]; exact litsN_yes s i (by rw [← hx]; exact c2))
       clear hx c2
       have w1 : wrap64 ((i : Int) + 1) = (i : Int) + 1 := by have := HI9'.out; have := HSL.out; unfold wrap64; omega
       have w2 : wrap64 (2 * ((i : Int) + 1)) = 2 * ((i : Int) + 1) := by have := HI9'.out; have := HSL.out; unfold wrap64; omega
       have w3 : wrap64 (2 * ((i : Int) + 1) + 1) = 2 * ((i : Int) + 1) + 1 := by have := HI9'.out; have := HSL.out; unfold wrap64; omega
       have w4 : wrap64 (2 * ((i : Int) + 1) + 1 - x) = 2 * ((i : Int) + 1) + 1 - x := by have := HXV.out; have := HI9'.out; have := HSL.out; unfold wrap64; omega
       have w5 : wrap64 x = x := by have := HXV.out; unfold wrap64; omega
       go_wp2_with ((with_reducible refine gate_builtin (b := .append) (xs := #[.tmp 32, .tmp 40]) rfl ?_); at_builtin; refine Kd.R_append (Kd.int .i64) (w0 := w) w.heap.size rfl (.tmp 32) (.tmp 40) 24 3 (.int .i64 0) 8 rfl Try.underlying24 info3 rfl (by decide) (by omega) (.slice A9 (litsN s i).length c9) (litsN s i) (2 * ((i : Int) + 1) + 1 - x) [.int .i64 (2 * ((i : Int) + 1) + 1 - x)] (fun _ => True) (fun _ => False) rfl rfl ?aP (fun _ hk => hk.elim) ?aF ?aO ?aB ?aS ?aL ?_; (case aP => exact rfl); (case aF => exact fun _ _ => trivial); (case aO => exact R9.out); (case aB => exact S9.out.hb); (case aS => exact below_size S9.out.hb); (case aL => have := litsN_len s i; have := HSL.out; have := HI9.out; omega); intro v5 w5 ho hb hg hat; have S5 := M_ (StG.over S9.out hg (Kd.R_typed R9.out) hb); have B5 := M_ (blk_grown B9.out hg (Kd.R_ne R9.out B9.out (by decide))); have N5 := M_ (Kd.R_after N9.out hg hat); rw [← HLX.out] at ho; obtain ⟨A5, c5, rfl⟩ := Kd.R_slice ho; have R5 := M_ ho; clear ho hb hg hat)
       go_roundg k2
       case measure => exact Nat.lt_succ_self _
       case rel => exact ⟨i + 1, A5, c5, rfl, congrArg (Value.int .i64) (show wrap64 ((i : Int) + 1) = ((i + 1 : Nat) : Int) by have := HI9'.out; have := HSL.out; unfold wrap64; omega), ⟨by have := HI9.out; omega⟩, S5, B5, N5, R5⟩
 ·rw [if_neg hok] at h
  cases h

end Go.Proofs.Ytmcdanpecajklaa.QTernsimValues
