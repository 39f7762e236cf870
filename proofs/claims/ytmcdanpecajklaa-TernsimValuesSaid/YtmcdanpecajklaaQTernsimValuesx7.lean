-- Made by wip/myprint.sh (a patched print): a text of this session's own.
import Derived.Test.YtmcdanpecajklaaQTernsimValuesx0
import Derived.Test.YtmcdanpecajklaaQTernsimValuesx1
import Derived.Test.YtmcdanpecajklaaQTernsimValuesx5
import Derived.Test.YtmcdanpecajklaaQTernsimValuesx6
namespace Go.Proofs.Ytmcdanpecajklaa.QTernsimValues
open Go.RowKit Go.Proofs.YtmcdanpecajklaaW.PrintWords Go.Proofs.YtmcdanpecajklaaW.PrintLast Go.Proofs.YtmcdanpecajklaaW.PrintMore
attribute [local go_sem] max2_int min2_int max_two min_two max_three min_three max_four min_four
set_option linter.unusedVariables false
set_option linter.unusedSimpArgs false

def hash_begin.dep : Nat := 0
theorem h_xorNat (n : Nat) : n ^^^ 1 = if n % 2 = 0 then n + 1 else n - 1 := by
 have h1 : (n ^^^ 1) / 2 = n / 2 := by rw [Nat.xor_div_two]; simp
 have h2 : (n ^^^ 1) % 2 = (n + 1) % 2 := by
  have h := @Nat.xor_mod_two_eq_one n 1
  rcases Nat.mod_two_eq_zero_or_one n with e | e <;> rcases Nat.mod_two_eq_zero_or_one (n ^^^ 1) with e' | e' <;> simp [e, e'] at h <;> omega
 split <;> omega
theorem h_i64 (n : Nat) (h : n < 9223372036854775808) : IntKind.i64.wrap (n : Int) = n := by rw [IntKind.wrap_i64]; omega
theorem h_bxor (a b : Nat) (ha : a < 9223372036854775808) (hb : b < 9223372036854775808) (hx : a ^^^ b < 9223372036854775808) : Go.bits .xor .i64 (a : Int) (b : Int) = ((a ^^^ b : Nat) : Int) := by
 have hc : ((BitVec.ofInt 64 (a : Int)) ^^^ (BitVec.ofInt 64 (b : Int))).toNat = a ^^^ b := by
  rw [BitVec.ofInt_natCast, BitVec.ofInt_natCast, BitVec.toNat_xor, BitVec.toNat_ofNat, BitVec.toNat_ofNat, Nat.mod_eq_of_lt (by omega), Nat.mod_eq_of_lt (by omega)]
 have := h_i64 _ hx
 rw [← hc] at this ⊢
 exact this
def notH (x : Int) : Int := if x % 2 = 0 then x + 1 else x - 1
theorem h_bxor1 (a : Int) (h0 : 0 ≤ a) (h1 : a < 9223372036854775807) : Go.bits .xor .i64 a 1 = notH a := by
 obtain ⟨n, rfl⟩ := Int.eq_ofNat_of_zero_le h0
 have := h_bxor n 1 (by omega) (by omega) (by rw [h_xorNat]; split <;> omega)
 rw [show ((1 : Nat) : Int) = 1 from rfl] at this
 rw [this, h_xorNat, notH]
 split <;> split <;> omega
/-! the map of the gates, by their parts -/
theorem keyH : Go.WideMaps.ArrKey Try.prog 163 3 2 := ⟨Try.underlying163, by kernel_rfl, by kernel_rfl, by kernel_rfl⟩
theorem lawH : Go.Maps.Keyed Try.prog 163 := Go.Maps.Keyed.of_law keyH.law
theorem zeroH (w : World) : (zeroValue 3).run Try.prog w = .ok (.int .i64 0) w := by kernel_rfl
theorem sizeH : ∃ m, Try.prog.types.size = m + 1 := ⟨Try.prog.types.size - 1, by kernel_rfl⟩
def kx (x y : Int) : Lit := .string (keyBytes [.int .i64 x, .int .i64 y])
theorem kx_of {x y : Int} (wx : (Lit.int .i64 x).wf = true) (wy : (Lit.int .i64 y).wf = true) : keyOf Try.prog 163 (.agg #[.int .i64 x, .int .i64 y]) = some (kx x y) :=
 Go.WideMaps.keyOf_pair keyH Try.underlying3 sizeH wx wy
theorem kx_key {x y : Int} (wx : (Lit.int .i64 x).wf = true) (wy : (Lit.int .i64 y).wf = true) : WideAt.IsKeyLit (kx x y) := lawH.key (kx_of wx wy)
theorem kx_inj {x y x' y' : Int} (wx : (Lit.int .i64 x).wf = true) (wy : (Lit.int .i64 y).wf = true) (wx' : (Lit.int .i64 x').wf = true) (wy' : (Lit.int .i64 y').wf = true) (h : kx x y = kx x' y') : x = x' ∧ y = y' := by
 have := lawH.inj (kx_of wx wy) (h ▸ kx_of wx' wy')
 simpa using this
def KnownM (W : World) (b n : Nat) (f : Int → Int → Option Int) : Prop :=
 ∃ D : DataW Unit, W.ownsMap Try.prog 163 (plainElem Try.prog 3) b n D ∧ ∀ x y : Int, (Lit.int .i64 x).wf = true → (Lit.int .i64 y).wf = true → Go.Maps.has D (kx x y) = (f x y).isSome ∧ ∀ v, f x y = some v → D.atKey (kx x y) (.lit (.int .i64 0)) = .lit (.int .i64 v)
theorem KnownM.made (W : World) : KnownM (W.alloc (.map #[] 0)) W.heap.size 0 (fun _ _ => none) :=
 ⟨.map [], World.ownsMap_made _ _ _ _, fun _ _ _ _ => ⟨rfl, fun _ h => by cases h⟩⟩
theorem KnownM.kept {W W' : World} {b n : Nat} {f : Int → Int → Option Int} {row : Option Nat} (h : KnownM W b n f) (hg : W.grownBy W' row) (hne : some b ≠ row) : KnownM W' b n f := by
 obtain ⟨D, h1, h2⟩ := h
 exact ⟨D, h1.kept hg hne, h2⟩
theorem KnownM.keep {W W' : World} {b n : Nat} {f : Int → Int → Option Int} (h : KnownM W b n f) (hk : W'.heap[b]? = W.heap[b]?) : KnownM W' b n f := by
 obtain ⟨D, ⟨es, cl, h1, h3⟩, h2⟩ := h
 exact ⟨D, ⟨es, cl, hk.trans h1, h3⟩, h2⟩
theorem KnownM.lt {W : World} {b n : Nat} {f : Int → Int → Option Int} (h : KnownM W b n f) : b < W.heap.size := by
 obtain ⟨D, h1, -⟩ := h
 exact h1.lt
theorem KnownM.below {W W' : World} {b n : Nat} {f : Int → Int → Option Int} (h : KnownM W b n f) (hb : Below W.heap.size W W') : KnownM W' b n f := h.keep (hb.block b h.lt)
theorem KnownM.blk {W : World} {b n : Nat} {f : Int → Int → Option Int} (h : KnownM W b n f) : ∃ es cl, W.heap[b]? = some (.map es cl) := by
 obtain ⟨D, ⟨es, cl, h1, -⟩, -⟩ := h
 exact ⟨es, cl, h1⟩
theorem lit_inj {x y : Int} (h : (DataW.lit (.int .i64 x) : DataW Unit) = .lit (.int .i64 y)) : x = y := by
 have h1 : Lit.int .i64 x = Lit.int .i64 y := by injection h
 have h2 : IntKind.i64 = IntKind.i64 ∧ x = y := by simpa only [Lit.int.injEq] using h1
 exact h2.2
theorem KnownM.look {W : World} {b n : Nat} {f : Int → Int → Option Int} (h : KnownM W b n f) {x y : Int} (wx : (Lit.int .i64 x).wf = true) (wy : (Lit.int .i64 y).wf = true) :
  (Instr.lookup 136 (.map (some b)) (.agg #[.int .i64 x, .int .i64 y]) true).run Try.prog W = .ok (.tuple #[.int .i64 ((f x y).getD 0), .bool (f x y).isSome]) W := by
 obtain ⟨D, h1, h2⟩ := h
 obtain ⟨v, ps, hrun, hv⟩ := h1.look_ok (e := 3) lawH Try.underlying136 (zeroH W) (plainElem_int (H := Unit) Try.underlying3 (show (Lit.int .i64 0).wf = true by decide)) (kx_of wx wy)
 obtain ⟨c, rfl, hc, _⟩ := plainElem_int_inv Try.underlying3 hv
 obtain ⟨g1, g2⟩ := h2 x y wx wy
 have hc1 : D.atKey (kx x y) (.lit (.int .i64 0)) = .lit (.int .i64 c) := congrArg Prod.fst hc
 rw [hrun, g1]
 cases e : f x y with
 | none =>
  rw [e] at g1
  rw [Go.Maps.atKey_of_not_has g1] at hc1
  have hc2 : (0 : Int) = c := lit_inj hc1
  rw [← hc2]
  rfl
 | some u =>
  rw [g2 u e] at hc1
  have hc2 : u = c := lit_inj hc1
  rw [← hc2]
  rfl
theorem KnownM.store {W : World} {b n : Nat} {f : Int → Int → Option Int} (h : KnownM W b n f) (hn : n < 1000000000) {x y v : Int} (wx : (Lit.int .i64 x).wf = true) (wy : (Lit.int .i64 y).wf = true) (wv : (Lit.int .i64 v).wf = true) :
  ∃ es cl, (Instr.mapUpdate 136 (.map (some b)) (.agg #[.int .i64 x, .int .i64 y]) (.int .i64 v)).run Try.prog W = .ok () (Go.ChangeMaps.setBlock W b (.map es cl)) ∧ KnownM (Go.ChangeMaps.setBlock W b (.map es cl)) b (n + 1) (fun x' y' => if x' = x ∧ y' = y then some v else f x' y') := by
 obtain ⟨D, h1, h2⟩ := h
 obtain ⟨w', hrun, h3, es0, c0, es, cl, hb0, rfl⟩ := h1.store (e := 3) lawH Try.underlying136 (by unfold maxLen; omega) (kx_of wx wy) (plainElem_int (H := Unit) Try.underlying3 wv)
 refine ⟨es, cl, hrun, _, h3, fun x' y' wx' wy' => ?_⟩
 by_cases c : x' = x ∧ y' = y
 ·obtain ⟨rfl, rfl⟩ := c
  dsimp only
  rw [if_pos ⟨rfl, rfl⟩]
  refine ⟨Go.Maps.has_put_same h1.isMap (kx_key wx' wy') _, fun u hu => ?_⟩
  rw [← Option.some.inj hu]
  exact Go.Maps.atKey_put_same h1.isMap (kx_key wx' wy') _ _
 ·dsimp only
  rw [if_neg c]
  have hne : kx x' y' ≠ kx x y := fun e => c (kx_inj wx' wy' wx wy e)
  obtain ⟨g1, g2⟩ := h2 x' y' wx' wy'
  exact ⟨(Go.Maps.has_put_other hne _).trans g1, fun u hu => (Go.Maps.atKey_put_other hne _ _).trans (g2 u hu)⟩
def findG (first : Int) (gs : List S69) (x y : Int) : Option Int := (gs.findIdx? (fun g => decide (g.f0 = x ∧ g.f1 = y))).map (fun i : Nat => 2 * (first + (i : Int)))
def andP (first : Int) (gs : List S69) (x y : Int) : List S69 × Int :=
 if x = 0 ∨ y = 0 ∨ x = Go.bits .xor .i64 y 1 then (gs, 0)
 else if x = 1 ∨ x = y then (gs, y)
 else if y = 1 then (gs, x)
 else match findG first gs (mx x y) (mn x y) with
  | some l => (gs, l)
  | none => (gs ++ [⟨mx x y, mn x y⟩], 2 * (first + (gs.length : Int)))
structure StK (P : Nat → Prop) (w W : World) (bb bm : Nat) (ins : Int) (L : List S36) (gs : List S69) (bads cons : List Int) (n : Nat) (f : Int → Int → Option Int) : Prop where
 hb : Below w.heap.size w W
 lb : w.heap.size ≤ bb
 lm : w.heap.size ≤ bm
 blk : ∃ vL vA vB vC, W.heap[bb]? = some (.cells #[.int .i64 ins, vL, vA, vB, vC, .map (some bm)] 138 (0, 0)) ∧ Kd.R k36 36 W w.heap.size (fun _ => True) vL L ∧ Kd.R k69 69 W w.heap.size (fun _ => True) vA gs ∧ Kd.R (Kd.int .i64) 3 W w.heap.size (fun k => some k ≠ vC.ownBlock ∧ P k) vB bads ∧ Kd.R (Kd.int .i64) 3 W w.heap.size (fun k => some k ≠ vB.ownBlock ∧ P k) vC cons
 known : KnownM W bm n f
abbrev StH (P : Nat → Prop) (w W : World) (bb bm : Nat) (ins : Int) (L : List S36) (gs : List S69) (bads cons : List Int) : Prop := StK P w W bb bm ins L gs bads cons gs.length (findG (ins + (L.length : Int) + 1) gs)
def Few (ins : Int) (L : List S36) (gs : List S69) (bads cons : List Int) : Prop := 0 ≤ ins ∧ ins ≤ 1000000 ∧ L.length ≤ 1000000 ∧ gs.length ≤ 1000000 ∧ bads.length ≤ 1000000 ∧ cons.length ≤ 1000000
section
variable {P : Nat → Prop} {w W W' : World} {bb bm : Nat} {ins : Int} {L : List S36} {gs : List S69} {bads cons : List Int} {n : Nat} {f : Int → Int → Option Int}
theorem StK.below (h : StK P w W bb bm ins L gs bads cons n f) (hb : Below W.heap.size W W') : StK P w W' bb bm ins L gs bads cons n f := by
 obtain ⟨h0, h1, h2, ⟨vL, vA, vB, vC, h3, h4, h5, h6, h7⟩, h8⟩ := h
 exact ⟨below_step h0 hb, h1, h2, ⟨vL, vA, vB, vC, blk_below h3 hb, Kd.R_below h4 hb, Kd.R_below h5 hb, Kd.R_below h6 hb, Kd.R_below h7 hb⟩, h8.below hb⟩
theorem StK.lower {w0 : World} (h : StK P w W bb bm ins L gs bads cons n f) (hb : Below w0.heap.size w0 w) : StK P w0 W bb bm ins L gs bads cons n f := by
 have hs := hb.size
 obtain ⟨h0, h1, h2, ⟨vL, vA, vB, vC, h3, h4, h5, h6, h7⟩, h8⟩ := h
 exact ⟨below_step hb h0, by omega, by omega, ⟨vL, vA, vB, vC, h3, Kd.R_lower h4 hs, Kd.R_lower h5 hs, Kd.R_lower h6 hs, Kd.R_lower h7 hs⟩, h8⟩
theorem StK.cells (h : StK P w W bb bm ins L gs bads cons n f) : ∃ AL cL AA cA AB cB AC cC, W.heap[bb]? = some (.cells #[.int .i64 ins, .slice AL L.length cL, .slice AA gs.length cA, .slice AB bads.length cB, .slice AC cons.length cC, .map (some bm)] 138 (0, 0)) ∧ Kd.R k36 36 W w.heap.size (fun _ => True) (.slice AL L.length cL) L ∧ Kd.R k69 69 W w.heap.size (fun _ => True) (.slice AA gs.length cA) gs ∧ Kd.R (Kd.int .i64) 3 W w.heap.size (fun k => some k ≠ (Value.slice AC cons.length cC).ownBlock ∧ P k) (.slice AB bads.length cB) bads ∧ Kd.R (Kd.int .i64) 3 W w.heap.size (fun k => some k ≠ (Value.slice AB bads.length cB).ownBlock ∧ P k) (.slice AC cons.length cC) cons := by
 obtain ⟨vL, vA, vB, vC, h3, h4, h5, h6, h7⟩ := h.blk
 obtain ⟨AL, cL, rfl⟩ := Kd.R_slice h4
 obtain ⟨AA, cA, rfl⟩ := Kd.R_slice h5
 obtain ⟨AB, cB, rfl⟩ := Kd.R_slice h6
 obtain ⟨AC, cC, rfl⟩ := Kd.R_slice h7
 exact ⟨AL, cL, AA, cA, AB, cB, AC, cC, h3, h4, h5, h6, h7⟩
end
theorem beqT {a b : Int} (h : a = b) : (a == b) = true := beq_iff_eq.2 h
theorem beqF {a b : Int} (h : ¬ a = b) : (a == b) = false := beq_eq_false_iff_ne.2 h
def KeepH (W W' : World) : Prop := W.heap.size ≤ W'.heap.size ∧ ∀ (k : Nat) (cs : Array Value) (t : TypeId) (fr : Nat × Nat), W.heap[k]? = some (.cells cs t fr) → t ≠ 138 → t ≠ 69 → W'.heap[k]? = some (.cells cs t fr)
theorem KeepH.refl (W : World) : KeepH W W := ⟨Nat.le_refl _, fun _ _ _ _ h _ _ => h⟩
theorem KeepH.trans {W W' W2 : World} (h : KeepH W W') (h' : KeepH W' W2) : KeepH W W2 := ⟨Nat.le_trans h.1 h'.1, fun k cs t fr e a b => h'.2 k cs t fr (h.2 k cs t fr e a b) a b⟩
theorem KeepH.below {W W' : World} (h : Below W.heap.size W W') : KeepH W W' := ⟨h.size, fun k cs t fr e _ _ => (h.block k (Array.getElem?_eq_some_iff.1 e).1).trans e⟩
set_option maxHeartbeats 4000000 in
set_option maxRecDepth 100000 in
theorem hand_simple {w W : World} {bb bm : Nat} {ins : Int} {L : List S36} {gs : List S69} {bads cons : List Int} (x y : Int) (hc : x = 0 ∨ y = 0 ∨ x = Go.bits .xor .i64 y 1 ∨ x = 1 ∨ x = y ∨ y = 1) :
  Calls Try.prog 87 #[.pointer (some ⟨bb, 0, none⟩), .int .i64 x, .int .i64 y] W fun e W' => e = .returned (.int .i64 (andP (ins + (L.length : Int) + 1) gs x y).2) ∧ (andP (ins + (L.length : Int) + 1) gs x y).1 = gs ∧ Below W.heap.size W W' := by
 unfold andP
 by_cases c1 : x = 0
 ·rw [if_pos (Or.inl c1)]
  have b1 := beqT c1
  clear hc c1
  go_enter Try.func87, Try.ntmps87
  go_wp2
  go_ret
  exact ⟨by simp, by simp, Below.refl _ _⟩
 have b1 := beqF c1
 by_cases c2 : y = 0
 ·rw [if_pos (Or.inr (Or.inl c2))]
  have b2 := beqT c2
  clear hc c1 c2
  go_enter Try.func87, Try.ntmps87
  go_wp2
  go_ret
  exact ⟨by simp, by simp, Below.refl _ _⟩
 have b2 := beqF c2
 by_cases c3 : x = Go.bits .xor .i64 y 1
 ·rw [if_pos (Or.inr (Or.inr c3))]
  have b3 := beqT c3
  clear hc c1 c2 c3
  go_enter Try.func87, Try.ntmps87
  go_wp2
  go_ret
  exact ⟨by simp, by simp, Below.refl _ _⟩
 have b3 := beqF c3
 rw [if_neg (by rintro (h | h | h) <;> contradiction)]
 by_cases c4 : x = 1
 ·rw [if_pos (Or.inl c4)]
  have b4 := beqT c4
  clear hc c1 c2 c3 c4
  go_enter Try.func87, Try.ntmps87
  go_wp2
  go_ret
  exact ⟨by simp, by simp, Below.refl _ _⟩
 have b4 := beqF c4
 by_cases c5 : x = y
 ·rw [if_pos (Or.inr c5)]
  have b5 := beqT c5
  clear hc c1 c2 c3 c4 c5
  go_enter Try.func87, Try.ntmps87
  go_wp2
  go_ret
  exact ⟨by simp, by simp, Below.refl _ _⟩
 have b5 := beqF c5
 rw [if_neg (by rintro (h | h) <;> contradiction)]
 by_cases c6 : y = 1
 ·rw [if_pos c6]
  have b6 := beqT c6
  clear hc c1 c2 c3 c4 c5 c6
  go_enter Try.func87, Try.ntmps87
  go_wp2
  go_ret
  exact ⟨by simp, by simp, Below.refl _ _⟩
 ·rcases hc with h | h | h | h | h | h <;> contradiction
theorem KeepH.blk {W W' : World} {k t : Nat} {cs : Array Value} (h : KeepH W W') (hb : W.heap[k]? = some (.cells cs t (0, 0))) (a : t ≠ 138) (b : t ≠ 69) : W'.heap[k]? = some (.cells cs t (0, 0)) := h.2 k cs t (0, 0) hb a b
theorem look_box {P : Nat → Prop} {w W : World} {bb bm : Nat} {ins : Int} {L : List S36} {gs : List S69} {bads cons : List Int} (h : StH P w W bb bm ins L gs bads cons) {x y : Int} (wx : (Lit.int .i64 x).wf = true) (wy : (Lit.int .i64 y).wf = true) (W' : World) (hb : Below W.heap.size W W') :
  (Instr.lookup 136 (.map (some bm)) (.agg #[.int .i64 x, .int .i64 y]) true).run Try.prog W' = .ok (.tuple #[.int .i64 ((findG (ins + (L.length : Int) + 1) gs x y).getD 0), .bool (findG (ins + (L.length : Int) + 1) gs x y).isSome]) W' := (h.known.below hb).look wx wy
theorem alloc_cell {W : World} {b i : Nat} {t : TypeId} {cs : Array Value} (h : W.heap[b]? = some (.cells cs t (0, 0))) (o : Obj) (v : Value) (hv : cs[i]? = some v) : (W.alloc o).cell? ⟨b, i, none⟩ = some v := (blk_cell (blk_alloc h o) i).trans hv
set_option maxHeartbeats 4000000 in
set_option maxRecDepth 100000 in
theorem hand_found {P : Nat → Prop} {w W : World} {bb bm : Nat} {ins : Int} {L : List S36} {gs : List S69} {bads cons : List Int} (h : StH P w W bb bm ins L gs bads cons) (x y p q : Int) (hp : mx x y = p) (hq : mn x y = q) (hc : ¬ (x = 0 ∨ y = 0 ∨ x = Go.bits .xor .i64 y 1 ∨ x = 1 ∨ x = y ∨ y = 1)) (wx : (Lit.int .i64 p).wf = true) (wy : (Lit.int .i64 q).wf = true) (v : Int) (hv : findG (ins + (L.length : Int) + 1) gs p q = some v) :
  Calls Try.prog 87 #[.pointer (some ⟨bb, 0, none⟩), .int .i64 x, .int .i64 y] W fun e W' => e = .returned (.int .i64 v) ∧ Below W.heap.size W W' := by
 obtain ⟨AL, cL, AA, cA, AB, cB, AC, cC, h3, h4, h5, h6, h7⟩ := h.cells
 have b1 := beqF (fun e => hc (Or.inl e) : ¬ x = 0)
 have b2 := beqF (fun e => hc (Or.inr (Or.inl e)) : ¬ y = 0)
 have b3 := beqF (fun e => hc (Or.inr (Or.inr (Or.inl e))) : ¬ x = Go.bits .xor .i64 y 1)
 have b4 := beqF (fun e => hc (Or.inr (Or.inr (Or.inr (Or.inl e)))) : ¬ x = 1)
 have b5 := beqF (fun e => hc (Or.inr (Or.inr (Or.inr (Or.inr (Or.inl e))))) : ¬ x = y)
 have b6 := beqF (fun e => hc (Or.inr (Or.inr (Or.inr (Or.inr (Or.inr e))))) : ¬ y = 1)
 have ep : (if x < y then y else x) = p := hp
 have eq : (if y < x then y else x) = q := hq
 have hz5 := alloc_cell h3 (.cells #[.int .i64 p, .int .i64 q] 163) (i := 5) (.map (some bm)) rfl
 have hl := fun (m : Nat) => look_box h wx wy ((W.alloc (.cells #[.int .i64 p, .int .i64 q] 163)).drewN m) (pw_below_drewN (below_alloc (Below.refl _ _) _) m)
 rw [hv] at hl
 simp only [Option.getD_some, Option.isSome_some] at hl
 have hu0 := Try.underlying138
 have hu1 := Try.underlying26
 have hu2 := Try.underlying163
 clear h h3 h4 h5 h6 h7 hc hv wx wy hp hq
 go_enter Try.func87, Try.ntmps87
 go_wp2
 go_quiet (fail)
 go_wp2
 go_ret
 exact ⟨by simp, by first | exact pw_below_drewN (below_alloc (Below.refl _ _) _) _⟩
section
variable {P : Nat → Prop} {w W X w1 Y : World} {bb bm : Nat} {ins : Int} {L : List S36} {gs gs' : List S69} {bads cons : List Int} {n : Nat} {f : Int → Int → Option Int}
theorem KeepH.set {W : World} {b i : Nat} {cs : Array Value} (h : W.heap[b]? = some (.cells cs 138 (0, 0))) (v : Value) : KeepH W (W.setCell ⟨b, i, none⟩ v) := by
 refine ⟨by simp, fun k cs' t fr e a _ => ?_⟩
 have hne : k ≠ b := by
  rintro rfl
  rw [h] at e
  injection e with e
  injection e with _ e
  exact a e.symm
 exact (Below.heap_setCell W _ v k hne).trans e
theorem KeepH.grown {W W' : World} {row : Option Nat} (hg : W.grownBy W' row) (hr : ∀ k, row = some k → ∃ cs, W.heap[k]? = some (.cells cs 69 (0, 0))) : KeepH W W' := by
 refine ⟨hg.size, fun k cs' t fr e _ b => (hg.block k (Array.getElem?_eq_some_iff.1 e).1 ?_).trans e⟩
 intro hk
 obtain ⟨cs, hc⟩ := hr k hk.symm
 rw [hc] at e
 injection e with e
 injection e with _ e
 exact b e.symm
theorem KeepH.map {W : World} {b : Nat} {es : Array MapEntry} {c : Nat} (h : W.heap[b]? = some (.map es c)) (o : Obj) : KeepH W (Go.ChangeMaps.setBlock W b o) := by
 refine ⟨by simp [Go.ChangeMaps.setBlock], fun k cs' t fr e _ _ => (Go.ChangeMaps.heap_setBlock_other h o ?_).trans e⟩
 rintro rfl
 rw [h] at e
 cases e
theorem StK.push (h : StK P w X bb bm ins L gs bads cons n f) {vA v1 : Value} {AA : Option Addr} {cA : Nat} (hv : vA = .slice AA gs.length cA) (hc2 : X.cell? ⟨bb, 2, none⟩ = some vA) (hb1 : Below w.heap.size w w1) (hg : X.grownBy w1 vA.ownBlock)
  (hr : Kd.R k69 69 w1 w.heap.size (fun _ => True) v1 gs') :
  StK P w (w1.setCell ⟨bb, 2, none⟩ v1) bb bm ins L gs' bads cons n f ∧ KeepH X (w1.setCell ⟨bb, 2, none⟩ v1) ∧ ∃ cs, w1.heap[bb]? = some (.cells cs 138 (0, 0)) ∧ (cs[2]?).isSome = true := by
 obtain ⟨h0, l1, l2, ⟨vL, vA', vB, vC, h3, h4, h5, h6, h7⟩, h8⟩ := h
 have e2 : vA' = vA := by
  have := (blk_cell h3 2).symm.trans hc2
  simpa using this
 subst e2
 have hrow : ∀ k, vA'.ownBlock = some k → ∃ cs, X.heap[k]? = some (.cells cs 69 (0, 0)) := Kd.R_typed h5
 have hne : some bb ≠ vA'.ownBlock := fun e => by
  obtain ⟨cs, hc⟩ := hrow bb e.symm
  rw [hc] at h3
  injection h3 with h3
  injection h3 with _ h3
  exact absurd h3 (by decide)
 have hb3 := blk_grown h3 hg hne
 have hme : some bm ≠ vA'.ownBlock := fun e => by
  obtain ⟨cs, hc⟩ := hrow bm e.symm
  obtain ⟨es, cl, hm⟩ := h8.blk
  rw [hc] at hm
  cases hm
 have g4 := Kd.R_over' h4 hrow (by decide) hg
 have g6 := Kd.R_over' h6 hrow (by decide) hg
 have g7 := Kd.R_over' h7 hrow (by decide) hg
 refine ⟨⟨hb1.setCell l1 _, l1, l2, ⟨vL, v1, vB, vC, ?_, Kd.R_set g4 hb3 (by decide) 2 _, Kd.R_set hr hb3 (by decide) 2 _, Kd.R_set g6 hb3 (by decide) 2 _, Kd.R_set g7 hb3 (by decide) 2 _⟩, ?_⟩, (KeepH.grown hg hrow).trans (KeepH.set hb3 v1), _, hb3, rfl⟩
 ·have := blk_set hb3 2 v1
  simpa using this
 ·refine (h8.kept hg hme).keep (Below.heap_setCell _ _ _ _ ?_)
  rintro rfl
  obtain ⟨es, cl, hm⟩ := (h8.kept hg hme).blk
  rw [hm] at hb3
  cases hb3
theorem StK.put (h : StK P w Y bb bm ins L gs bads cons n f) (hn : n < 1000000000) {x y v : Int} (wx : (Lit.int .i64 x).wf = true) (wy : (Lit.int .i64 y).wf = true) (wv : (Lit.int .i64 v).wf = true) :
  ∃ es cl, (Instr.mapUpdate 136 (.map (some bm)) (.agg #[.int .i64 x, .int .i64 y]) (.int .i64 v)).run Try.prog Y = .ok () (Go.ChangeMaps.setBlock Y bm (.map es cl)) ∧ StK P w (Go.ChangeMaps.setBlock Y bm (.map es cl)) bb bm ins L gs bads cons (n + 1) (fun x' y' => if x' = x ∧ y' = y then some v else f x' y') ∧ KeepH Y (Go.ChangeMaps.setBlock Y bm (.map es cl)) := by
 obtain ⟨h0, l1, l2, ⟨vL, vA, vB, vC, h3, h4, h5, h6, h7⟩, h8⟩ := h
 obtain ⟨es0, cl0, hm⟩ := h8.blk
 obtain ⟨es, cl, hrun, h9⟩ := h8.store hn wx wy wv
 have ot : ∀ {k : Nat} {cs : Array Value} {t : TypeId} {fr : Nat × Nat}, Y.heap[k]? = some (.cells cs t fr) → (Go.ChangeMaps.setBlock Y bm (.map es cl)).heap[k]? = Y.heap[k]? := fun hk => Go.ChangeMaps.heap_setBlock_other hm _ (by rintro rfl; rw [hm] at hk; cases hk)
 have mv : ∀ {α : Type} {d : Kd α} {e : Nat} {ok : Nat → Prop} {u : Value} {xs : List α}, d.R e Y w.heap.size ok u xs → d.R e (Go.ChangeMaps.setBlock Y bm (.map es cl)) w.heap.size ok u xs := fun hR => Kd.R_mono (Kd.R_move (Kd.R_bound hR) (fun k hk => by
  obtain ⟨_, _, _, q, _, cells, hc⟩ := hk
  exact ot hc)) (fun _ hk => hk.1)
 refine ⟨es, cl, hrun, ⟨?_, l1, l2, ⟨vL, vA, vB, vC, (ot h3).trans h3, mv h4, mv h5, mv h6, mv h7⟩, h9⟩, KeepH.map hm _⟩
 refine ⟨h0.os, h0.tape, h0.output, by simpa [Go.ChangeMaps.setBlock] using h0.size, fun i hi => ?_⟩
 exact (Go.ChangeMaps.heap_setBlock_other hm _ (by omega)).trans (h0.block i hi)
end
theorem StK.pushed {w1 : World} {bb t : Nat} (h : ∃ cs, w1.heap[bb]? = some (.cells cs t (0, 0)) ∧ (cs[2]?).isSome = true) : ∃ u, w1.cell? ⟨bb, 2, none⟩ = some u := by
 obtain ⟨cs, h1, h2⟩ := h
 rw [blk_cell h1 2]
 exact Option.isSome_iff_exists.1 h2
theorem StK.pushed2 {w1 : World} {bb t : Nat} (h : ∃ cs, w1.heap[bb]? = some (.cells cs t (0, 0)) ∧ (cs[2]?).isSome = true) : w1.frozen? ⟨bb, 2, none⟩ = false := by
 obtain ⟨cs, h1, h2⟩ := h
 exact blk_frozen h1 2
theorem findG_push (first : Int) (gs : List S69) (p q : Int) (h : findG first gs p q = none) : (fun x' y' => if x' = p ∧ y' = q then some (2 * (first + (gs.length : Int))) else findG first gs x' y') = findG first (gs ++ [⟨p, q⟩]) := by
 funext x' y'
 unfold findG at h ⊢
 rw [List.findIdx?_append]
 rw [Option.map_eq_none_iff] at h
 by_cases c : x' = p ∧ y' = q
 ·obtain ⟨rfl, rfl⟩ := c
  rw [if_pos ⟨rfl, rfl⟩, h]
  simp
 ·rw [if_neg c]
  cases e : gs.findIdx? (fun g => decide (g.f0 = x' ∧ g.f1 = y')) with
  | some i => simp
  | none =>
   have : ¬ (p = x' ∧ q = y') := fun h => c ⟨h.1.symm, h.2.symm⟩
   simp [List.findIdx?_cons, this]
theorem findG_again (first : Int) (gs : List S69) (p q : Int) (h : (findG first gs p q).isSome = true) : findG first (gs ++ [⟨p, q⟩]) = findG first gs := by
 funext x' y'
 unfold findG at h ⊢
 rw [List.findIdx?_append]
 cases e : gs.findIdx? (fun g => decide (g.f0 = x' ∧ g.f1 = y')) with
 | some i => simp
 | none =>
  have : ¬ (p = x' ∧ q = y') := by
   rintro ⟨rfl, rfl⟩
   rw [e] at h
   simp at h
  simp [List.findIdx?_cons, this]
theorem KnownM.up {W : World} {b n m : Nat} {f : Int → Int → Option Int} (h : KnownM W b n f) (hm : n ≤ m) : KnownM W b m f := by
 obtain ⟨D, h1, h2⟩ := h
 exact ⟨D, h1.mono hm, h2⟩
theorem StK.up {P : Nat → Prop} {w W : World} {bb bm : Nat} {ins : Int} {L : List S36} {gs : List S69} {bads cons : List Int} {n m : Nat} {f : Int → Int → Option Int} (h : StK P w W bb bm ins L gs bads cons n f) (hm : n ≤ m) : StK P w W bb bm ins L gs bads cons m f := ⟨h.hb, h.lb, h.lm, h.blk, h.known.up hm⟩
set_option maxHeartbeats 8000000 in
set_option maxRecDepth 100000 in
theorem hand_new {P : Nat → Prop} {w W : World} {bb bm : Nat} {ins : Int} {L : List S36} {gs : List S69} {bads cons : List Int} (h : StH P w W bb bm ins L gs bads cons) (hf : Few ins L gs bads cons) (x y p q : Int) (hp : mx x y = p) (hq : mn x y = q) (hc : ¬ (x = 0 ∨ y = 0 ∨ x = Go.bits .xor .i64 y 1 ∨ x = 1 ∨ x = y ∨ y = 1)) (wx : (Lit.int .i64 p).wf = true) (wy : (Lit.int .i64 q).wf = true) (hv : findG (ins + (L.length : Int) + 1) gs p q = none) :
  Calls Try.prog 87 #[.pointer (some ⟨bb, 0, none⟩), .int .i64 x, .int .i64 y] W fun e W' => e = .returned (.int .i64 (2 * (ins + (L.length : Int) + 1 + (gs.length : Int)))) ∧ StH P w W' bb bm ins L (gs ++ [⟨p, q⟩]) bads cons ∧ KeepH W W' := by
 obtain ⟨f0, f1, f2, f3, f4, f5⟩ := hf
 have b1 := beqF (fun e => hc (Or.inl e) : ¬ x = 0)
 have b2 := beqF (fun e => hc (Or.inr (Or.inl e)) : ¬ y = 0)
 have b3 := beqF (fun e => hc (Or.inr (Or.inr (Or.inl e))) : ¬ x = Go.bits .xor .i64 y 1)
 have b4 := beqF (fun e => hc (Or.inr (Or.inr (Or.inr (Or.inl e)))) : ¬ x = 1)
 have b5 := beqF (fun e => hc (Or.inr (Or.inr (Or.inr (Or.inr (Or.inl e))))) : ¬ x = y)
 have b6 := beqF (fun e => hc (Or.inr (Or.inr (Or.inr (Or.inr (Or.inr e))))) : ¬ y = 1)
 have ep : (if x < y then y else x) = p := hp
 have eq : (if y < x then y else x) = q := hq
 have HS := M_ (h.below (below_alloc (Below.refl W.heap.size W) (.cells #[.int .i64 p, .int .i64 q] 163)))
 have HK := M_ (KeepH.below (below_alloc (Below.refl W.heap.size W) (.cells #[.int .i64 p, .int .i64 q] 163)))
 have HX := M_ (heap_alloc_new W (.cells #[.int .i64 p, .int .i64 q] 163))
 have hl := fun (m : Nat) => look_box h wx wy ((W.alloc (.cells #[.int .i64 p, .int .i64 q] 163)).drewN m) (pw_below_drewN (below_alloc (Below.refl _ _) _) m)
 rw [hv] at hl
 simp only [Option.getD_none, Option.isSome_none] at hl
 have hu0 := Try.underlying138
 have hu1 := Try.underlying26
 have hu2 := Try.underlying163
 have HV := M_ hv
 have HW := M_ (And.intro wx wy)
 have HF := M_ (show 0 ≤ ins ∧ ins ≤ 1000000 ∧ L.length ≤ 1000000 ∧ gs.length ≤ 1000000 from ⟨f0, f1, f2, f3⟩)
 clear h hc hv wx wy hp hq f0 f1 f2 f3 f4 f5
 obtain ⟨AL, cL, AA, cA, AB, cB, AC, cC, h3, h4, h5, h6, h7⟩ := HS.out.cells
 have hz5 := (blk_cell h3 5).trans (show _ = some (.map (some bm)) from rfl)
 have hz2 := (blk_cell h3 2).trans (show _ = some (.slice AA gs.length cA) from rfl)
 have H5 := M_ h5
 clear h3 h4 h5 h6 h7
 go_enter Try.func87, Try.ntmps87
 go_wp2
 go_quiet (fail)
 go_upto_region 11 with fail
 go_cut [] (fun wx => Aside0 (StK P w wx bb bm ins L (gs ++ [⟨p, q⟩]) bads cons gs.length (findG (ins + (L.length : Int) + 1) gs)) ∧ Aside0 (wx.heap[W.heap.size]? = some (.cells #[.int .i64 p, .int .i64 q] 163 (0, 0))) ∧ Aside0 (KeepH W wx))
 case first =>
  have HX2 := M_ (HS.out.below (pw_below_drewN (Below.refl _ _) (nq + 1)))
  have HR2 := M_ (Kd.R_below H5.out (pw_below_drewN (Below.refl _ _) (nq + 1)))
  have HBX := M_ (blk_drewN HX.out (nq + 1))
  have hx0 := (blk_cell HBX.out 0).trans (show _ = some (.int .i64 p) from rfl)
  have hx1 := (blk_cell HBX.out 1).trans (show _ = some (.int .i64 q) from rfl)
  have hu23 := Try.underlying23
  have hx0' : (W.alloc (.cells #[.int .i64 p, .int .i64 q] 163)).cell? ⟨W.heap.size, 0, none⟩ = some (.int .i64 p) := hx0
  have hx1' : (W.alloc (.cells #[.int .i64 p, .int .i64 q] 163)).cell? ⟨W.heap.size, 1, none⟩ = some (.int .i64 q) := hx1
  have HL := M_ (show (gs.length + 1) * 16 ≤ 140737488355328 by have := HF.out; omega)
  have hz2' : (((W.alloc (.cells #[.int .i64 p, .int .i64 q] 163)).drewN (nq + 1)).alloc (.cells #[.int .i64 p, .int .i64 q] 69)).cell? ⟨bb, 2, none⟩ = some (.slice AA gs.length cA) := by
   obtain ⟨AL', cL', AA', cA', AB', cB', AC', cC', k3, -, -, -, -⟩ := HX2.out.cells
   have e : some (Value.slice AA' gs.length cA') = some (.slice AA gs.length cA) := (blk_cell k3 2).symm.trans hz2
   exact (blk_cell (blk_alloc k3 _) 2).trans e
  clear hx0 hx1
  go_region_law (go_loud (refine Kd.R_append_step k69 (w0 := w) w.heap.size (by rfl) (.tmp 60) (.tmp 66) 23 69 _ 16 rfl hu23 info69 rfl (by decide) (by decide) (.slice AA gs.length cA) gs ⟨p, q⟩ [.int .i64 p, .int .i64 q] (fun _ => True) (fun _ => False) rfl (congrArg (fun n_ => Value.slice (some ⟨n_, 0, none⟩) 1 1) (show W.heap.size + 1 = ((W.alloc (.cells #[.int .i64 p, .int .i64 q] 163)).drewN (nq + 1)).heap.size by simp)) (k69_mkM _ _ _ ⟨p, q⟩) (fun _ hk => hk.elim) (fun _ _ => trivial) HR2.out HX2.out.hb HX2.out.hb.size HL.out ?_; intro v1 w1 hr hb1 hg hat; clear hat; have HP := M_ (StK.push HX2.out rfl hz2 hb1 hg hr); obtain ⟨A2, c2, e2⟩ := Kd.R_slice hr; have hm2 : (gs ++ [⟨p, q⟩] : List S69).length = gs.length + 1 := (by simp); rw [hm2] at e2; subst e2; clear hm2 hr hb1 hg; obtain ⟨u1, hq1⟩ := StK.pushed HP.out.2.2; have hq2 := StK.pushed2 HP.out.2.2; have HBY := M_ (KeepH.blk HP.out.2.1 HBX.out (by decide) (by decide)); have HSY := M_ HP.out.1; have HKY := M_ (HK.out.trans ((KeepH.below (pw_below_drewN (Below.refl _ _) (nq + 1))).trans HP.out.2.1)); clear HP))
  all_goals (go_wp2_with fail; go_meet; exact ⟨HSY, HBY, HKY⟩)
 case rest =>
  obtain ⟨HSY, HBY, HKY⟩ := hcut
  clear hz5 hz2 H5 HS HK HX hl
  obtain ⟨BL, dL, BA, dA, BB, dB, BC, dC, k3, -, -, -, -⟩ := HSY.out.cells
  have hm2 : (gs ++ [⟨p, q⟩] : List S69).length = gs.length + 1 := by simp
  rw [hm2] at k3
  have hy0 := (blk_cell k3 0).trans (show _ = some (.int .i64 ins) from rfl)
  have hy1 := (blk_cell k3 1).trans (show _ = some (.slice BL L.length dL) from rfl)
  have hy2 := (blk_cell k3 2).trans (show _ = some (.slice BA (gs.length + 1) dA) from rfl)
  have hy5 := (blk_cell k3 5).trans (show _ = some (.map (some bm)) from rfl)
  have hp0 := (blk_cell HBY.out 0).trans (show _ = some (.int .i64 p) from rfl)
  have hp1 := (blk_cell HBY.out 1).trans (show _ = some (.int .i64 q) from rfl)
  have hF := HF.out
  have e1 : wrap64 (ins + (L.length : Int)) = ins + (L.length : Int) := by unfold wrap64; omega
  have e2 : wrap64 (ins + (L.length : Int) + ((gs.length : Int) + 1)) = ins + (L.length : Int) + 1 + (gs.length : Int) := by unfold wrap64; omega
  have e3 : wrap64 (2 * (ins + (L.length : Int) + 1 + (gs.length : Int))) = 2 * (ins + (L.length : Int) + 1 + (gs.length : Int)) := by unfold wrap64; omega
  have HWV := M_ (show (Lit.int .i64 (2 * (ins + (L.length : Int) + 1 + (gs.length : Int)))).wf = true by simp [Lit.wf, IntKind.min, IntKind.max, IntKind.signed, IntKind.bits]; omega)
  clear k3 hm2 hF
  go_wp2
  go_quiet (fail)
  go_wp2
  simp only [e3]
  obtain ⟨es, cl, hrun, HE0, HKE0⟩ := (HSY.out.below (pw_below_drewN (Below.refl _ _) (nq + 1))).put (by have := HF.out; omega) HW.out.1 HW.out.2 HWV.out
  have HE := M_ HE0
  have HKE := M_ HKE0
  clear HE0 HKE0 e1 e2 e3
  go_region
  all_goals (
   go_wp2
   go_ret
   refine ⟨by simp, ?_, HKY.out.trans ((KeepH.below (pw_below_drewN (Below.refl _ _) (nq + 1))).trans HKE.out)⟩
   have h1 := HE.out
   rw [findG_push _ _ _ _ HV.out] at h1
   have hm2 : (gs ++ [⟨p, q⟩] : List S69).length = gs.length + 1 := by simp
   show StK _ _ _ _ _ _ _ _ _ _ _ _
   rw [hm2]
   exact h1)
theorem andP_found {first : Int} {gs : List S69} {x y v : Int} (hc : ¬ (x = 0 ∨ y = 0 ∨ x = Go.bits .xor .i64 y 1 ∨ x = 1 ∨ x = y ∨ y = 1)) (hv : findG first gs (mx x y) (mn x y) = some v) : andP first gs x y = (gs, v) := by
 unfold andP
 rw [if_neg (fun h => hc (by rcases h with h | h | h <;> simp [h])), if_neg (fun h => hc (by rcases h with h | h <;> simp [h])), if_neg (fun h => hc (by simp [h])), hv]
theorem andP_new {first : Int} {gs : List S69} {x y : Int} (hc : ¬ (x = 0 ∨ y = 0 ∨ x = Go.bits .xor .i64 y 1 ∨ x = 1 ∨ x = y ∨ y = 1)) (hv : findG first gs (mx x y) (mn x y) = none) : andP first gs x y = (gs ++ [⟨mx x y, mn x y⟩], 2 * (first + (gs.length : Int))) := by
 unfold andP
 rw [if_neg (fun h => hc (by rcases h with h | h | h <;> simp [h])), if_neg (fun h => hc (by rcases h with h | h <;> simp [h])), if_neg (fun h => hc (by simp [h])), hv]
theorem hand_calls {P : Nat → Prop} {w W : World} {bb bm : Nat} {ins : Int} {L : List S36} {gs : List S69} {bads cons : List Int} (h : StH P w W bb bm ins L gs bads cons) (hf : Few ins L gs bads cons) (x y : Int) (x0 : 0 ≤ x) (x1 : x ≤ 100000000) (y0 : 0 ≤ y) (y1 : y ≤ 100000000) :
  Calls Try.prog 87 #[.pointer (some ⟨bb, 0, none⟩), .int .i64 x, .int .i64 y] W fun e W' => e = .returned (.int .i64 (andP (ins + (L.length : Int) + 1) gs x y).2) ∧ StH P w W' bb bm ins L (andP (ins + (L.length : Int) + 1) gs x y).1 bads cons ∧ KeepH W W' := by
 by_cases hc : x = 0 ∨ y = 0 ∨ x = Go.bits .xor .i64 y 1 ∨ x = 1 ∨ x = y ∨ y = 1
 ·refine (hand_simple (w := w) (ins := ins) (L := L) (gs := gs) (bm := bm) (bads := bads) (cons := cons) x y hc).mono ?_
  rintro e W' ⟨rfl, h1, h2⟩
  rw [h1]
  exact ⟨rfl, h.below h2, KeepH.below h2⟩
 ·have wf : ∀ z : Int, 0 ≤ z → z ≤ 100000000 → (Lit.int .i64 z).wf = true := fun z h0 h1 => by simp [Lit.wf, IntKind.min, IntKind.max, IntKind.signed, IntKind.bits]; omega
  have wx := wf (mx x y) (by unfold mx; split <;> omega) (by unfold mx; split <;> omega)
  have wy := wf (mn x y) (by unfold mn; split <;> omega) (by unfold mn; split <;> omega)
  cases hv : findG (ins + (L.length : Int) + 1) gs (mx x y) (mn x y) with
  | some v =>
   rw [andP_found hc hv]
   refine (hand_found h x y _ _ rfl rfl hc wx wy v hv).mono ?_
   rintro e W' ⟨rfl, h2⟩
   exact ⟨rfl, h.below h2, KeepH.below h2⟩
  | none =>
   rw [andP_new hc hv]
   refine (hand_new h hf x y _ _ rfl rfl hc wx wy hv).mono ?_
   rintro e W' ⟨rfl, h2, h3⟩
   exact ⟨rfl, h2, h3⟩
structure MidB (w W : World) (cc : Array Value) (ins : Int) (v1 v2 v3 v4 : Value) : Prop where
 hb : Below w.heap.size w W
 hc : W.heap[w.heap.size]? = some (.cells cc 26 (0, 0))
 hm : KnownM W (w.heap.size + 1) 0 (fun _ _ => none)
 hk : W.heap[w.heap.size + 1 + 1]? = some (.cells #[.int .i64 ins, v1, v2, v3, v4, .map (some (w.heap.size + 1))] 138 (0, 0))
section
variable {w W W' : World} {cc : Array Value} {ins : Int} {v1 v2 v3 v4 : Value}
theorem MidB.start (w : World) (cc : Array Value) (ins : Int) (v1 v2 v3 v4 : Value) : MidB w (((w.alloc (.cells cc 26)).alloc (.map #[] 0)).alloc (.cells #[.int .i64 ins, v1, v2, v3, v4, .map (some (w.heap.size + 1))] 138)) cc ins v1 v2 v3 v4 := by
 refine ⟨below_alloc (below_alloc (below_alloc (Below.refl _ _) _) _) _, blk_alloc (blk_alloc (heap_alloc_new _ _) _) _, ?_, ?_⟩
 ·have := (KnownM.made (w.alloc (.cells cc 26))).below (below_alloc (Below.refl _ _) (.cells #[.int .i64 ins, v1, v2, v3, v4, .map (some (w.heap.size + 1))] 138))
  simpa using this
 ·have := heap_alloc_new ((w.alloc (.cells cc 26)).alloc (.map #[] 0)) (.cells #[.int .i64 ins, v1, v2, v3, v4, .map (some (w.heap.size + 1))] 138)
  simpa using this
theorem MidB.below (h : MidB w W cc ins v1 v2 v3 v4) (hb : Below W.heap.size W W') : MidB w W' cc ins v1 v2 v3 v4 :=
 ⟨below_step h.hb hb, blk_below h.hc hb, h.hm.below hb, blk_below h.hk hb⟩
theorem MidB.put (h : MidB w W cc ins v1 v2 v3 v4) (i : Nat) (u : Value) {u1 u2 u3 u4 : Value} (e : #[.int .i64 ins, v1, v2, v3, v4, .map (some (w.heap.size + 1))].setIfInBounds i u = #[.int .i64 ins, u1, u2, u3, u4, .map (some (w.heap.size + 1))]) : MidB w (W.setCell ⟨w.heap.size + 1 + 1, i, none⟩ u) cc ins u1 u2 u3 u4 := by
 refine ⟨h.hb.setCell (by show _ ≤ w.heap.size + 1 + 1; omega) u, blk_far h.hc (by show w.heap.size ≠ w.heap.size + 1 + 1; omega) u, h.hm.keep (Below.heap_setCell _ _ _ _ (by show w.heap.size + 1 ≠ w.heap.size + 1 + 1; omega)), ?_⟩
 rw [← e]
 exact blk_set h.hk i u
theorem MidB.lt (h : MidB w W cc ins v1 v2 v3 v4) : w.heap.size + 1 + 1 < W.heap.size := blk_lt h.hk
theorem MidB.row (h : MidB w W cc ins v1 v2 v3 v4) {α : Type} {d : Kd α} {e : Nat} {ok : Nat → Prop} {v : Value} {xs : List α} (hR : Kd.R d e W w.heap.size ok v xs) (ht : ∀ q, q ∈ e :: d.E → q ≠ 138) (i : Nat) (u : Value) : Kd.R d e (W.setCell ⟨w.heap.size + 1 + 1, i, none⟩ u) w.heap.size ok v xs := Kd.R_set hR h.hk ht i u
end
set_option maxHeartbeats 8000000 in
set_option maxRecDepth 100000 in
theorem begin_calls (a0_0 : Int) (A0_1 : Option Addr) (c0_1 : Nat) (l0_1 : List S36) (A0_2 : Option Addr) (c0_2 : Nat) (l0_2 : List S69) (A0_3 : Option Addr) (c0_3 : Nat) (l0_3 : List Int) (A0_4 : Option Addr) (c0_4 : Nat) (l0_4 : List Int) (w : World) (hr0_1 : Kd.C k36 w A0_1 l0_1.length l0_1) (hc0_1 : l0_1.length ≤ c0_1) (hr0_2 : Kd.C k69 w A0_2 l0_2.length l0_2) (hc0_2 : l0_2.length ≤ c0_2) (hr0_3 : Kd.C (Kd.int .i64) w A0_3 l0_3.length l0_3) (hc0_3 : l0_3.length ≤ c0_3) (hr0_4 : Kd.C (Kd.int .i64) w A0_4 l0_4.length l0_4) (hc0_4 : l0_4.length ≤ c0_4)
  (hf : Few a0_0 l0_1 l0_2 l0_3 l0_4) (hw : ∀ g ∈ l0_2, (Lit.int .i64 g.f0).wf = true ∧ (Lit.int .i64 g.f1).wf = true) :
  Calls Try.prog 85 #[.agg #[.int .i64 a0_0, .slice A0_1 l0_1.length c0_1, .slice A0_2 l0_2.length c0_2, .slice A0_3 l0_3.length c0_3, .slice A0_4 l0_4.length c0_4]] w fun e W' => ∃ bb bm, e = .returned (.pointer (some ⟨bb, 0, none⟩)) ∧ StH (fun _ => True) w W' bb bm a0_0 l0_1 l0_2 l0_3 l0_4 := by
 have hu26 := Try.underlying26
 have hu138 := Try.underlying138
 have HR0_1 := M_ hr0_1
 have HR0_2 := M_ hr0_2
 have HR0_3 := M_ hr0_3
 have HR0_4 := M_ hr0_4
 have HC0_1 := M_ hc0_1
 have HC0_2 := M_ hc0_2
 have HC0_3 := M_ hc0_3
 have HC0_4 := M_ hc0_4
 have HF : Aside0 (0 ≤ a0_0 ∧ a0_0 ≤ 1000000 ∧ l0_1.length ≤ 1000000 ∧ l0_2.length ≤ 1000000 ∧ l0_3.length ≤ 1000000 ∧ l0_4.length ≤ 1000000) := ⟨hf⟩
 have HW := M_ hw
 clear hr0_1 hr0_2 hr0_3 hr0_4 hc0_1 hc0_2 hc0_3 hc0_4 hf hw
 have hmm := @run_makeMap Try.prog
 go_enter Try.func85, Try.ntmps85
 go_wp2
 have hS0 := MidB.start w #[.int .i64 a0_0, .slice A0_1 l0_1.length c0_1, .slice A0_2 l0_2.length c0_2, .slice A0_3 l0_3.length c0_3, .slice A0_4 l0_4.length c0_4] a0_0 (.slice A0_1 l0_1.length c0_1) (.slice A0_2 l0_2.length c0_2) (.slice A0_3 l0_3.length c0_3) (.slice A0_4 l0_4.length c0_4)
 generalize ((w.alloc (.cells #[.int .i64 a0_0, .slice A0_1 l0_1.length c0_1, .slice A0_2 l0_2.length c0_2, .slice A0_3 l0_3.length c0_3, .slice A0_4 l0_4.length c0_4] 26)).alloc (.map #[] 0)).alloc (.cells #[.int .i64 a0_0, .slice A0_1 l0_1.length c0_1, .slice A0_2 l0_2.length c0_2, .slice A0_3 l0_3.length c0_3, .slice A0_4 l0_4.length c0_4, .map (some (w.heap.size + 1))] 138) = w1 at hS0 ⊢
 have HS := M_ hS0
 clear hS0
 go_cut [] (fun wx => Aside0 (∃ v1 v2, MidB w wx #[.int .i64 a0_0, .slice A0_1 l0_1.length c0_1, .slice A0_2 l0_2.length c0_2, .slice A0_3 l0_3.length c0_3, .slice A0_4 l0_4.length c0_4] a0_0 v1 v2 (.slice A0_3 l0_3.length c0_3) (.slice A0_4 l0_4.length c0_4) ∧ Kd.R k36 36 wx w.heap.size (fun _ => True) v1 l0_1 ∧ Kd.R k69 69 wx w.heap.size (fun _ => True) v2 l0_2))
 case first =>
  have HX := M_ (HS.out.below (below_drew (Below.refl _ _)))
  have hz1 := (blk_cell HX.out.hc 1).trans (show _ = some (.slice A0_1 l0_1.length c0_1) from rfl)
  have hz2 := (blk_cell HX.out.hc 2).trans (show _ = some (.slice A0_2 l0_2.length c0_2) from rfl)
  have HA := M_ (show api_Latch_49.f l0_1 = some l0_1 by unfold api_Latch_49.f; rw [if_pos (by have := HF.out.2.2.1; omega)])
  have HBc := M_ (show api_And.f l0_2 = some l0_2 by unfold api_And.f; rw [if_pos (by have := HF.out.2.2.2.1; omega)])
  go_region_held3 (fun w' => w'.cell? ⟨w.heap.size, 1, none⟩ = some (.slice A0_1 l0_1.length c0_1) ∧ w'.cell? ⟨w.heap.size, 2, none⟩ = some (.slice A0_2 l0_2.length c0_2))
   (first | exact ⟨by assumption, by assumption⟩ | (refine ⟨?_, ?_⟩ <;> (go_simp; done)) | (refine ⟨?_, ?_⟩ <;> go_simp))
   (first
    | (go_simp; go_at_call 49; (with_reducible refine (api_Latch_49.calls A0_1 c0_1 l0_1 l0_1 _ (Kd.C_below HR0_1.out HX.out.hb) HC0_1.out HA.out).mono ?_); rintro e w2 ⟨v1, rfl, hR1, hb1⟩; have H2 := M_ (HX.out.below hb1); have R2 := M_ (Kd.R_lower hR1 HX.out.hb.size); clear hR1 hb1; have hz1 := (blk_cell H2.out.hc 1).trans (show _ = some (.slice A0_1 l0_1.length c0_1) from rfl); have hz2 := (blk_cell H2.out.hc 2).trans (show _ = some (.slice A0_2 l0_2.length c0_2) from rfl); obtain ⟨AA1, cc1, rfl⟩ := Kd.R_slice R2.out; dsimp only)
    | (go_simp; go_at_call 50; (with_reducible refine (api_And.calls A0_2 c0_2 l0_2 l0_2 _ (Kd.C_below HR0_2.out H2.out.hb) HC0_2.out HBc.out).mono ?_); rintro e w3 ⟨v2, rfl, hR1, hb1⟩; have H3 := M_ (H2.out.below hb1); have R3 := M_ (Kd.R_below R2.out hb1); have R4 := M_ (Kd.R_lower hR1 H2.out.hb.size); clear hR1 hb1; have hz1 := (blk_cell H3.out.hc 1).trans (show _ = some (.slice A0_1 l0_1.length c0_1) from rfl); have hz2 := (blk_cell H3.out.hc 2).trans (show _ = some (.slice A0_2 l0_2.length c0_2) from rfl); obtain ⟨AA2, cc2, rfl⟩ := Kd.R_slice R4.out; have hq1 := (blk_cell H3.out.hk 1).trans (show _ = some (.slice A0_1 l0_1.length c0_1) from rfl); have hq2 := blk_frozen H3.out.hk 1; have hq3 := (blk_cell H3.out.hk 2).trans (show _ = some (.slice A0_2 l0_2.length c0_2) from rfl); have hq4 := blk_frozen H3.out.hk 2; dsimp only))
  all_goals (
   go_wp2_with fail
   go_meet
   have H4 := (H3.out.put 1 (.slice AA1 l0_1.length cc1) rfl).put 2 (.slice AA2 l0_2.length cc2) rfl
   exact ⟨_, _, H4, (H3.out.put 1 (.slice AA1 l0_1.length cc1) rfl).row (H3.out.row R3.out (by decide) 1 _) (by decide) 2 _, (H3.out.put 1 (.slice AA1 l0_1.length cc1) rfl).row (H3.out.row R4.out (by decide) 1 _) (by decide) 2 _⟩)
 case rest =>
 clear HS
 obtain ⟨v1, v2, hS, hR1, hR2⟩ := hcut.out
 clear hcut
 have HS := M_ hS
 have R1 := M_ hR1
 have R2 := M_ hR2
 clear hS hR1 hR2
 go_upto_region 3 with fail
 go_cut [] (fun wx => Aside0 (wx.heap[w.heap.size]? = some (.cells #[.int .i64 a0_0, .slice A0_1 l0_1.length c0_1, .slice A0_2 l0_2.length c0_2, .slice A0_3 l0_3.length c0_3, .slice A0_4 l0_4.length c0_4] 26 (0, 0))) ∧ Aside0 (StK (fun _ => True) w wx (w.heap.size + 1 + 1) (w.heap.size + 1) a0_0 l0_1 l0_2 l0_3 l0_4 0 (fun _ _ => none)))
 case first =>
  have HX := M_ (HS.out.below (below_drew (Below.refl _ _)))
  have hz1 := (blk_cell HX.out.hc 3).trans (show _ = some (.slice A0_3 l0_3.length c0_3) from rfl)
  have hz2 := (blk_cell HX.out.hc 4).trans (show _ = some (.slice A0_4 l0_4.length c0_4) from rfl)
  have R1d := M_ (Kd.R_below R1.out (below_drew (Below.refl _ _)))
  have R2d := M_ (Kd.R_below R2.out (below_drew (Below.refl _ _)))
  have HA := M_ (show slices_Clone_int_int.f l0_3 = some l0_3 by unfold slices_Clone_int_int.f; rw [if_pos (by have := HF.out.2.2.2.2.1; omega)])
  have HBc := M_ (show slices_Clone_int_int.f l0_4 = some l0_4 by unfold slices_Clone_int_int.f; rw [if_pos (by have := HF.out.2.2.2.2.2; omega)])
  go_region_held3 (fun w' => w'.cell? ⟨w.heap.size, 3, none⟩ = some (.slice A0_3 l0_3.length c0_3) ∧ w'.cell? ⟨w.heap.size, 4, none⟩ = some (.slice A0_4 l0_4.length c0_4))
   (first | exact ⟨by assumption, by assumption⟩ | (refine ⟨?_, ?_⟩ <;> (go_simp; done)) | (refine ⟨?_, ?_⟩ <;> go_simp))
   (first
    | (go_simp; go_at_call 51; (with_reducible refine (slices_Clone_int_int.calls A0_3 c0_3 l0_3 l0_3 _ (Kd.C_below HR0_3.out HX.out.hb) HC0_3.out HA.out).mono ?_); rintro e w2 ⟨vB, rfl, hR1, hb1⟩; have H2 := M_ (HX.out.below hb1); have RB := M_ (Kd.R_lower hR1 HX.out.hb.size); have R1b := M_ (Kd.R_below R1d.out hb1); have R2b := M_ (Kd.R_below R2d.out hb1); clear hR1 hb1; have hz1 := (blk_cell H2.out.hc 3).trans (show _ = some (.slice A0_3 l0_3.length c0_3) from rfl); have hz2 := (blk_cell H2.out.hc 4).trans (show _ = some (.slice A0_4 l0_4.length c0_4) from rfl); obtain ⟨AA1, cc1, rfl⟩ := Kd.R_slice RB.out; dsimp only)
    | (go_simp; go_at_call 51; (with_reducible refine (slices_Clone_int_int.calls A0_4 c0_4 l0_4 l0_4 _ (Kd.C_below HR0_4.out H2.out.hb) HC0_4.out HBc.out).mono ?_); rintro e w3 ⟨vC, rfl, hR1, hb1⟩; have H3 := M_ (H2.out.below hb1); have RB3 := M_ (Kd.R_elder RB.out hR1 hb1); have RC3 := M_ (Kd.R_lower (Kd.R_newR hR1 RB.out) H2.out.hb.size); have R1c := M_ (Kd.R_below R1b.out hb1); have R2c := M_ (Kd.R_below R2b.out hb1); clear hR1 hb1; have hz1 := (blk_cell H3.out.hc 3).trans (show _ = some (.slice A0_3 l0_3.length c0_3) from rfl); have hz2 := (blk_cell H3.out.hc 4).trans (show _ = some (.slice A0_4 l0_4.length c0_4) from rfl); obtain ⟨AA2, cc2, rfl⟩ := Kd.R_slice RC3.out; have hq1 := (blk_cell H3.out.hk 3).trans (show _ = some (.slice A0_3 l0_3.length c0_3) from rfl); have hq2 := blk_frozen H3.out.hk 3; have hq3 := (blk_cell H3.out.hk 4).trans (show _ = some (.slice A0_4 l0_4.length c0_4) from rfl); have hq4 := blk_frozen H3.out.hk 4; dsimp only))
  all_goals (
   go_wp2_with fail
   go_meet
   have H4 := H3.out.put 3 (.slice AA1 l0_3.length cc1) rfl
   have H5 := H4.put 4 (.slice AA2 l0_4.length cc2) rfl
   exact ⟨⟨H5.hc⟩, ⟨⟨H5.hb, (by omega), (by omega), ⟨_, _, _, _, H5.hk, H4.row (H3.out.row R1c.out (by decide) 3 _) (by decide) 4 _, H4.row (H3.out.row R2c.out (by decide) 3 _) (by decide) 4 _, Kd.R_mono (H4.row (H3.out.row RB3.out (by decide) 3 _) (by decide) 4 _) (fun _ hk => ⟨hk.2, trivial⟩), Kd.R_mono (H4.row (H3.out.row RC3.out (by decide) 3 _) (by decide) 4 _) (fun _ hk => ⟨hk.2, trivial⟩)⟩, H5.hm⟩⟩⟩)
 case rest =>
 clear HS R1 R2
 obtain ⟨HBX, HST⟩ := hcut
 have hz2 := (blk_cell HBX.out 2).trans (show _ = some (.slice A0_2 l0_2.length c0_2) from rfl)
 go_wp2
 clear hz2
 go_loopg [44] (l0_2.length + 1) (fun kq v44 w' => ∃ (i : Nat), v44 = .int .i64 (i : Int) ∧ Aside0 (i ≤ l0_2.length ∧ kq + i = l0_2.length + 1) ∧ Aside0 (StK (fun _ => True) w w' (w.heap.size + 1 + 1) (w.heap.size + 1) a0_0 l0_1 l0_2 l0_3 l0_4 i (findG (a0_0 + (l0_1.length : Int) + 1) (l0_2.take i))) ∧ Aside0 (w'.heap[w.heap.size]? = some (.cells #[.int .i64 a0_0, .slice A0_1 l0_1.length c0_1, .slice A0_2 l0_2.length c0_2, .slice A0_3 l0_3.length c0_3, .slice A0_4 l0_4.length c0_4] 26 (0, 0))))
 case atStart => exact ⟨0, by simp, ⟨by omega, by omega⟩, ⟨HST.out⟩, HBX⟩
 case round =>
  clear HST HBX
  obtain ⟨i, rfl, HI, HST, HBX⟩ := hrel
  by_cases c : i < l0_2.length
  ·have cb : decide (i < l0_2.length) = true := decide_eq_true c
   have HC := M_ c
   obtain ⟨ad, rfl, hx0, hy0⟩ := at_T69n (Kd.C_below HR0_2.out HST.out.hb) i c
   have hg : rd_T69 l0_2 (i : Int) = l0_2[i] := by simp [rd_T69, List.getD, c]
   have hwf := HW.out _ (List.getElem_mem c)
   rw [← hg] at hwf
   have htk : l0_2.take (i + 1) = l0_2.take i ++ [⟨(rd_T69 l0_2 (i : Int)).f0, (rd_T69 l0_2 (i : Int)).f1⟩] := by rw [hg]; exact List.take_succ_eq_append_getElem c
   generalize (rd_T69 l0_2 (i : Int)).f0 = p at hx0 hwf htk
   generalize (rd_T69 l0_2 (i : Int)).f1 = q at hy0 hwf htk
   have HTK := M_ htk
   have HWF := M_ hwf
   clear hg htk hwf
   have HS2 := M_ (HST.out.below (below_alloc (below_alloc (Below.refl wr.heap.size wr) (.cells #[.int .i64 p, .int .i64 q] 69)) (.cells #[.int .i64 p, .int .i64 q] 163)))
   have HB2 := M_ (blk_alloc (blk_alloc HBX.out (.cells #[.int .i64 p, .int .i64 q] 69)) (.cells #[.int .i64 p, .int .i64 q] 163))
   have hl := fun (m : Nat) => (HS2.out.below (pw_below_drewN (Below.refl _ _) m)).known.look HWF.out.1 HWF.out.2
   have p0 : (0 : Int) ≤ (i : Int) := by omega
   have p1 : (i : Int) < (l0_2.length : Int) := by omega
   obtain ⟨BL, dL, BA, dA, BB, dB, BC, dC, k3, -, -, -, -⟩ := HS2.out.cells
   have hy5 := (blk_cell k3 5).trans (show _ = some (.map (some (w.heap.size + 1))) from rfl)
   clear k3
   cases hv : findG (a0_0 + (l0_1.length : Int) + 1) (l0_2.take i) p q with
   | some v =>
    rw [hv] at hl
    simp only [Option.getD_some, Option.isSome_some] at hl
    have HV := M_ hv
    clear hv
    go_wp2
    go_quiet (fail)
    go_wp2
    go_roundg (gk - 1)
    case rel =>
     refine ⟨i + 1, congrArg (Value.int .i64) (show wrap64 ((i : Int) + 1) = ((i + 1 : Nat) : Int) by have h1 := HF.out; have h2 := HC.out; unfold wrap64; omega), ⟨by have := HC.out; omega, by have := HI.out; have := HC.out; omega⟩, ⟨?_⟩, ⟨blk_drewN HB2.out _⟩⟩
     rw [HTK.out, findG_again _ _ _ _ (by rw [HV.out]; rfl)]
     exact StK.up (HS2.out.below (pw_below_drewN (Below.refl _ _) _)) (Nat.le_succ _)
    case measure => have := HI.out; have := HC.out; omega
   | none =>
    rw [hv] at hl
    simp only [Option.getD_none, Option.isSome_none] at hl
    have HV := M_ hv
    clear hv
    have hF := HF.out
    have e1 : IntKind.i64.wrap (a0_0 + (l0_1.length : Int)) = a0_0 + (l0_1.length : Int) := by rw [IntKind.wrap_i64]; omega
    have e2 : IntKind.i64.wrap (a0_0 + (l0_1.length : Int) + 1) = a0_0 + (l0_1.length : Int) + 1 := by rw [IntKind.wrap_i64]; omega
    have e3 : IntKind.i64.wrap (a0_0 + (l0_1.length : Int) + 1 + (i : Int)) = a0_0 + (l0_1.length : Int) + 1 + (i : Int) := by rw [IntKind.wrap_i64]; omega
    have e4 : IntKind.i64.wrap (2 * (a0_0 + (l0_1.length : Int) + 1 + (i : Int))) = 2 * (a0_0 + (l0_1.length : Int) + 1 + (i : Int)) := by rw [IntKind.wrap_i64]; omega
    have HWV := M_ (show (Lit.int .i64 (2 * (a0_0 + (l0_1.length : Int) + 1 + (i : Int)))).wf = true by simp [Lit.wf, IntKind.min, IntKind.max, IntKind.signed, IntKind.bits]; omega)
    clear hF
    go_wp2
    go_quiet (fail)
    go_upto_region 10 with fail
    obtain ⟨es, cl, hrun, hE, hK⟩ := (HS2.out.below (pw_below_drewN (Below.refl _ _) (nq + 1))).put (by have := HF.out; have := HI.out; omega) HWF.out.1 HWF.out.2 HWV.out
    have HE := M_ hE
    have HBE := M_ (hK.blk (blk_drewN HB2.out (nq + 1)) (by decide) (by decide))
    have hbx := (blk_drewN (heap_alloc_new (wr.alloc (.cells #[.int .i64 p, .int .i64 q] 69)) (.cells #[.int .i64 p, .int .i64 q] 163)) (nq + 1))
    have hbxE := hK.blk hbx (by decide) (by decide)
    have z0 := (blk_cell (blk_drewN HB2.out (nq + 1)) 0).trans (show _ = some (.int .i64 a0_0) from rfl)
    have z1 := (blk_cell (blk_drewN HB2.out (nq + 1)) 1).trans (show _ = some (.slice A0_1 l0_1.length c0_1) from rfl)
    have b0 := (blk_cell hbx 0).trans (show _ = some (.int .i64 p) from rfl)
    have b1 := (blk_cell hbx 1).trans (show _ = some (.int .i64 q) from rfl)
    have y0 := (blk_cell HBE.out 0).trans (show _ = some (.int .i64 a0_0) from rfl)
    have y1 := (blk_cell HBE.out 1).trans (show _ = some (.slice A0_1 l0_1.length c0_1) from rfl)
    have q0 := (blk_cell hbxE 0).trans (show _ = some (.int .i64 p) from rfl)
    have q1 := (blk_cell hbxE 1).trans (show _ = some (.int .i64 q) from rfl)
    obtain ⟨BL', dL', BA', dA', BB', dB', BC', dC', k3, -, -, -, -⟩ := HE.out.cells
    have y5 := (blk_cell k3 5).trans (show _ = some (.map (some (w.heap.size + 1))) from rfl)
    have hsz : (wr.alloc (.cells #[.int .i64 p, .int .i64 q] 69)).heap.size = wr.heap.size + 1 := by simp
    rw [hsz] at b0 b1 q0 q1
    clear hE hK hbx hbxE k3 hsz
    go_region_held3 (fun w' => w'.cell? ⟨w.heap.size + 1 + 1, 5, none⟩ = some (.map (some (w.heap.size + 1))) ∧ w'.cell? ⟨w.heap.size, 0, none⟩ = some (.int .i64 a0_0) ∧ w'.cell? ⟨w.heap.size, 1, none⟩ = some (.slice A0_1 l0_1.length c0_1) ∧ w'.cell? ⟨wr.heap.size + 1, 0, none⟩ = some (.int .i64 p) ∧ w'.cell? ⟨wr.heap.size + 1, 1, none⟩ = some (.int .i64 q))
     (first | exact ⟨hy5, z0, z1, b0, b1⟩ | exact ⟨y5, y0, y1, q0, q1⟩)
     (first | fail)
    all_goals (
     go_wp2
     go_roundg (gk - 1)
     case rel =>
      refine ⟨i + 1, congrArg (Value.int .i64) (show wrap64 ((i : Int) + 1) = ((i + 1 : Nat) : Int) by have h1 := HF.out; have h2 := HC.out; unfold wrap64; omega), ⟨by have := HC.out; omega, by have := HI.out; have := HC.out; omega⟩, ⟨?_⟩, HBE⟩
      have h1 := HE.out
      have hlen : ((l0_2.take i).length : Int) = (i : Int) := by rw [List.length_take]; have := HC.out; omega
      have h2 := findG_push (a0_0 + (l0_1.length : Int) + 1) (l0_2.take i) p q HV.out
      rw [hlen] at h2
      rw [HTK.out, ← h2]
      exact h1
     case measure => have := HI.out; have := HC.out; omega)
  ·have cb : decide (i < l0_2.length) = false := decide_eq_false c
   have HE := HST.out
   rw [List.take_of_length_le (by omega), show i = l0_2.length by have := HI.out; omega] at HE
   have HE := M_ HE
   clear HST
   go_wp2
   go_ret
   exact ⟨_, _, rfl, HE.out⟩
def okG (g : S69) : Bool := decide (0 ≤ g.f0 ∧ g.f0 ≤ 1000000 ∧ 0 ≤ g.f1 ∧ g.f1 ≤ 1000000)
def okH (a0_0 : Int) (l0_1 : List S36) (l0_2 : List S69) (l0_3 l0_4 : List Int) : Bool := decide (0 ≤ a0_0 ∧ a0_0 ≤ 10000 ∧ l0_1.length ≤ 10000 ∧ l0_2.length ≤ 10000 ∧ l0_3.length ≤ 10000 ∧ l0_4.length ≤ 10000) && l0_2.all okG
theorem andP_len (first : Int) (gs : List S69) (x y : Int) : (andP first gs x y).1.length ≤ gs.length + 1 := by
 unfold andP
 split
 ·simp
 ·split
  ·simp
  ·split
   ·simp
   ·split
    ·simp
    ·simp
abbrev put5 (W : World) (g : Nat) (a0 a1 a2 a3 a4 : Value) : World := ((((W.setCell ⟨g, 0, none⟩ a0).setCell ⟨g, 1, none⟩ a1).setCell ⟨g, 2, none⟩ a2).setCell ⟨g, 3, none⟩ a3).setCell ⟨g, 4, none⟩ a4
section
variable {W w : World} {g t : Nat} {c0 c1 c2 c3 c4 : Value} (a0 a1 a2 a3 a4 : Value)
theorem put5_blk (h : W.heap[g]? = some (.cells #[c0, c1, c2, c3, c4] t (0, 0))) : (put5 W g a0 a1 a2 a3 a4).heap[g]? = some (.cells #[a0, a1, a2, a3, a4] t (0, 0)) :=
 blk_put (blk_put (blk_put (blk_put (blk_put h 0 a0 rfl) 1 a1 rfl) 2 a2 rfl) 3 a3 rfl) 4 a4 rfl
theorem put5_R (h : W.heap[g]? = some (.cells #[c0, c1, c2, c3, c4] t (0, 0))) {α : Type} {d : Kd α} {e base : Nat} {ok : Nat → Prop} {v : Value} {xs : List α} (hR : Kd.R d e W base ok v xs) (ht : ∀ q, q ∈ e :: d.E → q ≠ t) : Kd.R d e (put5 W g a0 a1 a2 a3 a4) base ok v xs :=
 Kd.R_set (Kd.R_set (Kd.R_set (Kd.R_set (Kd.R_set hR h ht 0 a0) (blk_put h 0 a0 rfl) ht 1 a1) (blk_put (blk_put h 0 a0 rfl) 1 a1 rfl) ht 2 a2) (blk_put (blk_put (blk_put h 0 a0 rfl) 1 a1 rfl) 2 a2 rfl) ht 3 a3) (blk_put (blk_put (blk_put (blk_put h 0 a0 rfl) 1 a1 rfl) 2 a2 rfl) 3 a3 rfl) ht 4 a4
theorem put5_below (hb : Below w.heap.size w W) (hg : w.heap.size ≤ g) : Below w.heap.size w (put5 W g a0 a1 a2 a3 a4) :=
 ((((hb.setCell hg a0).setCell hg a1).setCell hg a2).setCell hg a3).setCell hg a4
theorem put5_far {k : Nat} (hk : k ≠ g) : (put5 W g a0 a1 a2 a3 a4).heap[k]? = W.heap[k]? := by
 unfold put5
 rw [Below.heap_setCell _ ⟨g, 4, none⟩ _ k hk, Below.heap_setCell _ ⟨g, 3, none⟩ _ k hk, Below.heap_setCell _ ⟨g, 2, none⟩ _ k hk, Below.heap_setCell _ ⟨g, 1, none⟩ _ k hk, Below.heap_setCell _ ⟨g, 0, none⟩ _ k hk]
end
theorem zbox (w : World) (cc : Array Value) : ((w.alloc (.cells cc 26)).alloc (.cells #[.int .i64 0, .slice none 0 0, .slice none 0 0, .slice none 0 0, .slice none 0 0] 26)).heap[w.heap.size + 1]? = some (.cells #[.int .i64 0, .slice none 0 0, .slice none 0 0, .slice none 0 0, .slice none 0 0] 26 (0, 0)) := by
 have := heap_alloc_new (w.alloc (.cells cc 26)) (.cells #[.int .i64 0, .slice none 0 0, .slice none 0 0, .slice none 0 0, .slice none 0 0] 26)
 simpa using this

end Go.Proofs.Ytmcdanpecajklaa.QTernsimValues
