-- Made by wip/myprint.sh (a patched print): a text of this session's own.
import Derived.Test.YtlgoniocoifjjaaQConstantsConesx0
import Derived.Test.YtlgoniocoifjjaaQConstantsConesx4
import Derived.Test.YtlgoniocoifjjaaQConstantsConesx6
import Derived.Test.YtlgoniocoifjjaaQConstantsConesx7
namespace Go.Proofs.Ytlgoniocoifjjaa.QConstantsCones
open Go.RowKit Go.Proofs.YtlgoniocoifjjaaW.PrintWords Go.Proofs.YtlgoniocoifjjaaW.PrintLast Go.Proofs.YtlgoniocoifjjaaW.PrintMore
attribute [local go_sem] max2_int min2_int max_two min_two max_three min_three max_four min_four   -- for this text's walks alone
set_option linter.unusedVariables false
set_option linter.unusedSimpArgs false

/-! ### constants_Pass: function 12, by hand -/
-- constants_find.f lift_Identity.f
/-- The rows of what is returned. -/
structure PR (W : World) (B : Nat) (A1 : Option Addr) (c1 : Nat) (X1 : List S45) (A2 : Option Addr) (c2 : Nat) (X2 : List S55) (A3 : Option Addr) (c3 : Nat) (X3 : List Int) (A4 : Option Addr) (c4 : Nat) (X4 : List Int) (A7 : Option Addr) (c7 : Nat) (X7 : List Int) (A8 : Option Addr) (c8 : Nat) (X8 : List (List Int)) (A9 : Option Addr) (c9 : Nat) (X9 : List Int) (AA : Option Addr) (cA : Nat) (XA : List S55) : Prop where
 r1 : Kd.R k45 45 W B (fun _ => True) (.slice A1 X1.length c1) X1
 r2 : Kd.R k55 55 W B (fun k_ => some k_ ≠ (Value.slice AA XA.length cA).ownBlock) (.slice A2 X2.length c2) X2
 r3 : Kd.R (Kd.int .i64) 3 W B (fun k_ => some k_ ≠ (Value.slice A4 X4.length c4).ownBlock ∧ some k_ ≠ (Value.slice A7 X7.length c7).ownBlock ∧ some k_ ≠ (Value.slice A9 X9.length c9).ownBlock) (.slice A3 X3.length c3) X3
 r4 : Kd.R (Kd.int .i64) 3 W B (fun k_ => some k_ ≠ (Value.slice A3 X3.length c3).ownBlock ∧ some k_ ≠ (Value.slice A7 X7.length c7).ownBlock ∧ some k_ ≠ (Value.slice A9 X9.length c9).ownBlock) (.slice A4 X4.length c4) X4
 r7 : Kd.R (Kd.int .i64) 3 W B (fun k_ => some k_ ≠ (Value.slice A3 X3.length c3).ownBlock ∧ some k_ ≠ (Value.slice A4 X4.length c4).ownBlock ∧ some k_ ≠ (Value.slice A9 X9.length c9).ownBlock) (.slice A7 X7.length c7) X7
 r8 : Kd.S (Kd.slice 3 (Kd.int .i64)) 24 W B (fun k_ => some k_ ≠ (Value.slice A3 X3.length c3).ownBlock ∧ some k_ ≠ (Value.slice A4 X4.length c4).ownBlock ∧ some k_ ≠ (Value.slice A7 X7.length c7).ownBlock ∧ some k_ ≠ (Value.slice A9 X9.length c9).ownBlock) (.slice A8 X8.length c8) X8
 r9 : Kd.R (Kd.int .i64) 3 W B (fun k_ => some k_ ≠ (Value.slice A3 X3.length c3).ownBlock ∧ some k_ ≠ (Value.slice A4 X4.length c4).ownBlock ∧ some k_ ≠ (Value.slice A7 X7.length c7).ownBlock) (.slice A9 X9.length c9) X9
 rA : Kd.R k55 55 W B (fun k_ => some k_ ≠ (Value.slice A2 X2.length c2).ownBlock) (.slice AA XA.length cA) XA
section
variable {W W' : World} {B : Nat} {A1 : Option Addr} {c1 : Nat} {X1 : List S45} {A2 : Option Addr} {c2 : Nat} {X2 : List S55} {A3 : Option Addr} {c3 : Nat} {X3 : List Int} {A4 : Option Addr} {c4 : Nat} {X4 : List Int} {A7 : Option Addr} {c7 : Nat} {X7 : List Int} {A8 : Option Addr} {c8 : Nat} {X8 : List (List Int)} {A9 : Option Addr} {c9 : Nat} {X9 : List Int} {AA : Option Addr} {cA : Nat} {XA : List S55}
theorem PR.below (h : PR W B A1 c1 X1 A2 c2 X2 A3 c3 X3 A4 c4 X4 A7 c7 X7 A8 c8 X8 A9 c9 X9 AA cA XA) (hb : Below W.heap.size W W') : PR W' B A1 c1 X1 A2 c2 X2 A3 c3 X3 A4 c4 X4 A7 c7 X7 A8 c8 X8 A9 c9 X9 AA cA XA := ⟨Kd.R_below h.r1 hb, Kd.R_below h.r2 hb, Kd.R_below h.r3 hb, Kd.R_below h.r4 hb, Kd.R_below h.r7 hb, Kd.S_below h.r8 hb, Kd.R_below h.r9 hb, Kd.R_below h.rA hb⟩
theorem PR.set {g t : Nat} {cells : Array Value} (h : PR W B A1 c1 X1 A2 c2 X2 A3 c3 X3 A4 c4 X4 A7 c7 X7 A8 c8 X8 A9 c9 X9 AA cA XA) (hg : W.heap[g]? = some (.cells cells t (0, 0))) (ht : t = 37 ∨ t = 39) (j : Nat) (u : Value) : PR (W.setCell ⟨g, j, none⟩ u) B A1 c1 X1 A2 c2 X2 A3 c3 X3 A4 c4 X4 A7 c7 X7 A8 c8 X8 A9 c9 X9 AA cA XA := by
 rcases ht with rfl | rfl <;> exact ⟨Kd.R_set h.r1 hg (by decide) j u, Kd.R_set h.r2 hg (by decide) j u, Kd.R_set h.r3 hg (by decide) j u, Kd.R_set h.r4 hg (by decide) j u, Kd.R_set h.r7 hg (by decide) j u, Kd.S_set h.r8 hg (by decide) j u, Kd.R_set h.r9 hg (by decide) j u, Kd.R_set h.rA hg (by decide) j u⟩
theorem PR.app {AA' : Option Addr} {cA' : Nat} {XA' : List S55} (h : PR W B A1 c1 X1 A2 c2 X2 A3 c3 X3 A4 c4 X4 A7 c7 X7 A8 c8 X8 A9 c9 X9 AA cA XA) (hg : W.grownBy W' (Value.slice AA XA.length cA).ownBlock) (hat : (Value.slice AA' XA'.length cA').ownBlock = (Value.slice AA XA.length cA).ownBlock ∨ ∃ b, (Value.slice AA' XA'.length cA').ownBlock = some b ∧ W.heap.size ≤ b) (ho : Kd.R k55 55 W' B (fun k_ => some k_ ≠ (Value.slice A2 X2.length c2).ownBlock) (.slice AA' XA'.length cA') XA') : PR W' B A1 c1 X1 A2 c2 X2 A3 c3 X3 A4 c4 X4 A7 c7 X7 A8 c8 X8 A9 c9 X9 AA' cA' XA' :=
 ⟨Kd.R_over' h.r1 (Kd.R_typed h.rA) (by decide) hg, Kd.R_mono (Kd.R_after (ok := fun _ => True) (Kd.R_mono h.r2 (fun _ hk => ⟨trivial, hk⟩)) hg hat) (fun _ hk => hk.2), Kd.R_over' h.r3 (Kd.R_typed h.rA) (by decide) hg, Kd.R_over' h.r4 (Kd.R_typed h.rA) (by decide) hg, Kd.R_over' h.r7 (Kd.R_typed h.rA) (by decide) hg, Kd.S_over' h.r8 (Kd.R_typed h.rA) (by decide) hg, Kd.R_over' h.r9 (Kd.R_typed h.rA) (by decide) hg, ho⟩
end
/-- Some cells of a block, one after the other. -/
def putAll (W : World) (g : Nat) (j : Nat) : List Value → World
 | [] => W
 | v :: vs => putAll (W.setCell ⟨g, j, none⟩ v) g (j + 1) vs
theorem putAll_blk {g t : Nat} : ∀ (vs pre cs : List Value) (W : World), W.heap[g]? = some (.cells (pre ++ cs).toArray t (0, 0)) → cs.length = vs.length → (putAll W g pre.length vs).heap[g]? = some (.cells (pre ++ vs).toArray t (0, 0))
 | [], pre, cs, W, h, hl => by rw [List.eq_nil_of_length_eq_zero hl] at h; exact h
 | v :: vs, pre, [], W, h, hl => by simp at hl
 | v :: vs, pre, c :: cs, W, h, hl => by
  have h1 := blk_put h pre.length v (cs' := (pre ++ v :: cs).toArray) (by simp [List.setIfInBounds_toArray])
  have h2 := putAll_blk (t := t) vs (pre ++ [v]) cs (W.setCell ⟨g, pre.length, none⟩ v) (by rw [h1]; simp) (by simpa using hl)
  rw [List.length_append, List.length_singleton] at h2
  rw [putAll, h2]; simp
theorem putAll_below {w : World} {g : Nat} (hg : w.heap.size ≤ g) : ∀ (vs : List Value) (j : Nat) (W : World), Below w.heap.size w W → Below w.heap.size w (putAll W g j vs)
 | [], _, _, h => h
 | v :: vs, j, W, h => putAll_below hg vs (j + 1) _ (below_set h hg)
theorem putAll_PR {B g t : Nat} {A1 : Option Addr} {c1 : Nat} {X1 : List S45} {A2 : Option Addr} {c2 : Nat} {X2 : List S55} {A3 : Option Addr} {c3 : Nat} {X3 : List Int} {A4 : Option Addr} {c4 : Nat} {X4 : List Int} {A7 : Option Addr} {c7 : Nat} {X7 : List Int} {A8 : Option Addr} {c8 : Nat} {X8 : List (List Int)} {A9 : Option Addr} {c9 : Nat} {X9 : List Int} {AA : Option Addr} {cA : Nat} {XA : List S55} (ht : t = 37 ∨ t = 39) : ∀ (vs : List Value) (j : Nat) (W : World) (cells : Array Value), W.heap[g]? = some (.cells cells t (0, 0)) → PR W B A1 c1 X1 A2 c2 X2 A3 c3 X3 A4 c4 X4 A7 c7 X7 A8 c8 X8 A9 c9 X9 AA cA XA → PR (putAll W g j vs) B A1 c1 X1 A2 c2 X2 A3 c3 X3 A4 c4 X4 A7 c7 X7 A8 c8 X8 A9 c9 X9 AA cA XA
 | [], _, _, _, _, h => h
 | v :: vs, j, W, cells, hg, h => putAll_PR ht vs (j + 1) _ _ (blk_put hg j v rfl) (h.set hg ht j v)
/-- The boxes: the circuit, what is returned, the circuit that was built, and the identity. -/
structure PX (w W : World) (CC XX : Array Value) (bx : Nat) : Prop where
 hb : Below w.heap.size w W
 hc : W.heap[w.heap.size]? = some (.cells CC 26 (0, 0))
 hr : W.heap[w.heap.size + 1]? = some (.cells #[.int .i64 0, .slice none 0 0, .slice none 0 0, .slice none 0 0, .slice none 0 0, .int .i64 0, .int .i64 0, .slice none 0 0, .slice none 0 0, .slice none 0 0, .slice none 0 0, .int .i64 0] 39 (0, 0))
 hx : W.heap[bx]? = some (.cells XX 26 (0, 0))
theorem PX.below {w W W' : World} {CC XX : Array Value} {bx : Nat} (h : PX w W CC XX bx) (hb : Below W.heap.size W W') : PX w W' CC XX bx := ⟨below_step h.hb hb, blk_below h.hc hb, blk_below h.hr hb, blk_below h.hx hb⟩
theorem PX.over {w W W' : World} {CC XX : Array Value} {bx : Nat} {P : Nat → Prop} {v : Value} {xs : List S55} (h : PX w W CC XX bx) (ho : Kd.R k55 55 W w.heap.size P v xs) (hg : W.grownBy W' v.ownBlock) : PX w W' CC XX bx :=
 ⟨pw_below_grown h.hb _ h.hb.size hg (Kd.R_base ho), blk_grown h.hc hg (Kd.R_ne ho h.hc (by decide)), blk_grown h.hr hg (Kd.R_ne ho h.hr (by decide)), blk_grown h.hx hg (Kd.R_ne ho h.hx (by decide))⟩
theorem blk_apart {W : World} {g g' t t' : Nat} {cs cs' : Array Value} (h : W.heap[g]? = some (.cells cs t (0, 0))) (h' : W.heap[g']? = some (.cells cs' t' (0, 0))) (ht : t ≠ t') : g ≠ g' := fun e => by
 rw [e, h'] at h
 simp only [Option.some.injEq, Obj.cells.injEq] at h
 exact ht h.2.1.symm
theorem PX.put {w W : World} {CC XX II : Array Value} {bx bi : Nat} (h : PX w W CC XX bx) (hi : W.heap[bi]? = some (.cells II 37 (0, 0))) (hge : w.heap.size ≤ bi) (j : Nat) (u : Value) : PX w (W.setCell ⟨bi, j, none⟩ u) CC XX bx :=
 ⟨below_set h.hb hge, (Below.heap_setCell W ⟨bi, j, none⟩ u _ (blk_apart h.hc hi (by decide))).trans h.hc, (Below.heap_setCell W ⟨bi, j, none⟩ u _ (blk_apart h.hr hi (by decide))).trans h.hr, (Below.heap_setCell W ⟨bi, j, none⟩ u _ (blk_apart h.hx hi (by decide))).trans h.hx⟩
/-- One latch more that stays. -/
def chainS (l1 : List S45) (p : List S55 × Int) (x : Int) : List S55 × Int :=
 if p.2 = 1 then (p.1, 2 * (x + 1) + 1 - (rd_T45 l1 x).f1)
 else (p.1 ++ [⟨mx p.2 (2 * (x + 1) + 1 - (rd_T45 l1 x).f1), mn p.2 (2 * (x + 1) + 1 - (rd_T45 l1 x).f1)⟩], 2 * ((l1.length : Int) + ((p.1.length : Int) + 1)))
theorem chainS_len (l1 : List S45) (p : List S55 × Int) (x : Int) : (chainS l1 p x).1.length ≤ p.1.length + 1 := by
 unfold chainS
 split
 ·exact Nat.le_succ _
 ·simp
theorem chain_step (l1 : List S45) (p : List S55 × Int) (S : List Int) (j : Nat) (h : j < S.length) : (S.take (j + 1)).foldl (chainS l1) p = chainS l1 ((S.take j).foldl (chainS l1) p) S[j] := by
 rw [List.take_succ_eq_append_getElem h, List.foldl_append]; rfl
/-- Few latches, and their resets. -/
def okS (l1 : List S45) (S : List Int) (ands : List S55) : Bool := decide (l1.length ≤ 400) && decide (S.length ≤ 400) && decide (ands.length ≤ 400) && S.all (fun x => decide (0 ≤ x ∧ x < (l1.length : Int) ∧ 0 ≤ (rd_T45 l1 x).f1 ∧ (rd_T45 l1 x).f1 ≤ 2))
def constants_Pass.f (k : Nat) (a0_0 : Int) (l0_1 : List (S45)) (l0_2 : List (S55)) (l0_3 : List Int) (l0_4 : List Int) : Option (Int × (List (S45)) × (List (S55)) × List Int × List Int × Int × Int × List Int × (List (List Int)) × List Int × (List (S55)) × Int × Int) :=
 (constants_find.f k a0_0 l0_1 l0_2 l0_3 l0_4).bind fun x => if x.2.2.2.2.2.2 = 0 then
  ((lift_Identity.f k a0_0 l0_1 l0_2 l0_3 l0_4).bind fun y => if okS l0_1 x.1 y.2.2.2.2.2.1 = true then
   some (x.2.1, x.2.2.1, x.2.2.2.1, x.2.2.2.2.1, x.2.2.2.2.2.1, y.1, y.2.1, y.2.2.1, y.2.2.2.1, y.2.2.2.2.1, (x.1.foldl (chainS l0_1) (y.2.2.2.2.2.1, y.2.2.2.2.2.2.1)).1, (x.1.foldl (chainS l0_1) (y.2.2.2.2.2.1, y.2.2.2.2.2.2.1)).2, 0) else none)
  else some (0, [], [], [], [], 0, 0, [], [], [], [], 0, x.2.2.2.2.2.2)
theorem constants_Pass.mono : ∀ a0 a1 a2 a3 a4 k, LeO (constants_Pass.f k a0 a1 a2 a3 a4) (constants_Pass.f (k + 1) a0 a1 a2 a3 a4) := by
 intro a0 a1 a2 a3 a4 k
 unfold constants_Pass.f
 refine LeO.bind (constants_find.mono _ _ _ _ _ _) (fun x => ?_)
 exact LeO.ite (LeO.bind (lift_Identity.mono _ _ _ _ _ _) (fun _ => LeO.refl _)) (LeO.refl _)
theorem R_old {α : Type} {d : Kd α} {e base : Nat} {ok : Nat → Prop} {W W1 : World} {u : Value} {xs : List α} (h : d.R e W base ok u xs) (hb : Below W.heap.size W W1) : d.R e W1 base (fun k => ok k ∧ k < W.heap.size) u xs := Kd.R_mono (Kd.R_below (Kd.R_bound h) hb) (fun k hk => ⟨hk.1, hk.2.2.1⟩)
theorem PR.make {W W1 : World} {B : Nat} {A1 : Option Addr} {c1 : Nat} {X1 : List S45} {A2 : Option Addr} {c2 : Nat} {X2 : List S55} {A3 : Option Addr} {c3 : Nat} {X3 : List Int} {A4 : Option Addr} {c4 : Nat} {X4 : List Int} {A7 : Option Addr} {c7 : Nat} {X7 : List Int} {A8 : Option Addr} {c8 : Nat} {X8 : List (List Int)} {A9 : Option Addr} {c9 : Nat} {X9 : List Int} {AA : Option Addr} {cA : Nat} {XA : List S55} (hB : B ≤ W.heap.size) (o1 : Kd.R k45 45 W B (fun _ => True) (.slice A1 X1.length c1) X1) (o2 : Kd.R k55 55 W B (fun _ => True) (.slice A2 X2.length c2) X2) (o3 : Kd.R (Kd.int .i64) 3 W B (fun k_ => some k_ ≠ (Value.slice A4 X4.length c4).ownBlock) (.slice A3 X3.length c3) X3) (o4 : Kd.R (Kd.int .i64) 3 W B (fun k_ => some k_ ≠ (Value.slice A3 X3.length c3).ownBlock) (.slice A4 X4.length c4) X4) (hb : Below W.heap.size W W1)
  (o7 : Kd.R (Kd.int .i64) 3 W1 W.heap.size (fun k_ => some k_ ≠ (Value.slice A9 X9.length c9).ownBlock) (.slice A7 X7.length c7) X7) (o8 : Kd.S (Kd.slice 3 (Kd.int .i64)) 24 W1 W.heap.size (fun k_ => some k_ ≠ (Value.slice A7 X7.length c7).ownBlock ∧ some k_ ≠ (Value.slice A9 X9.length c9).ownBlock) (.slice A8 X8.length c8) X8) (o9 : Kd.R (Kd.int .i64) 3 W1 W.heap.size (fun k_ => some k_ ≠ (Value.slice A7 X7.length c7).ownBlock) (.slice A9 X9.length c9) X9) (oA : Kd.R k55 55 W1 W.heap.size (fun _ => True) (.slice AA XA.length cA) XA) : PR W1 B A1 c1 X1 A2 c2 X2 A3 c3 X3 A4 c4 X4 A7 c7 X7 A8 c8 X8 A9 c9 X9 AA cA XA := by
 have old : ∀ {v : Value} {k : Nat}, (∀ q, v.ownBlock = some q → W.heap.size ≤ q) → k < W.heap.size → some k ≠ v.ownBlock := fun h hk e => by have := h _ e.symm; omega
 have new : ∀ {v : Value} {k : Nat}, (∀ q, v.ownBlock = some q → q < W.heap.size) → W.heap.size ≤ k → some k ≠ v.ownBlock := fun h hk e => by have := h _ e.symm; omega
 exact ⟨Kd.R_below o1 hb, Kd.R_mono (R_old o2 hb) (fun k hk => old (Kd.R_base oA) hk.2), Kd.R_mono (R_old o3 hb) (fun k hk => ⟨hk.1, old (Kd.R_base o7) hk.2, old (Kd.R_base o9) hk.2⟩), Kd.R_mono (R_old o4 hb) (fun k hk => ⟨hk.1, old (Kd.R_base o7) hk.2, old (Kd.R_base o9) hk.2⟩),
  Kd.R_lower (Kd.R_mono (Kd.R_bound o7) (fun k hk => ⟨new (Kd.R_lt o3) hk.2.1, new (Kd.R_lt o4) hk.2.1, hk.1⟩)) hB, Kd.S_lower (Kd.S_mono (Kd.S_bound o8) (fun k hk => ⟨new (Kd.R_lt o3) hk.2.1, new (Kd.R_lt o4) hk.2.1, hk.1.1, hk.1.2⟩)) hB, Kd.R_lower (Kd.R_mono (Kd.R_bound o9) (fun k hk => ⟨new (Kd.R_lt o3) hk.2.1, new (Kd.R_lt o4) hk.2.1, hk.1⟩)) hB, Kd.R_lower (Kd.R_mono (Kd.R_bound oA) (fun k hk => new (Kd.R_lt o2) hk.2.1)) hB⟩
set_option maxHeartbeats 8000000 in
set_option maxRecDepth 100000 in
theorem pass_err (k : Nat) (a0_0 : Int) (A0_1 : Option Addr) (c0_1 : Nat) (l0_1 : List (S45)) (A0_2 : Option Addr) (c0_2 : Nat) (l0_2 : List (S55)) (A0_3 : Option Addr) (c0_3 : Nat) (l0_3 : List Int) (A0_4 : Option Addr) (c0_4 : Nat) (l0_4 : List Int) (X0 : List Int) (x1 : Int) (X1 : List S45) (X2 : List S55) (X3 X4 : List Int) (e0 : Int) (w : World) (hr0_1 : Kd.C k45 w A0_1 l0_1.length l0_1) (hc0_1 : l0_1.length ≤ c0_1) (hr0_2 : Kd.C k55 w A0_2 l0_2.length l0_2) (hc0_2 : l0_2.length ≤ c0_2) (hr0_3 : Kd.C (Kd.int .i64) w A0_3 l0_3.length l0_3) (hc0_3 : l0_3.length ≤ c0_3) (hr0_4 : Kd.C (Kd.int .i64) w A0_4 l0_4.length l0_4) (hc0_4 : l0_4.length ≤ c0_4)
  (hf : constants_find.f k a0_0 l0_1 l0_2 l0_3 l0_4 = some (X0, x1, X1, X2, X3, X4, e0)) (hne : e0 ≠ 0) :
  Calls Try.prog 12 #[.agg #[.int .i64 a0_0, .slice A0_1 l0_1.length c0_1, .slice A0_2 l0_2.length c0_2, .slice A0_3 l0_3.length c0_3, .slice A0_4 l0_4.length c0_4]] w fun e w' => ∃ v1_ v2_ v3_ v4_ v7_ v8_ v9_ v10_ : Value, e = .returned (.tuple #[.agg #[.int .i64 0, v1_, v2_, v3_, v4_, .int .i64 0, .int .i64 0, v7_, v8_, v9_, v10_, .int .i64 0], .int .i64 e0]) ∧ Kd.R k45 45 w' w.heap.size (fun _ => True) v1_ [] ∧ Kd.R k55 55 w' w.heap.size (fun k_ => some k_ ≠ (v10_ : Value).ownBlock) v2_ [] ∧ Kd.R (Kd.int .i64) 3 w' w.heap.size (fun k_ => some k_ ≠ (v4_ : Value).ownBlock ∧ some k_ ≠ (v7_ : Value).ownBlock ∧ some k_ ≠ (v9_ : Value).ownBlock) v3_ [] ∧ Kd.R (Kd.int .i64) 3 w' w.heap.size (fun k_ => some k_ ≠ (v3_ : Value).ownBlock ∧ some k_ ≠ (v7_ : Value).ownBlock ∧ some k_ ≠ (v9_ : Value).ownBlock) v4_ [] ∧ Kd.R (Kd.int .i64) 3 w' w.heap.size (fun k_ => some k_ ≠ (v3_ : Value).ownBlock ∧ some k_ ≠ (v4_ : Value).ownBlock ∧ some k_ ≠ (v9_ : Value).ownBlock) v7_ [] ∧ Kd.S (Kd.slice 3 (Kd.int .i64)) 24 w' w.heap.size (fun k_ => some k_ ≠ (v3_ : Value).ownBlock ∧ some k_ ≠ (v4_ : Value).ownBlock ∧ some k_ ≠ (v7_ : Value).ownBlock ∧ some k_ ≠ (v9_ : Value).ownBlock) v8_ [] ∧ Kd.R (Kd.int .i64) 3 w' w.heap.size (fun k_ => some k_ ≠ (v3_ : Value).ownBlock ∧ some k_ ≠ (v4_ : Value).ownBlock ∧ some k_ ≠ (v7_ : Value).ownBlock) v9_ [] ∧ Kd.R k55 55 w' w.heap.size (fun k_ => some k_ ≠ (v2_ : Value).ownBlock) v10_ [] ∧ Below w.heap.size w w' := by
 have hu26 := Try.underlying26
 have hu37 := Try.underlying37
 have hu39 := Try.underlying39
 have huP := Try.underlying35
 have HR0_1 := M_ hr0_1
 have HC0_1 := M_ hc0_1
 have HR0_2 := M_ hr0_2
 have HC0_2 := M_ hc0_2
 have HR0_3 := M_ hr0_3
 have HC0_3 := M_ hc0_3
 have HR0_4 := M_ hr0_4
 have HC0_4 := M_ hc0_4
 have HB0 := M_ (below_alloc (below_alloc (Below.refl w.heap.size w) (.cells #[.int .i64 a0_0, .slice A0_1 l0_1.length c0_1, .slice A0_2 l0_2.length c0_2, .slice A0_3 l0_3.length c0_3, .slice A0_4 l0_4.length c0_4] 26)) (.cells #[.int .i64 0, .slice none 0 0, .slice none 0 0, .slice none 0 0, .slice none 0 0, .int .i64 0, .int .i64 0, .slice none 0 0, .slice none 0 0, .slice none 0 0, .slice none 0 0, .int .i64 0] 39))
 have hz := heap_alloc_new (w.alloc (.cells #[.int .i64 a0_0, .slice A0_1 l0_1.length c0_1, .slice A0_2 l0_2.length c0_2, .slice A0_3 l0_3.length c0_3, .slice A0_4 l0_4.length c0_4] 26)) (.cells #[.int .i64 0, .slice none 0 0, .slice none 0 0, .slice none 0 0, .slice none 0 0, .int .i64 0, .int .i64 0, .slice none 0 0, .slice none 0 0, .slice none 0 0, .slice none 0 0, .int .i64 0] 39)
 rw [World.size_alloc] at hz
 have HZ0 := M_ hz
 have HCC := M_ (blk_alloc (heap_alloc_new w (.cells #[.int .i64 a0_0, .slice A0_1 l0_1.length c0_1, .slice A0_2 l0_2.length c0_2, .slice A0_3 l0_3.length c0_3, .slice A0_4 l0_4.length c0_4] 26)) (.cells #[.int .i64 0, .slice none 0 0, .slice none 0 0, .slice none 0 0, .slice none 0 0, .int .i64 0, .int .i64 0, .slice none 0 0, .slice none 0 0, .slice none 0 0, .slice none 0 0, .int .i64 0] 39))
 have HFI := M_ hf
 clear hr0_1 hr0_2 hr0_3 hr0_4 hc0_1 hc0_2 hc0_3 hc0_4 hf hz
 have b2 : (e0 != 0) = true := bne_iff_ne.mpr hne
 clear hne
 go_enter Try.func12, Try.ntmps12
 go_upto_region 3 with (go_at_call 35; (with_reducible refine (constants_find.calls k a0_0 A0_1 c0_1 l0_1 A0_2 c0_2 l0_2 A0_3 c0_3 l0_3 A0_4 c0_4 l0_4 X0 x1 X1 X2 X3 X4 e0 _ (Kd.C_below HR0_1.out HB0.out) HC0_1.out (Kd.C_below HR0_2.out HB0.out) HC0_2.out (Kd.C_below HR0_3.out HB0.out) HC0_3.out (Kd.C_below HR0_4.out HB0.out) HC0_4.out HFI.out).mono ?_); rintro e w5 ⟨v0, v2, v3, v4, v5, rfl, o0, o1, o2, o3, o4, hb⟩; obtain ⟨A0, c0, rfl⟩ := Kd.R_slice o0; obtain ⟨A1, c1, rfl⟩ := Kd.R_slice o1; obtain ⟨A2, c2, rfl⟩ := Kd.R_slice o2; obtain ⟨A3, c3, rfl⟩ := Kd.R_slice o3; obtain ⟨A4, c4, rfl⟩ := Kd.R_slice o4; have O0 := M_ (Kd.R_lower o0 (below_size HB0.out)); have O1 := M_ (Kd.R_lower o1 (below_size HB0.out)); have O2 := M_ (Kd.R_lower o2 (below_size HB0.out)); have O3 := M_ (Kd.R_lower o3 (below_size HB0.out)); have O4 := M_ (Kd.R_lower o4 (below_size HB0.out)); have HB5 := M_ (below_step HB0.out hb); have HZ5 := M_ (blk_below HZ0.out hb); have HC5 := M_ (blk_below HCC.out hb); clear o0 o1 o2 o3 o4 hb)
 have hz6 := blk_alloc HZ5.out (.cells #[.int .i64 x1, .slice A1 X1.length c1, .slice A2 X2.length c2, .slice A3 X3.length c3, .slice A4 X4.length c4] 26)
 have HB6 := M_ (below_alloc HB5.out (.cells #[.int .i64 x1, .slice A1 X1.length c1, .slice A2 X2.length c2, .slice A3 X3.length c3, .slice A4 X4.length c4] 26))
 generalize w5.alloc (.cells #[.int .i64 x1, .slice A1 X1.length c1, .slice A2 X2.length c2, .slice A3 X3.length c3, .slice A4 X4.length c4] 26) = w6 at hz6 HB6 ⊢
 have HZ6 := M_ hz6
 clear hz6
 have z0 := (blk_cell HZ6.out 0).trans (show _ = some (.int .i64 0) from rfl)
 have fz0 := blk_frozen HZ6.out 0
 have z1 := (blk_cell HZ6.out 1).trans (show _ = some (.slice none 0 0) from rfl)
 have fz1 := blk_frozen HZ6.out 1
 have z2 := (blk_cell HZ6.out 2).trans (show _ = some (.slice none 0 0) from rfl)
 have fz2 := blk_frozen HZ6.out 2
 have z3 := (blk_cell HZ6.out 3).trans (show _ = some (.slice none 0 0) from rfl)
 have fz3 := blk_frozen HZ6.out 3
 have z4 := (blk_cell HZ6.out 4).trans (show _ = some (.slice none 0 0) from rfl)
 have fz4 := blk_frozen HZ6.out 4
 have z5 := (blk_cell HZ6.out 5).trans (show _ = some (.int .i64 0) from rfl)
 have fz5 := blk_frozen HZ6.out 5
 have z6 := (blk_cell HZ6.out 6).trans (show _ = some (.int .i64 0) from rfl)
 have fz6 := blk_frozen HZ6.out 6
 have z7 := (blk_cell HZ6.out 7).trans (show _ = some (.slice none 0 0) from rfl)
 have fz7 := blk_frozen HZ6.out 7
 have z8 := (blk_cell HZ6.out 8).trans (show _ = some (.slice none 0 0) from rfl)
 have fz8 := blk_frozen HZ6.out 8
 have z9 := (blk_cell HZ6.out 9).trans (show _ = some (.slice none 0 0) from rfl)
 have fz9 := blk_frozen HZ6.out 9
 have z10 := (blk_cell HZ6.out 10).trans (show _ = some (.slice none 0 0) from rfl)
 have fz10 := blk_frozen HZ6.out 10
 have z11 := (blk_cell HZ6.out 11).trans (show _ = some (.int .i64 0) from rfl)
 have fz11 := blk_frozen HZ6.out 11
 go_wp2
 (try simp only [Exit.inBlock, Exit.then]); refine bodyPost_ret (results_list (rs := [.cell 2 39, .tmp 3]) rfl (by simp) (.cell (w.heap.size + 1) 39 #[.int .i64 0, .slice none 0 0, .slice none 0 0, .slice none 0 0, .slice none 0 0, .int .i64 0, .int .i64 0, .slice none 0 0, .slice none 0 0, .slice none 0 0, .slice none 0 0, .int .i64 0] (0, 0) _ rfl (putAll_blk [.int .i64 0, .slice none 0 0, .slice none 0 0, .slice none 0 0, .slice none 0 0, .int .i64 0, .int .i64 0, .slice none 0 0, .slice none 0 0, .slice none 0 0, .slice none 0 0, .int .i64 0] [] [.int .i64 0, .slice none 0 0, .slice none 0 0, .slice none 0 0, .slice none 0 0, .int .i64 0, .int .i64 0, .slice none 0 0, .slice none 0 0, .slice none 0 0, .slice none 0 0, .int .i64 0] w6 HZ6.out rfl) Try.underlying39 rfl (by kernel_rfl) (.tmp .nil))) rfl ?_
 exact ⟨_, _, _, _, _, _, _, _, rfl, Kd.R_nil _ _ _ _ _, Kd.R_nil _ _ _ _ _, Kd.R_nil _ _ _ _ _, Kd.R_nil _ _ _ _ _, Kd.R_nil _ _ _ _ _, Kd.S_nil _ _ _ _ _, Kd.R_nil _ _ _ _ _, Kd.R_nil _ _ _ _ _, putAll_below (Nat.le_succ _) [.int .i64 0, .slice none 0 0, .slice none 0 0, .slice none 0 0, .slice none 0 0, .int .i64 0, .int .i64 0, .slice none 0 0, .slice none 0 0, .slice none 0 0, .slice none 0 0, .int .i64 0] 0 w6 HB6.out⟩
set_option maxHeartbeats 8000000 in
set_option maxRecDepth 100000 in
theorem pass_main (k : Nat) (a0_0 : Int) (A0_1 : Option Addr) (c0_1 : Nat) (l0_1 : List (S45)) (A0_2 : Option Addr) (c0_2 : Nat) (l0_2 : List (S55)) (A0_3 : Option Addr) (c0_3 : Nat) (l0_3 : List Int) (A0_4 : Option Addr) (c0_4 : Nat) (l0_4 : List Int) (X0 : List Int) (x1 : Int) (X1 : List S45) (X2 : List S55) (X3 X4 : List Int) (s6 s7 : Int) (X7 : List Int) (X8 : List (List Int)) (X9 : List Int) (XA : List S55) (lit e2 : Int) (w : World) (hr0_1 : Kd.C k45 w A0_1 l0_1.length l0_1) (hc0_1 : l0_1.length ≤ c0_1) (hr0_2 : Kd.C k55 w A0_2 l0_2.length l0_2) (hc0_2 : l0_2.length ≤ c0_2) (hr0_3 : Kd.C (Kd.int .i64) w A0_3 l0_3.length l0_3) (hc0_3 : l0_3.length ≤ c0_3) (hr0_4 : Kd.C (Kd.int .i64) w A0_4 l0_4.length l0_4) (hc0_4 : l0_4.length ≤ c0_4)
  (hf : constants_find.f k a0_0 l0_1 l0_2 l0_3 l0_4 = some (X0, x1, X1, X2, X3, X4, 0)) (hid : lift_Identity.f k a0_0 l0_1 l0_2 l0_3 l0_4 = some (s6, s7, X7, X8, X9, XA, lit, e2)) (hok : okS l0_1 X0 XA = true) :
  Calls Try.prog 12 #[.agg #[.int .i64 a0_0, .slice A0_1 l0_1.length c0_1, .slice A0_2 l0_2.length c0_2, .slice A0_3 l0_3.length c0_3, .slice A0_4 l0_4.length c0_4]] w fun e w' => ∃ v1_ v2_ v3_ v4_ v7_ v8_ v9_ v10_ : Value, e = .returned (.tuple #[.agg #[.int .i64 x1, v1_, v2_, v3_, v4_, .int .i64 s6, .int .i64 s7, v7_, v8_, v9_, v10_, .int .i64 (X0.foldl (chainS l0_1) (XA, lit)).2], .int .i64 0]) ∧ Kd.R k45 45 w' w.heap.size (fun _ => True) v1_ X1 ∧ Kd.R k55 55 w' w.heap.size (fun k_ => some k_ ≠ (v10_ : Value).ownBlock) v2_ X2 ∧ Kd.R (Kd.int .i64) 3 w' w.heap.size (fun k_ => some k_ ≠ (v4_ : Value).ownBlock ∧ some k_ ≠ (v7_ : Value).ownBlock ∧ some k_ ≠ (v9_ : Value).ownBlock) v3_ X3 ∧ Kd.R (Kd.int .i64) 3 w' w.heap.size (fun k_ => some k_ ≠ (v3_ : Value).ownBlock ∧ some k_ ≠ (v7_ : Value).ownBlock ∧ some k_ ≠ (v9_ : Value).ownBlock) v4_ X4 ∧ Kd.R (Kd.int .i64) 3 w' w.heap.size (fun k_ => some k_ ≠ (v3_ : Value).ownBlock ∧ some k_ ≠ (v4_ : Value).ownBlock ∧ some k_ ≠ (v9_ : Value).ownBlock) v7_ X7 ∧ Kd.S (Kd.slice 3 (Kd.int .i64)) 24 w' w.heap.size (fun k_ => some k_ ≠ (v3_ : Value).ownBlock ∧ some k_ ≠ (v4_ : Value).ownBlock ∧ some k_ ≠ (v7_ : Value).ownBlock ∧ some k_ ≠ (v9_ : Value).ownBlock) v8_ X8 ∧ Kd.R (Kd.int .i64) 3 w' w.heap.size (fun k_ => some k_ ≠ (v3_ : Value).ownBlock ∧ some k_ ≠ (v4_ : Value).ownBlock ∧ some k_ ≠ (v7_ : Value).ownBlock) v9_ X9 ∧ Kd.R k55 55 w' w.heap.size (fun k_ => some k_ ≠ (v2_ : Value).ownBlock) v10_ (X0.foldl (chainS l0_1) (XA, lit)).1 ∧ Below w.heap.size w w' := by
 have hu26 := Try.underlying26
 have hu37 := Try.underlying37
 have hu39 := Try.underlying39
 have huP := Try.underlying35
 have HR0_1 := M_ hr0_1
 have HC0_1 := M_ hc0_1
 have HR0_2 := M_ hr0_2
 have HC0_2 := M_ hc0_2
 have HR0_3 := M_ hr0_3
 have HC0_3 := M_ hc0_3
 have HR0_4 := M_ hr0_4
 have HC0_4 := M_ hc0_4
 have HB0 := M_ (below_alloc (below_alloc (Below.refl w.heap.size w) (.cells #[.int .i64 a0_0, .slice A0_1 l0_1.length c0_1, .slice A0_2 l0_2.length c0_2, .slice A0_3 l0_3.length c0_3, .slice A0_4 l0_4.length c0_4] 26)) (.cells #[.int .i64 0, .slice none 0 0, .slice none 0 0, .slice none 0 0, .slice none 0 0, .int .i64 0, .int .i64 0, .slice none 0 0, .slice none 0 0, .slice none 0 0, .slice none 0 0, .int .i64 0] 39))
 have hz := heap_alloc_new (w.alloc (.cells #[.int .i64 a0_0, .slice A0_1 l0_1.length c0_1, .slice A0_2 l0_2.length c0_2, .slice A0_3 l0_3.length c0_3, .slice A0_4 l0_4.length c0_4] 26)) (.cells #[.int .i64 0, .slice none 0 0, .slice none 0 0, .slice none 0 0, .slice none 0 0, .int .i64 0, .int .i64 0, .slice none 0 0, .slice none 0 0, .slice none 0 0, .slice none 0 0, .int .i64 0] 39)
 rw [World.size_alloc] at hz
 have HZ0 := M_ hz
 have HCC := M_ (blk_alloc (heap_alloc_new w (.cells #[.int .i64 a0_0, .slice A0_1 l0_1.length c0_1, .slice A0_2 l0_2.length c0_2, .slice A0_3 l0_3.length c0_3, .slice A0_4 l0_4.length c0_4] 26)) (.cells #[.int .i64 0, .slice none 0 0, .slice none 0 0, .slice none 0 0, .slice none 0 0, .int .i64 0, .int .i64 0, .slice none 0 0, .slice none 0 0, .slice none 0 0, .slice none 0 0, .int .i64 0] 39))
 have HFI := M_ hf
 clear hr0_1 hr0_2 hr0_3 hr0_4 hc0_1 hc0_2 hc0_3 hc0_4 hf hz
 have HID := M_ hid
 unfold okS at hok
 simp only [Bool.and_eq_true, decide_eq_true_eq, List.all_eq_true] at hok
 have HS := M_ hok
 clear hid hok
 go_enter Try.func12, Try.ntmps12
 go_upto_region 2 with (go_at_call 35; (with_reducible refine (constants_find.calls k a0_0 A0_1 c0_1 l0_1 A0_2 c0_2 l0_2 A0_3 c0_3 l0_3 A0_4 c0_4 l0_4 X0 x1 X1 X2 X3 X4 0 _ (Kd.C_below HR0_1.out HB0.out) HC0_1.out (Kd.C_below HR0_2.out HB0.out) HC0_2.out (Kd.C_below HR0_3.out HB0.out) HC0_3.out (Kd.C_below HR0_4.out HB0.out) HC0_4.out HFI.out).mono ?_); rintro e w5 ⟨v0, v2, v3, v4, v5, rfl, o0, o1, o2, o3, o4, hb⟩; obtain ⟨A0, c0, rfl⟩ := Kd.R_slice o0; obtain ⟨A1, c1, rfl⟩ := Kd.R_slice o1; obtain ⟨A2, c2, rfl⟩ := Kd.R_slice o2; obtain ⟨A3, c3, rfl⟩ := Kd.R_slice o3; obtain ⟨A4, c4, rfl⟩ := Kd.R_slice o4; have O0 := M_ (Kd.R_lower o0 (below_size HB0.out)); have O1 := M_ (Kd.R_lower o1 (below_size HB0.out)); have O2 := M_ (Kd.R_lower o2 (below_size HB0.out)); have O3 := M_ (Kd.R_lower o3 (below_size HB0.out)); have O4 := M_ (Kd.R_lower o4 (below_size HB0.out)); have HB5 := M_ (below_step HB0.out hb); have HZ5 := M_ (blk_below HZ0.out hb); have HC5 := M_ (blk_below HCC.out hb); clear o0 o1 o2 o3 o4 hb)
 have hx := PX.mk (below_alloc HB5.out (.cells #[.int .i64 x1, .slice A1 X1.length c1, .slice A2 X2.length c2, .slice A3 X3.length c3, .slice A4 X4.length c4] 26)) (blk_alloc HC5.out (.cells #[.int .i64 x1, .slice A1 X1.length c1, .slice A2 X2.length c2, .slice A3 X3.length c3, .slice A4 X4.length c4] 26)) (blk_alloc HZ5.out (.cells #[.int .i64 x1, .slice A1 X1.length c1, .slice A2 X2.length c2, .slice A3 X3.length c3, .slice A4 X4.length c4] 26)) (heap_alloc_new w5 (.cells #[.int .i64 x1, .slice A1 X1.length c1, .slice A2 X2.length c2, .slice A3 X3.length c3, .slice A4 X4.length c4] 26))
 have O0 := M_ (Kd.R_mono (Kd.R_alloc O0.out (.cells #[.int .i64 x1, .slice A1 X1.length c1, .slice A2 X2.length c2, .slice A3 X3.length c3, .slice A4 X4.length c4] 26)) (fun _ _ => trivial))
 have O1 := M_ (Kd.R_alloc O1.out (.cells #[.int .i64 x1, .slice A1 X1.length c1, .slice A2 X2.length c2, .slice A3 X3.length c3, .slice A4 X4.length c4] 26))
 have O2 := M_ (Kd.R_alloc O2.out (.cells #[.int .i64 x1, .slice A1 X1.length c1, .slice A2 X2.length c2, .slice A3 X3.length c3, .slice A4 X4.length c4] 26))
 have O3 := M_ (Kd.R_mono (Kd.R_alloc O3.out (.cells #[.int .i64 x1, .slice A1 X1.length c1, .slice A2 X2.length c2, .slice A3 X3.length c3, .slice A4 X4.length c4] 26)) (fun _ hk => hk.2))
 have O4 := M_ (Kd.R_mono (Kd.R_alloc O4.out (.cells #[.int .i64 x1, .slice A1 X1.length c1, .slice A2 X2.length c2, .slice A3 X3.length c3, .slice A4 X4.length c4] 26)) (fun _ hk => hk.2))
 clear HB5 HZ5 HC5 HB0 HZ0 HCC HFI
 generalize w5.heap.size = bx at hx ⊢
 generalize w5.alloc (.cells #[.int .i64 x1, .slice A1 X1.length c1, .slice A2 X2.length c2, .slice A3 X3.length c3, .slice A4 X4.length c4] 26) = w6 at hx O0 O1 O2 O3 O4 ⊢
 have HX := M_ hx
 clear hx
 go_upto_region 4 with fail
 have y0 := (blk_cell HX.out.hc 0).trans (show _ = some (.int .i64 a0_0) from rfl)
 have y1 := (blk_cell HX.out.hc 1).trans (show _ = some (.slice A0_1 l0_1.length c0_1) from rfl)
 have y2 := (blk_cell HX.out.hc 2).trans (show _ = some (.slice A0_2 l0_2.length c0_2) from rfl)
 have y3 := (blk_cell HX.out.hc 3).trans (show _ = some (.slice A0_3 l0_3.length c0_3) from rfl)
 have y4 := (blk_cell HX.out.hc 4).trans (show _ = some (.slice A0_4 l0_4.length c0_4) from rfl)
 go_upto_region 5 with (go_at_call 36; (with_reducible refine (lift_Identity.calls k a0_0 A0_1 c0_1 l0_1 A0_2 c0_2 l0_2 A0_3 c0_3 l0_3 A0_4 c0_4 l0_4 s6 s7 X7 X8 X9 XA lit e2 _ (Kd.C_below HR0_1.out HX.out.hb) HC0_1.out (Kd.C_below HR0_2.out HX.out.hb) HC0_2.out (Kd.C_below HR0_3.out HX.out.hb) HC0_3.out (Kd.C_below HR0_4.out HX.out.hb) HC0_4.out HID.out).mono ?_); rintro e w8 ⟨v7, v8, v9, vA, rfl, o7, o8, o9, oA, hb⟩; obtain ⟨A7, c7, rfl⟩ := Kd.R_slice o7; obtain ⟨A8, c8, rfl⟩ := Kd.S_slice o8; obtain ⟨A9, c9, rfl⟩ := Kd.R_slice o9; obtain ⟨AA, cA, rfl⟩ := Kd.R_slice oA; have HX8 := M_ (HX.out.below hb); have HP8 := M_ (PR.make HX.out.hb.size O1.out O2.out O3.out O4.out hb o7 o8 o9 oA); have HO8 := M_ (Kd.R_below O0.out hb); have HGE := M_ (Nat.le_trans HX.out.hb.size hb.size); clear o7 o8 o9 oA hb)
 clear y0 y1 y2 y3 y4 HID O0 O1 O2 O3 O4 HX
 have HI := M_ (heap_alloc_new w8 (.cells #[.int .i64 s6, .int .i64 s7, .slice A7 X7.length c7, .slice A8 X8.length c8, .slice A9 X9.length c9, .slice AA XA.length cA, .int .i64 lit] 37))
 have HP := M_ (HP8.out.below (below_alloc (Below.refl _ w8) (.cells #[.int .i64 s6, .int .i64 s7, .slice A7 X7.length c7, .slice A8 X8.length c8, .slice A9 X9.length c9, .slice AA XA.length cA, .int .i64 lit] 37)))
 have HX := M_ (HX8.out.below (below_alloc (Below.refl _ w8) (.cells #[.int .i64 s6, .int .i64 s7, .slice A7 X7.length c7, .slice A8 X8.length c8, .slice A9 X9.length c9, .slice AA XA.length cA, .int .i64 lit] 37)))
 have HO := M_ (Kd.R_alloc HO8.out (.cells #[.int .i64 s6, .int .i64 s7, .slice A7 X7.length c7, .slice A8 X8.length c8, .slice A9 X9.length c9, .slice AA XA.length cA, .int .i64 lit] 37))
 clear HP8 HX8 HO8
 generalize w8.heap.size = bi at HI HGE ⊢
 generalize w8.alloc (.cells #[.int .i64 s6, .int .i64 s7, .slice A7 X7.length c7, .slice A8 X8.length c8, .slice A9 X9.length c9, .slice AA XA.length cA, .int .i64 lit] 37) = w9 at HI HP HX HO ⊢
 have y1 := (blk_cell HX.out.hc 1).trans (show _ = some (.slice A0_1 l0_1.length c0_1) from rfl)
 have e1 : wrap64 ((l0_1.length : Int) + (X0.length : Int)) = (l0_1.length : Int) + (X0.length : Int) := by have h1 := HS.out; unfold wrap64; omega
 have e2 : wrap64 ((l0_1.length : Int) + (X0.length : Int) - 1) = (l0_1.length : Int) + (X0.length : Int) - 1 := by have h1 := HS.out; unfold wrap64; omega
 have e3 : decide ((l0_1.length : Int) + (X0.length : Int) - 1 > 1000) = false := decide_eq_false (by have h1 := HS.out; omega)
 have e4 : decide (1000 < (l0_1.length : Int) + (X0.length : Int) - 1) = false := decide_eq_false (by have h1 := HS.out; omega)
 go_upto_block 0 with fail
 clear y1 e1 e2 e3 e4

 go_cut [] (fun wx => ∃ (AB : Option Addr) (cB : Nat), Aside0 (PX w wx #[.int .i64 a0_0, .slice A0_1 l0_1.length c0_1, .slice A0_2 l0_2.length c0_2, .slice A0_3 l0_3.length c0_3, .slice A0_4 l0_4.length c0_4] #[.int .i64 x1, .slice A1 X1.length c1, .slice A2 X2.length c2, .slice A3 X3.length c3, .slice A4 X4.length c4] bx) ∧ Aside0 (wx.heap[bi]? = some (.cells #[.int .i64 s6, .int .i64 s7, .slice A7 X7.length c7, .slice A8 X8.length c8, .slice A9 X9.length c9, .slice AB (X0.foldl (chainS l0_1) (XA, lit)).1.length cB, .int .i64 (X0.foldl (chainS l0_1) (XA, lit)).2] 37 (0, 0))) ∧ Aside0 (PR wx w.heap.size A1 c1 X1 A2 c2 X2 A3 c3 X3 A4 c4 X4 A7 c7 X7 A8 c8 X8 A9 c9 X9 AB cB (X0.foldl (chainS l0_1) (XA, lit)).1) ∧ Aside0 (Kd.R (Kd.int .i64) 3 wx w.heap.size (fun _ => True) (.slice A0 X0.length c0) X0))
 case first =>
  go_wp2
  go_loopg [57] (X0.length + 1) (fun kq v57 w' => ∃ (j : Nat) (AB : Option Addr) (cB : Nat) (ands : List S55) (lt : Int), v57 = .int .i64 (j : Int) ∧ Aside0 (j ≤ X0.length ∧ kq + j = X0.length + 1) ∧ Aside0 ((X0.take j).foldl (chainS l0_1) (XA, lit) = (ands, lt)) ∧ Aside0 (ands.length ≤ XA.length + j) ∧ Aside0 (PX w w' #[.int .i64 a0_0, .slice A0_1 l0_1.length c0_1, .slice A0_2 l0_2.length c0_2, .slice A0_3 l0_3.length c0_3, .slice A0_4 l0_4.length c0_4] #[.int .i64 x1, .slice A1 X1.length c1, .slice A2 X2.length c2, .slice A3 X3.length c3, .slice A4 X4.length c4] bx) ∧ Aside0 (w'.heap[bi]? = some (.cells #[.int .i64 s6, .int .i64 s7, .slice A7 X7.length c7, .slice A8 X8.length c8, .slice A9 X9.length c9, .slice AB ands.length cB, .int .i64 lt] 37 (0, 0))) ∧ Aside0 (PR w' w.heap.size A1 c1 X1 A2 c2 X2 A3 c3 X3 A4 c4 X4 A7 c7 X7 A8 c8 X8 A9 c9 X9 AB cB ands) ∧ Aside0 (Kd.R (Kd.int .i64) 3 w' w.heap.size (fun _ => True) (.slice A0 X0.length c0) X0))
  case atStart => exact ⟨0, AA, cA, XA, lit, by simp, ⟨by omega, by omega⟩, ⟨rfl⟩, ⟨Nat.le_refl _⟩, HX, HI, HP, HO⟩
  case round =>
   clear HX HI HP HO
   obtain ⟨j, AB, cB, ands, lt, rfl, HJ, HCH, HAL, HX, HI, HP, HO⟩ := hrel
   by_cases c : j < X0.length
   ·have cb : decide (j < X0.length) = true := decide_eq_true c
    have HC := M_ c
    have p0 : (0 : Int) ≤ (j : Int) := by omega
    have p1 : (j : Int) < (X0.length : Int) := by omega
    obtain ⟨ad, e7, hx0⟩ := Kd.at_int (Kd.R_reads' HO.out).2.2 (j : Int) p0 p1
    have er : rd X0 (j : Int) = X0[j] := by simp [rd, List.getD, c]
    rw [Int.toNat_natCast, er] at hx0
    have hsx := HS.out.2 X0[j] (List.getElem_mem c)
    have hst := chain_step l0_1 (XA, lit) X0 j c
    rw [HCH.out] at hst
    generalize X0[j] = x at hx0 hsx hst
    obtain ⟨ae, ea, hy0, hy1⟩ := at_T45 (Kd.C_below HR0_1.out HX.out.hb) x hsx.1 hsx.2.1
    subst e7
    subst ea
    unfold chainS at hst
    generalize (rd_T45 l0_1 x).f1 = y at hy1 hsx hst
    have HSX := M_ hsx
    have q0 := eq_true hsx.1
    have q1 := eq_true hsx.2.1
    clear hsx er hy0
    have y1 := (blk_cell HX.out.hc 1).trans (show _ = some (.slice (some ae) l0_1.length c0_1) from rfl)
    have z5 := (blk_cell HI.out 5).trans (show _ = some (.slice AB ands.length cB) from rfl)
    have z6 := (blk_cell HI.out 6).trans (show _ = some (.int .i64 lt) from rfl)
    have f5 := blk_frozen HI.out 5
    have f6 := blk_frozen HI.out 6
    have u1 : wrap64 (x + 1) = x + 1 := by have h1 := HS.out; have h2 := HSX.out; unfold wrap64; omega
    have u2 : wrap64 (2 * (x + 1)) = 2 * (x + 1) := by have h1 := HS.out; have h2 := HSX.out; unfold wrap64; omega
    have u3 : wrap64 (2 * (x + 1) + 1) = 2 * (x + 1) + 1 := by have h1 := HS.out; have h2 := HSX.out; unfold wrap64; omega
    obtain ⟨nl, hnl⟩ : ∃ n : Int, 2 * (x + 1) + 1 - y = n := ⟨_, rfl⟩
    rw [hnl] at hst
    have u4 : wrap64 (2 * (x + 1) + 1 - y) = nl := by have h1 := HS.out; have h2 := HSX.out; unfold wrap64; omega
    clear hnl
    have U5 := M_ (show wrap64 ((j : Int) + 1) = ((j + 1 : Nat) : Int) by have h1 := HS.out; have h3 := HC.out; unfold wrap64; omega)
    by_cases cl : lt = 1
    ·rw [if_pos cl] at hst
     have HST := M_ hst
     subst cl
     clear hst
     go_wp2
     go_roundg (gk - 1)
     case measure => have := HJ.out; have := HC.out; omega
     case rel => exact ⟨j + 1, AB, cB, ands, nl, congrArg (Value.int .i64) U5.out, ⟨by have := HC.out; omega, by have := HJ.out; have := HC.out; omega⟩, ⟨HST.out⟩, ⟨by have := HAL.out; omega⟩, ⟨HX.out.put HI.out HGE.out 6 _⟩, ⟨blk_put HI.out 6 _ rfl⟩, ⟨HP.out.set HI.out (Or.inl rfl) 6 _⟩, ⟨Kd.R_set HO.out HI.out (by decide) 6 _⟩⟩
    ·rw [if_neg cl] at hst
     obtain ⟨nd, hnd⟩ : ∃ l : List S55, ands ++ [(⟨mx lt nl, mn lt nl⟩ : S55)] = l := ⟨_, rfl⟩
     rw [hnd] at hst
     have hl : nd.length = ands.length + 1 := by rw [← hnd]; simp
     rw [show (ands.length : Int) + 1 = (nd.length : Int) by omega] at hst
     have HND := M_ hnd
     have HL := M_ hl
     clear hnd hl
     have HST := M_ hst
     have d1 : (lt == 1) = false := beq_eq_false_iff_ne.mpr cl
     have d2 : decide (lt = 1) = false := decide_eq_false cl
     clear hst cl
     have v1_ : wrap64 ((l0_1.length : Int) + (nd.length : Int)) = (l0_1.length : Int) + (nd.length : Int) := by have h1 := HS.out; have h2 := HAL.out; have h3 := HC.out; have h4 := HL.out; unfold wrap64; omega
     have v2_ : wrap64 (2 * ((l0_1.length : Int) + (nd.length : Int))) = 2 * ((l0_1.length : Int) + (nd.length : Int)) := by have h1 := HS.out; have h2 := HAL.out; have h3 := HC.out; have h4 := HL.out; unfold wrap64; omega
     go_upto_region 16 with fail

     go_upto_region 17 with ((with_reducible refine gate_builtin (b := .append) (xs := #[.tmp 81, .tmp 93]) rfl ?_); at_builtin; refine Kd.R_append k55 (w0 := w) w.heap.size rfl (.tmp 81) (.tmp 93) 23 55 (.agg #[(.int .i64 0), (.int .i64 0)]) 16 rfl Try.underlying23 info55 rfl (by decide) (by omega) (.slice AB ands.length cB) ands (⟨mx lt nl, mn lt nl⟩ : S55) [.int .i64 (mx lt nl), .int .i64 (mn lt nl)] (fun k_ => some k_ ≠ (Value.slice A2 X2.length c2).ownBlock) (fun _ => False) rfl rfl ?aP (fun _ hk => hk.elim) ?aF ?aO ?aB ?aS ?aL ?_; (case aP => exact k55_mkM _ _ _ (⟨mx lt nl, mn lt nl⟩ : S55)); (case aB => exact HX.out.hb); (case aF => exact (fun k_ hk => Kd.fresh' (Kd.R_lt HP.out.r2) k_ hk)); (case aO => exact HP.out.rA); (case aS => exact (below_size HX.out.hb)); (case aL => have h1 := HAL.out; have h2 := HS.out; have h3 := HC.out; omega); intro vB w10 ho hb hg hat; rw [HND.out] at ho; obtain ⟨AC, cC, rfl⟩ := Kd.R_slice ho; have HX10 := M_ (HX.out.over HP.out.rA hg); have HI10 := M_ (blk_grown HI.out hg (Kd.R_ne HP.out.rA HI.out (by decide))); have HP10 := M_ (HP.out.app hg hat ho); have HO10 := M_ (Kd.R_over HO.out HP.out.rA (by decide) hg); have g5 := blk_frozen HI10.out 5; have g5c := (blk_cell HI10.out 5).trans (show _ = some (.slice AB ands.length cB) from rfl); (try clear hat); (try clear hg); (try clear ho); (try clear hb))

     have HX2 := M_ (HX10.out.put HI10.out HGE.out 5 (.slice AC nd.length cC))
     have HI2 := M_ (blk_put HI10.out 5 (.slice AC nd.length cC) (cs' := #[.int .i64 s6, .int .i64 s7, .slice A7 X7.length c7, .slice A8 X8.length c8, .slice A9 X9.length c9, .slice AC nd.length cC, .int .i64 lt]) rfl)
     have HP2 := M_ (HP10.out.set HI10.out (Or.inl rfl) 5 (.slice AC nd.length cC))
     have HO2 := M_ (Kd.R_set HO10.out HI10.out (by decide) 5 (.slice AC nd.length cC))
     have y1 := (blk_cell HX2.out.hc 1).trans (show _ = some (.slice (some ae) l0_1.length c0_1) from rfl)
     have z5 := (blk_cell HI2.out 5).trans (show _ = some (.slice AC nd.length cC) from rfl)
     have z6 := (blk_cell HI2.out 6).trans (show _ = some (.int .i64 lt) from rfl)
     have f6 := blk_frozen HI2.out 6
     clear HX10 HI10 HP10 HO10 g5 g5c
     go_wp2
     all_goals (
      go_roundg (gk - 1)
      case measure => have := HJ.out; have := HC.out; omega
      case rel => exact ⟨j + 1, AC, cC, nd, 2 * ((l0_1.length : Int) + (nd.length : Int)), congrArg (Value.int .i64) U5.out, ⟨by have := HC.out; omega, by have := HJ.out; have := HC.out; omega⟩, ⟨HST.out⟩, ⟨by have := HAL.out; have := HL.out; omega⟩, ⟨HX2.out.put HI2.out HGE.out 6 _⟩, ⟨blk_put HI2.out 6 _ rfl⟩, ⟨HP2.out.set HI2.out (Or.inl rfl) 6 _⟩, ⟨Kd.R_set HO2.out HI2.out (by decide) 6 _⟩⟩)
   ·have cb : decide (j < X0.length) = false := decide_eq_false c
    have ej : j = X0.length := by have := HJ.out; omega
    subst ej
    have hch := HCH.out
    rw [List.take_length] at hch
    go_wp2
    go_meet
    rw [hch]
    exact ⟨AB, cB, HX, HI, HP, HO⟩
 case rest =>
 obtain ⟨AB, cB, HX1, HI1, HP1, HO1⟩ := hcut
 clear HX HI HP HO HO1
 have HX := HX1
 have HI := HI1
 have HP := HP1
 clear HX1 HI1 HP1
 generalize hA : (X0.foldl (chainS l0_1) (XA, lit)).1 = OA at HI HP
 generalize hL : (X0.foldl (chainS l0_1) (XA, lit)).2 = OL at HI
 have HA := M_ hA
 have HL := M_ hL
 clear hA hL
 have y0 := (blk_cell HX.out.hx 0).trans (show _ = some (.int .i64 x1) from rfl)
 have y1 := (blk_cell HX.out.hx 1).trans (show _ = some (.slice A1 X1.length c1) from rfl)
 have y2 := (blk_cell HX.out.hx 2).trans (show _ = some (.slice A2 X2.length c2) from rfl)
 have y3 := (blk_cell HX.out.hx 3).trans (show _ = some (.slice A3 X3.length c3) from rfl)
 have y4 := (blk_cell HX.out.hx 4).trans (show _ = some (.slice A4 X4.length c4) from rfl)
 have z0 := (blk_cell HI.out 0).trans (show _ = some (.int .i64 s6) from rfl)
 have z1 := (blk_cell HI.out 1).trans (show _ = some (.int .i64 s7) from rfl)
 have z2 := (blk_cell HI.out 2).trans (show _ = some (.slice A7 X7.length c7) from rfl)
 have z3 := (blk_cell HI.out 3).trans (show _ = some (.slice A8 X8.length c8) from rfl)
 have z4 := (blk_cell HI.out 4).trans (show _ = some (.slice A9 X9.length c9) from rfl)
 have z5 := (blk_cell HI.out 5).trans (show _ = some (.slice AB OA.length cB) from rfl)
 have z6 := (blk_cell HI.out 6).trans (show _ = some (.int .i64 OL) from rfl)
 have t0 := (blk_cell HX.out.hr 0).trans (show _ = some (.int .i64 0) from rfl)
 have ft0 := blk_frozen HX.out.hr 0
 have t1 := (blk_cell HX.out.hr 1).trans (show _ = some (.slice none 0 0) from rfl)
 have ft1 := blk_frozen HX.out.hr 1
 have t2 := (blk_cell HX.out.hr 2).trans (show _ = some (.slice none 0 0) from rfl)
 have ft2 := blk_frozen HX.out.hr 2
 have t3 := (blk_cell HX.out.hr 3).trans (show _ = some (.slice none 0 0) from rfl)
 have ft3 := blk_frozen HX.out.hr 3
 have t4 := (blk_cell HX.out.hr 4).trans (show _ = some (.slice none 0 0) from rfl)
 have ft4 := blk_frozen HX.out.hr 4
 have t5 := (blk_cell HX.out.hr 5).trans (show _ = some (.int .i64 0) from rfl)
 have ft5 := blk_frozen HX.out.hr 5
 have t6 := (blk_cell HX.out.hr 6).trans (show _ = some (.int .i64 0) from rfl)
 have ft6 := blk_frozen HX.out.hr 6
 have t7 := (blk_cell HX.out.hr 7).trans (show _ = some (.slice none 0 0) from rfl)
 have ft7 := blk_frozen HX.out.hr 7
 have t8 := (blk_cell HX.out.hr 8).trans (show _ = some (.slice none 0 0) from rfl)
 have ft8 := blk_frozen HX.out.hr 8
 have t9 := (blk_cell HX.out.hr 9).trans (show _ = some (.slice none 0 0) from rfl)
 have ft9 := blk_frozen HX.out.hr 9
 have t10 := (blk_cell HX.out.hr 10).trans (show _ = some (.slice none 0 0) from rfl)
 have ft10 := blk_frozen HX.out.hr 10
 have t11 := (blk_cell HX.out.hr 11).trans (show _ = some (.int .i64 0) from rfl)
 have ft11 := blk_frozen HX.out.hr 11
 go_wp2
 (try simp only [Exit.inBlock, Exit.then]); refine bodyPost_ret (results_list (rs := [.cell 2 39, .tmp 3]) rfl (by simp) (.cell (w.heap.size + 1) 39 #[.int .i64 x1, .slice A1 X1.length c1, .slice A2 X2.length c2, .slice A3 X3.length c3, .slice A4 X4.length c4, .int .i64 s6, .int .i64 s7, .slice A7 X7.length c7, .slice A8 X8.length c8, .slice A9 X9.length c9, .slice AB OA.length cB, .int .i64 OL] (0, 0) _ rfl (putAll_blk [.int .i64 x1, .slice A1 X1.length c1, .slice A2 X2.length c2, .slice A3 X3.length c3, .slice A4 X4.length c4, .int .i64 s6, .int .i64 s7, .slice A7 X7.length c7, .slice A8 X8.length c8, .slice A9 X9.length c9, .slice AB OA.length cB, .int .i64 OL] [] [.int .i64 0, .slice none 0 0, .slice none 0 0, .slice none 0 0, .slice none 0 0, .int .i64 0, .int .i64 0, .slice none 0 0, .slice none 0 0, .slice none 0 0, .slice none 0 0, .int .i64 0] wc HX.out.hr rfl) Try.underlying39 rfl (by kernel_rfl) (.tmp .nil))) rfl ?_
 have HQ := putAll_PR (Or.inr rfl) [.int .i64 x1, .slice A1 X1.length c1, .slice A2 X2.length c2, .slice A3 X3.length c3, .slice A4 X4.length c4, .int .i64 s6, .int .i64 s7, .slice A7 X7.length c7, .slice A8 X8.length c8, .slice A9 X9.length c9, .slice AB OA.length cB, .int .i64 OL] 0 wc _ HX.out.hr HP.out
 have HW := putAll_below (Nat.le_succ _) [.int .i64 x1, .slice A1 X1.length c1, .slice A2 X2.length c2, .slice A3 X3.length c3, .slice A4 X4.length c4, .int .i64 s6, .int .i64 s7, .slice A7 X7.length c7, .slice A8 X8.length c8, .slice A9 X9.length c9, .slice AB OA.length cB, .int .i64 OL] 0 wc HX.out.hb
 simp only [putAll, Nat.zero_add, Nat.reduceAdd] at HQ HW
 have hA := HA.out
 have hL := HL.out
 subst hA hL
 exact ⟨.slice A1 X1.length c1, .slice A2 X2.length c2, .slice A3 X3.length c3, .slice A4 X4.length c4, .slice A7 X7.length c7, .slice A8 X8.length c8, .slice A9 X9.length c9, .slice AB (X0.foldl (chainS l0_1) (XA, lit)).1.length cB, rfl, HQ.r1, HQ.r2, HQ.r3, HQ.r4, HQ.r7, HQ.r8, HQ.r9, HQ.rA, HW⟩

theorem constants_Pass.calls (k : Nat) (a0_0 : Int) (A0_1 : Option Addr) (c0_1 : Nat) (l0_1 : List (S45)) (A0_2 : Option Addr) (c0_2 : Nat) (l0_2 : List (S55)) (A0_3 : Option Addr) (c0_3 : Nat) (l0_3 : List Int) (A0_4 : Option Addr) (c0_4 : Nat) (l0_4 : List Int) (r1 : Int) (r2 : List (S45)) (r3 : List (S55)) (r4 : List Int) (r5 : List Int) (r6 : Int) (r7 : Int) (r8 : List Int) (r9 : List (List Int)) (r10 : List Int) (r11 : List (S55)) (r12 : Int) (r13 : Int) (w : World) (hr0_1 : Kd.C k45 w A0_1 l0_1.length l0_1) (hc0_1 : l0_1.length ≤ c0_1) (hr0_2 : Kd.C k55 w A0_2 l0_2.length l0_2) (hc0_2 : l0_2.length ≤ c0_2) (hr0_3 : Kd.C (Kd.int .i64) w A0_3 l0_3.length l0_3) (hc0_3 : l0_3.length ≤ c0_3) (hr0_4 : Kd.C (Kd.int .i64) w A0_4 l0_4.length l0_4) (hc0_4 : l0_4.length ≤ c0_4) (h : constants_Pass.f k a0_0 l0_1 l0_2 l0_3 l0_4 = some (r1, r2, r3, r4, r5, r6, r7, r8, r9, r10, r11, r12, r13)) :
  Calls Try.prog 12 #[.agg #[.int .i64 a0_0, .slice A0_1 l0_1.length c0_1, .slice A0_2 l0_2.length c0_2, .slice A0_3 l0_3.length c0_3, .slice A0_4 l0_4.length c0_4]] w fun e w' => ∃ v1_ v2_ v3_ v4_ v7_ v8_ v9_ v10_ : Value, e = .returned (.tuple #[.agg #[.int .i64 r1, v1_, v2_, v3_, v4_, .int .i64 r6, .int .i64 r7, v7_, v8_, v9_, v10_, .int .i64 r12], .int .i64 r13]) ∧ Kd.R k45 45 w' w.heap.size (fun _ => True) v1_ r2 ∧ Kd.R k55 55 w' w.heap.size (fun k_ => some k_ ≠ (v10_ : Value).ownBlock) v2_ r3 ∧ Kd.R (Kd.int .i64) 3 w' w.heap.size (fun k_ => some k_ ≠ (v4_ : Value).ownBlock ∧ some k_ ≠ (v7_ : Value).ownBlock ∧ some k_ ≠ (v9_ : Value).ownBlock) v3_ r4 ∧ Kd.R (Kd.int .i64) 3 w' w.heap.size (fun k_ => some k_ ≠ (v3_ : Value).ownBlock ∧ some k_ ≠ (v7_ : Value).ownBlock ∧ some k_ ≠ (v9_ : Value).ownBlock) v4_ r5 ∧ Kd.R (Kd.int .i64) 3 w' w.heap.size (fun k_ => some k_ ≠ (v3_ : Value).ownBlock ∧ some k_ ≠ (v4_ : Value).ownBlock ∧ some k_ ≠ (v9_ : Value).ownBlock) v7_ r8 ∧ Kd.S (Kd.slice 3 (Kd.int .i64)) 24 w' w.heap.size (fun k_ => some k_ ≠ (v3_ : Value).ownBlock ∧ some k_ ≠ (v4_ : Value).ownBlock ∧ some k_ ≠ (v7_ : Value).ownBlock ∧ some k_ ≠ (v9_ : Value).ownBlock) v8_ r9 ∧ Kd.R (Kd.int .i64) 3 w' w.heap.size (fun k_ => some k_ ≠ (v3_ : Value).ownBlock ∧ some k_ ≠ (v4_ : Value).ownBlock ∧ some k_ ≠ (v7_ : Value).ownBlock) v9_ r10 ∧ Kd.R k55 55 w' w.heap.size (fun k_ => some k_ ≠ (v2_ : Value).ownBlock) v10_ r11 ∧ Below w.heap.size w w' := by
 unfold constants_Pass.f at h
 obtain ⟨⟨X0, x1, X1, X2, X3, X4, e0⟩, hf, h⟩ := Option.bind_eq_some_iff.mp h
 dsimp only at h
 by_cases c : e0 = 0
 ·rw [if_pos c] at h
  subst c
  obtain ⟨⟨s6, s7, X7, X8, X9, XA, lit, e2⟩, hid, h⟩ := Option.bind_eq_some_iff.mp h
  dsimp only at h
  by_cases ok : okS l0_1 X0 XA = true
  ·rw [if_pos ok] at h
   simp only [Option.some.injEq, Prod.mk.injEq] at h
   obtain ⟨rfl, rfl, rfl, rfl, rfl, rfl, rfl, rfl, rfl, rfl, rfl, rfl, rfl⟩ := h
   exact pass_main k a0_0 A0_1 c0_1 l0_1 A0_2 c0_2 l0_2 A0_3 c0_3 l0_3 A0_4 c0_4 l0_4 X0 _ _ _ _ _ _ _ _ _ _ XA lit e2 w hr0_1 hc0_1 hr0_2 hc0_2 hr0_3 hc0_3 hr0_4 hc0_4 hf hid ok
  ·rw [if_neg ok] at h
   exact absurd h (by simp)
 ·rw [if_neg c] at h
  simp only [Option.some.injEq, Prod.mk.injEq] at h
  obtain ⟨rfl, rfl, rfl, rfl, rfl, rfl, rfl, rfl, rfl, rfl, rfl, rfl, rfl⟩ := h
  exact pass_err k a0_0 A0_1 c0_1 l0_1 A0_2 c0_2 l0_2 A0_3 c0_3 l0_3 A0_4 c0_4 l0_4 _ _ _ _ _ _ _ w hr0_1 hc0_1 hr0_2 hc0_2 hr0_3 hc0_3 hr0_4 hc0_4 hf c

/-! ### spiritlevelref02_SameInts: function 13 -/
def spiritlevelref02_SameInts.l0 : Nat → List Int → List Int → Int → Option (Bool)
 | 0, _, _, _ => none
 | k + 1, x0, x1, x5 => if x5 < (x0.length : Int) then (if 0 ≤ x5 then (if x5 < (x1.length : Int) then (if (rd x0 x5) = (rd x1 x5) then (spiritlevelref02_SameInts.l0 k x0 x1 (wrap64 (x5 + 1))) else (some false)) else (none)) else (none)) else (some true)
def spiritlevelref02_SameInts.f (k : Nat) (l0 : List Int) (l1 : List Int) : Option (Bool) := if (l0.length : Int) = (l1.length : Int) then (spiritlevelref02_SameInts.l0 k l0 l1 0) else (some false)
theorem spiritlevelref02_SameInts.mono_l : ∀ k, (∀ y0 y1 y2, LeO (spiritlevelref02_SameInts.l0 k y0 y1 y2) (spiritlevelref02_SameInts.l0 (k + 1) y0 y1 y2))
 | 0 => fun _ _ _ r h => by simp [spiritlevelref02_SameInts.l0] at h
 | k + 1 => by
  have ih0 := spiritlevelref02_SameInts.mono_l k
  ·intro y0 y1 y2
   unfold spiritlevelref02_SameInts.l0
   repeat' first
   | (with_reducible exact ih0 _ _ _)
   | (with_reducible exact LeO.refl _)
   | (with_reducible exact LeO.none _)
   | (with_reducible refine LeO.ite ?_ ?_)
   | (with_reducible refine LeO.bind ?_ (fun _ => ?_))
   | exact ih0 _ _ _
   | exact LeO.none _
   | refine LeO.ite ?_ ?_
   | refine LeO.bind ?_ (fun _ => ?_)
theorem spiritlevelref02_SameInts.mono : ∀ a0 a1 k, LeO (spiritlevelref02_SameInts.f k a0 a1) (spiritlevelref02_SameInts.f (k + 1) a0 a1) := by
 intro a0 a1 k
 have ih0 := spiritlevelref02_SameInts.mono_l k
 unfold spiritlevelref02_SameInts.f
 repeat' first
   | (with_reducible exact ih0 _ _ _)
   | (with_reducible exact LeO.refl _)
   | (with_reducible exact LeO.none _)
   | (with_reducible refine LeO.ite ?_ ?_)
   | (with_reducible refine LeO.bind ?_ (fun _ => ?_))
   | exact ih0 _ _ _
   | exact LeO.none _
   | refine LeO.ite ?_ ?_
   | refine LeO.bind ?_ (fun _ => ?_)
set_option maxHeartbeats 8000000 in
set_option maxRecDepth 100000 in
theorem spiritlevelref02_SameInts.calls (k : Nat) (A0 : Option Addr) (c0 : Nat) (l0 : List Int) (A1 : Option Addr) (c1 : Nat) (l1 : List Int) (r : Bool) (w : World) (hr0 : Kd.C (Kd.int .i64) w A0 l0.length l0) (hc0 : l0.length ≤ c0) (hr1 : Kd.C (Kd.int .i64) w A1 l1.length l1) (hc1 : l1.length ≤ c1) (h : spiritlevelref02_SameInts.f k l0 l1 = some r) :
  Calls Try.prog 13 #[.slice A0 l0.length c0, .slice A1 l1.length c1] w fun e w' => e = .returned (.bool r) ∧ Drawn0 w w' := by
 have HR0 := M_ hr0
 have HC0 := M_ hc0
 clear hr0 hc0
 have HR1 := M_ hr1
 have HC1 := M_ hc1
 clear hr1 hc1
 have H : (if (l0.length : Int) = (l1.length : Int) then (spiritlevelref02_SameInts.l0 k l0 l1 0) else (some false)) = some r := h
 clear h
 by_cases c3 : (l0.length : Int) = (l1.length : Int)
 ·rw [if_pos c3] at H
  have c3b0 : ((l0.length : Int) == (l1.length : Int)) = true := beq_iff_eq.mpr c3
  have c3b1 : ((l0.length : Int) != (l1.length : Int)) = false := bne_eq_false_iff_eq.mpr c3
  have c3b2 : (l0.length == l1.length) = true := by first | simpa using c3 | (simp at c3 ⊢; omega)
  clear c3
  have H' := M_ H
  clear H
  go_enter Try.func13, Try.ntmps13
  go_wp2
  repeat (go_quiet (fail); try go_wp2)
  go_loopg [5] k (fun kq v5 w' => ∃ (x5_1 : Int), v5 = .int .i64 x5_1 ∧ Aside0 (spiritlevelref02_SameInts.l0 kq l0 l1 x5_1 = some r) ∧ Aside0 (kq ≤ k) ∧ Drawn0 w w')
  case atStart => exact ⟨(0), (by first | rfl | (simp; done) | (simp [*]; done)), H', ⟨Nat.le_refl _⟩, by repeat (first | exact Drawn0.refl _ | apply Drawn0.step)⟩
  case round =>
   clear H'
   try clear c1
   try clear p2
   try clear c3
   try clear c3b0
   try clear c3b1
   try clear c3b2
   obtain ⟨x5_1, rfl, HA, HK1, ⟨m1, rfl⟩⟩ := hrel
   cases gk with
   | zero => exact absurd HA.out (by simp [spiritlevelref02_SameInts.l0])
   | succ k1 =>
    have H := HA.out
    clear HA
    simp only [spiritlevelref02_SameInts.l0] at H
    by_cases c4 : x5_1 < (l0.length : Int)
    ·rw [if_pos c4] at H
     have c4b0 : decide (x5_1 < (l0.length : Int)) = true := decide_eq_true c4
     clear c4
     by_cases c5 : 0 ≤ x5_1
     ·rw [if_pos c5] at H
      have c5b0 : decide (0 ≤ x5_1) = true := decide_eq_true c5
      clear c5
      by_cases c6 : x5_1 < (l1.length : Int)
      ·rw [if_pos c6] at H
       have c6b0 : decide (x5_1 < (l1.length : Int)) = true := decide_eq_true c6
       clear c6
       by_cases c7 : (rd l0 x5_1) = (rd l1 x5_1)
       ·rw [if_pos c7] at H
        have c7b0 : ((rd l0 x5_1) == (rd l1 x5_1)) = true := beq_iff_eq.mpr c7
        have c7b1 : ((rd l0 x5_1) != (rd l1 x5_1)) = false := bne_eq_false_iff_eq.mpr c7
        clear c7
        have H' := M_ H
        clear H
        have p140 : 0 ≤ (x5_1 : Int) := of_decide_eq_true (by first | (with_reducible assumption) | assumption)
        have q140 : x5_1 < (l0.length : Int) := of_decide_eq_true (by first | (with_reducible assumption) | assumption)
        obtain ⟨ad140, e140, hx140_0⟩ := Kd.at_int HR0.out x5_1 p140 q140
        cases e140
        replace p140 := eq_true p140
        replace q140 := eq_true q140
        have p141 : 0 ≤ (x5_1 : Int) := of_decide_eq_true (by first | (with_reducible assumption) | assumption)
        have q141 : x5_1 < (l1.length : Int) := of_decide_eq_true (by first | (with_reducible assumption) | assumption)
        obtain ⟨ad141, e141, hx141_0⟩ := Kd.at_int HR1.out x5_1 p141 q141
        cases e141
        replace p141 := eq_true p141
        replace q141 := eq_true q141
        go_wp2
        repeat (go_quiet (fail); try go_wp2)
        go_roundg k1
        case measure => have := HK1.out; omega
        case rel => exact ⟨(wrap64 (x5_1 + 1)), (by first | rfl | (simp; done) | (simp [*]; done)), H', ⟨by have := HK1.out; omega⟩, by repeat (first | exact Drawn0.refl _ | apply Drawn0.step)⟩
       ·rw [if_neg c7] at H
        have c7b0 : ((rd l0 x5_1) == (rd l1 x5_1)) = false := beq_eq_false_iff_ne.mpr c7
        have c7b1 : ((rd l0 x5_1) != (rd l1 x5_1)) = true := bne_iff_ne.mpr c7
        obtain rfl := Option.some.inj H
        have p140 : 0 ≤ (x5_1 : Int) := of_decide_eq_true (by first | (with_reducible assumption) | assumption)
        have q140 : x5_1 < (l0.length : Int) := of_decide_eq_true (by first | (with_reducible assumption) | assumption)
        obtain ⟨ad140, e140, hx140_0⟩ := Kd.at_int HR0.out x5_1 p140 q140
        cases e140
        replace p140 := eq_true p140
        replace q140 := eq_true q140
        have p141 : 0 ≤ (x5_1 : Int) := of_decide_eq_true (by first | (with_reducible assumption) | assumption)
        have q141 : x5_1 < (l1.length : Int) := of_decide_eq_true (by first | (with_reducible assumption) | assumption)
        obtain ⟨ad141, e141, hx141_0⟩ := Kd.at_int HR1.out x5_1 p141 q141
        cases e141
        replace p141 := eq_true p141
        replace q141 := eq_true q141
        go_wp2
        repeat (go_quiet (fail); try go_wp2)
        go_ret
        exact ⟨by first | rfl | (simp; done) | (simp [*]; done), by repeat (first | exact Drawn0.refl _ | apply Drawn0.step)⟩
      ·rw [if_neg c6] at H
       exact absurd H (by simp)
     ·rw [if_neg c5] at H
      exact absurd H (by simp)
    ·rw [if_neg c4] at H
     have c4b0 : decide (x5_1 < (l0.length : Int)) = false := decide_eq_false c4
     clear c4
     obtain rfl := Option.some.inj H
     go_wp2
     repeat (go_quiet (fail); try go_wp2)
     go_ret
     exact ⟨by first | rfl | (simp; done) | (simp [*]; done), by repeat (first | exact Drawn0.refl _ | apply Drawn0.step)⟩
 ·rw [if_neg c3] at H
  have c3b0 : ((l0.length : Int) == (l1.length : Int)) = false := beq_eq_false_iff_ne.mpr c3
  have c3b1 : ((l0.length : Int) != (l1.length : Int)) = true := bne_iff_ne.mpr c3
  have c3b2 : (l0.length == l1.length) = false := by first | simpa using c3 | (simp at c3 ⊢; omega)
  obtain rfl := Option.some.inj H
  go_enter Try.func13, Try.ntmps13
  go_wp2
  repeat (go_quiet (fail); try go_wp2)
  go_ret
  exact ⟨by first | rfl | (simp; done) | (simp [*]; done), by repeat (first | exact Drawn0.refl _ | apply Drawn0.step)⟩

end Go.Proofs.Ytlgoniocoifjjaa.QConstantsCones
