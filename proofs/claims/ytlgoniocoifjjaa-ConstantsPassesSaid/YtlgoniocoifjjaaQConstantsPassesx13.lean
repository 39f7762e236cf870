import Derived.Test.YtlgoniocoifjjaaQConstantsPassesx0
import Derived.Test.YtlgoniocoifjjaaQConstantsPassesx3
import Derived.Test.YtlgoniocoifjjaaQConstantsPassesx4
import Derived.Test.YtlgoniocoifjjaaQConstantsPassesx5
import Derived.Test.YtlgoniocoifjjaaQConstantsPassesx10
import Derived.Test.YtlgoniocoifjjaaQConstantsPassesx12
namespace Go.Proofs.Ytlgoniocoifjjaa.QConstantsPasses
open Go.RowKit Go.Proofs.YtlgoniocoifjjaaW.PrintWords Go.Proofs.YtlgoniocoifjjaaW.PrintLast Go.Proofs.YtlgoniocoifjjaaW.PrintMore
attribute [local go_sem] max2_int min2_int max_two min_two max_three min_three max_four min_four
set_option linter.unusedVariables false
set_option linter.unusedSimpArgs false

-- hash_begin.dep
-- spiritlevelref26_Made.dep
-- hash_Build.f spiritlevelref26_Signed.f spiritlevelref02_Size.f spiritlevelref02_Gate.f
structure StB (w W : World) (bo : Nat) (cc : Array Value) (ins : Int) (L : List S45) (gs : List S55) (bads cons : List Int) (vT : Value) (T : List Int) : Prop where
 hS : StO (fun k => some k ≠ vT.ownBlock) w W bo ins L gs bads cons
 lo2 : w.heap.size + 1 < bo
 hc : W.heap[w.heap.size]? = some (.cells cc 26 (0, 0))
 hz : W.heap[w.heap.size + 1]? = some (.cells #[.int .i64 0, .slice none 0 0, .slice none 0 0, .slice none 0 0, .slice none 0 0] 26 (0, 0))
 hT : Kd.R (Kd.int .i64) 3 W w.heap.size (fun _ => True) vT T
section
variable {w W W' w1 : World} {bo : Nat} {cc : Array Value} {ins : Int} {L : List S45} {gs gs' : List S55} {bads cons T T' bads' cons' : List Int} {vT v1 : Value}
theorem StB.below (h : StB w W bo cc ins L gs bads cons vT T) (hb : Below W.heap.size W W') : StB w W' bo cc ins L gs bads cons vT T :=
 ⟨h.hS.below hb, h.lo2, blk_below h.hc hb, blk_below h.hz hb, Kd.R_below h.hT hb⟩
theorem StB.keep (h : StB w W bo cc ins L gs bads cons vT T) (hS : StO (fun k => some k ≠ vT.ownBlock) w W' bo ins L gs' bads cons) (hK : KeepO bo W W') : StB w W' bo cc ins L gs' bads cons vT T := by
 obtain ⟨vL, vA, vB, vC, h3, h4, h5, h6, h7⟩ := h.hS.blk
 have hlo := h.lo2
 exact ⟨hS, h.lo2, hK.blk h.hc (by omega) (by decide), hK.blk h.hz (by omega) (by decide), Kd.R_mono (Kd.R_move (Kd.R_bound h.hT) (fun k hk => by
  obtain ⟨_, _, _, q, hq, cells, hc⟩ := hk
  have hq : q = 3 := by simpa [Kd.int, Kd.scalar] using hq
  subst hq
  exact (hK.blk hc (blkN_ty hc h3 (by decide)) (by decide)).trans hc.symm)) (fun _ _ => trivial)⟩
theorem StB.len (h : StB w W bo cc ins L gs bads cons vT T) : ∃ A c, vT = .slice A T.length c := Kd.R_slice h.hT
theorem StB.tell (h : StB w W bo cc ins L gs bads cons vT T) (hr : Kd.R (Kd.int .i64) 3 w1 w.heap.size (fun _ => True) v1 T') (hb1 : Below w.heap.size w w1) (hg : W.grownBy w1 vT.ownBlock) (hat : v1.ownBlock = vT.ownBlock ∨ ∃ b, v1.ownBlock = some b ∧ W.heap.size ≤ b) : StB w w1 bo cc ins L gs bads cons v1 T' := by
 obtain ⟨⟨h0, h1, ⟨vL, vA, vB, vC, h3, h4, h5, h6, h7⟩⟩, lo, hc, hz, hT⟩ := h
 have hty := Kd.R_typed hT
 have hne : ∀ {b : Nat} {cs : Array Value}, W.heap[b]? = some (.cells cs 26 (0, 0)) → some b ≠ vT.ownBlock := fun hb e => by
  obtain ⟨cs, hq⟩ := hty _ e.symm
  exact blkN_ty hb hq (by decide) rfl
 exact ⟨⟨hb1, h1, ⟨vL, vA, vB, vC, blk_grown h3 hg (hne h3), Kd.R_over' h4 hty (by decide) hg, Kd.R_over' h5 hty (by decide) hg, Kd.R_after (ok := fun k => some k ≠ vC.ownBlock) h6 hg hat, Kd.R_after (ok := fun k => some k ≠ vB.ownBlock) h7 hg hat⟩⟩, lo, blk_grown hc hg (hne hc), blk_grown hz hg (hne hz), hr⟩
theorem StB.latch (h : StB w W bo cc ins L gs bads cons vT T) (i : Nat) (hi : i < L.length) : ∃ g c u, W.cell? ⟨bo, 1, none⟩ = some (.slice (some ⟨g, 0, none⟩) L.length c) ∧ W.cell? ⟨g, i * 2, none⟩ = some u ∧ W.frozen? ⟨g, i * 2, none⟩ = false ∧ ∀ x, StB w (W.setCell ⟨g, i * 2, none⟩ (.int .i64 x)) bo cc ins (L.set i ⟨x, (L[i]).f1⟩) gs bads cons vT T ∧ (W.setCell ⟨g, i * 2, none⟩ (.int .i64 x)).cell? ⟨bo, 1, none⟩ = some (.slice (some ⟨g, 0, none⟩) L.length c) := by
 obtain ⟨⟨h0, h1, ⟨vL, vA, vB, vC, h3, h4, h5, h6, h7⟩⟩, lo, hc, hz, hT⟩ := h
 obtain ⟨g, c, rfl, hg, hlt, cL, hcL⟩ := Kd.R_form h4 (by omega)
 obtain ⟨cs, hcl, hcM, hcc, hfr⟩ := Kd.R_elem h4 z45 (i : Int) (by omega) (by omega)
 rw [Int.toNat_natCast] at hcc hfr
 have hc0 := k45_openM hcM
 have hu := hcc 0 _ (by rw [hc0]; rfl)
 have hf := hfr 0
 refine ⟨g, c, _, (blk_cell h3 1).trans rfl, hu, hf, fun x => ?_⟩
 obtain ⟨hp, hgr⟩ := latch_put h4 i hi x
 have far : ∀ {k : Nat} {cs : Array Value} {t : TypeId}, W.heap[k]? = some (.cells cs t (0, 0)) → t ≠ 45 → k ≠ g := fun hk ne => blkN_ty hk hcL ne
 refine ⟨?_, (blk_cell (blk_far h3 (far h3 (by decide)) _) 1).trans rfl⟩
 exact ⟨⟨h0.setCell hg _, h1, ⟨_, vA, vB, vC, blk_far h3 (far h3 (by decide)) _, hp, Kd.R_set h5 hcL (by decide) _ _, Kd.R_set h6 hcL (by decide) _ _, Kd.R_set h7 hcL (by decide) _ _⟩⟩, lo, blk_far hc (far hc (by decide)) _, blk_far hz (far hz (by decide)) _, Kd.R_set hT hcL (by decide) _ _⟩
theorem StB.latchAt (h : StB w W bo cc ins L gs bads cons vT T) (i : Nat) (hi : i < L.length) {g c n : Nat} (hc : W.cell? ⟨bo, 1, none⟩ = some (.slice (some ⟨g, 0, none⟩) n c)) : ∃ u, W.cell? ⟨g, i * 2, none⟩ = some u ∧ W.frozen? ⟨g, i * 2, none⟩ = false ∧ ∀ x, StB w (W.setCell ⟨g, i * 2, none⟩ (.int .i64 x)) bo cc ins (L.set i ⟨x, (L[i]).f1⟩) gs bads cons vT T ∧ (W.setCell ⟨g, i * 2, none⟩ (.int .i64 x)).cell? ⟨bo, 1, none⟩ = some (.slice (some ⟨g, 0, none⟩) n c) := by
 obtain ⟨g', c', u, z1, z2⟩ := h.latch i hi
 have e := z1.symm.trans hc
 simp only [Option.some.injEq, Value.slice.injEq, Addr.mk.injEq] at e
 obtain ⟨⟨rfl, -⟩, rfl, rfl⟩ := e
 exact ⟨u, z2⟩
theorem StB.told (h : StB w W bo cc ins L gs bads cons vT T) {g n c : Nat} (hv : vT = .slice (some ⟨g, 0, none⟩) n c) (i : Nat) (hi : i < T.length) : W.cell? ⟨g, i, none⟩ = some (.int .i64 (rd T (i : Int))) := by
 subst hv
 have hl := (Kd.R_reads' h.hT).1
 have hq := Kd.R_celln (0 : Int) h.hT (i : Int) (by omega) (by omega)
 rw [Int.toNat_natCast] at hq
 exact hq.1
end
theorem signed_eq (T : List Int) (l : Int) (h0 : 0 ≤ l) (h1 : l ≤ 1000000000) (t0 : 0 ≤ rd T (l / 2)) (t1 : rd T (l / 2) ≤ 1000000000) : spiritlevelref26_Signed.f (rd T (l / 2)) l = some (sgnP T l) := by
 have hw : ∀ z : Int, 0 ≤ z → z ≤ 1000000001 → wrap64 z = z := fun z h0 h1 => by unfold wrap64; omega
 rw [sgnP_eq T l h0 h1 t0 t1]
 unfold spiritlevelref26_Signed.f spiritlevelref26_Other.f spiritlevelref01_Not.f notH
 rw [Int.tmod_eq_emod_of_nonneg h0, Int.tmod_eq_emod_of_nonneg t0]
 generalize rd T (l / 2) = t at t0 t1 ⊢
 rcases (show l % 2 = 0 ∨ l % 2 = 1 by omega) with e | e
 ·simp [e]
 ·rcases (show t % 2 = 0 ∨ t % 2 = 1 by omega) with f | f
  ·simp [e, f, hw (t + 1) (by omega) (by omega)]
  ·simp [e, f, hw (t - 1) (by omega) (by omega)]
structure Boxed (bo : Nat) (W : World) (k : Nat) : Prop where
 lt : bo < W.heap.size
 kl : k < W.heap.size
 nr : ¬ RowOf bo W k
theorem Boxed.below {bo k : Nat} {W W' : World} (h : Boxed bo W k) (hb : Below W.heap.size W W') : Boxed bo W' k :=
 ⟨Nat.lt_of_lt_of_le h.lt hb.size, Nat.lt_of_lt_of_le h.kl hb.size, fun r => h.nr ((KeepO.below hb).2.2 h.lt k h.kl r)⟩
section
variable {w W W' w1 : World} {bo : Nat} {cc : Array Value} {ins : Int} {L : List S45} {gs gs' : List S55} {bads cons T T' bads' cons' : List Int} {vT v1 : Value}
theorem StB.bolt (h : StB w W bo cc ins L gs bads cons vT T) : bo < W.heap.size := by
 obtain ⟨vL, vA, vB, vC, h3, -⟩ := h.hS.blk
 exact blk_lt h3
theorem StB.boxed (h : StB w W bo cc ins L gs bads cons vT T) (o : Obj) : Boxed bo (W.alloc o) W.heap.size := by
 obtain ⟨vL, vA, vB, vC, h3, h4, h5, h6, h7⟩ := h.hS.blk
 have hlt := blk_lt h3
 refine ⟨by simp; omega, by simp, fun r => ?_⟩
 obtain ⟨v, hv, ho⟩ := r
 have e := (blk_cell (blk_alloc h3 o) 2).symm.trans hv
 have e2 : vA = v := by simpa using e
 subst e2
 have := Kd.R_lt h5 _ ho
 omega
theorem StB.badAt (h : StB w W bo cc ins L gs bads cons vT T) {A : Option Addr} {n c : Nat} (hc3 : W.cell? ⟨bo, 3, none⟩ = some (.slice A n c)) : ∃ vC : Value, W.frozen? ⟨bo, 3, none⟩ = false ∧ Kd.R (Kd.int .i64) 3 W w.heap.size (fun k => some k ≠ vC.ownBlock ∧ some k ≠ vT.ownBlock) (.slice A n c) bads ∧ (∀ k, W.heap.size ≤ k → some k ≠ vC.ownBlock ∧ some k ≠ vT.ownBlock) ∧
  ∀ {w1 : World} {v1 : Value} {bads' : List Int}, Kd.R (Kd.int .i64) 3 w1 w.heap.size (fun k => some k ≠ vC.ownBlock ∧ some k ≠ vT.ownBlock) v1 bads' → Below w.heap.size w w1 → W.grownBy w1 (.slice A n c : Value).ownBlock → (v1.ownBlock = (.slice A n c : Value).ownBlock ∨ ∃ b, v1.ownBlock = some b ∧ W.heap.size ≤ b) → StB w (w1.setCell ⟨bo, 3, none⟩ v1) bo cc ins L gs bads' cons vT T ∧ (∃ u, w1.cell? ⟨bo, 3, none⟩ = some u) ∧ w1.frozen? ⟨bo, 3, none⟩ = false ∧ w1.heap[w.heap.size]? = some (.cells cc 26 (0, 0)) ∧ Kd.R (Kd.int .i64) 3 w1 w.heap.size (fun _ => True) vT T := by
 obtain ⟨⟨h0, h1, ⟨vL, vA, vB, vC, h3, h4, h5, h6, h7⟩⟩, lo, hc, hz, hT⟩ := h
 have ev : vB = .slice A n c := by
  have := (blk_cell h3 3).symm.trans hc3
  simpa using this
 subst ev
 refine ⟨vC, blk_frozen h3 3, h6, fun k hk => ⟨Kd.fresh' (Kd.R_lt h7) k hk, Kd.fresh' (Kd.R_lt hT) k hk⟩, fun {w1 v1 bads'} hr hb1 hg hat => ?_⟩
 have hty := Kd.R_typed h6
 have hne : ∀ {b : Nat} {cs : Array Value}, W.heap[b]? = some (.cells cs 26 (0, 0)) → some b ≠ (.slice A n c : Value).ownBlock := fun hb e => by
  obtain ⟨cs, hq⟩ := hty _ e.symm
  exact blkN_ty hb hq (by decide) rfl
 have g3 := blk_grown h3 hg (hne h3)
 have g7 := Kd.R_after (ok := fun k => some k ≠ vT.ownBlock) (Kd.R_mono h7 (fun k hk => ⟨hk.2, hk.1⟩)) hg hat
 have hT2 : Kd.R (Kd.int .i64) 3 W w.heap.size (fun k => some k ≠ (.slice A n c : Value).ownBlock) vT T := Kd.R_flat (fun h => h) hT (fun k hk _ e => (h6.1 k e.symm).2 hk.symm)
 have gT := Kd.R_grown hT2 hg (fun k hk => hk)
 refine ⟨⟨⟨hb1.setCell h1 _, h1, ⟨vL, vA, v1, vC, ?_, Kd.R_set (Kd.R_over' h4 hty (by decide) hg) g3 (by decide) 3 _, Kd.R_set (Kd.R_over' h5 hty (by decide) hg) g3 (by decide) 3 _, Kd.R_set hr g3 (by decide) 3 _, Kd.R_mono (Kd.R_set g7 g3 (by decide) 3 _) (fun k hk => ⟨hk.2, hk.1⟩)⟩⟩, lo, blk_far (blk_grown hc hg (hne hc)) (show w.heap.size ≠ bo by omega) _, blk_far (blk_grown hz hg (hne hz)) (show w.heap.size + 1 ≠ bo by omega) _, Kd.R_mono (Kd.R_set gT g3 (by decide) 3 _) (fun _ _ => trivial)⟩, ⟨_, (blk_cell g3 3).trans rfl⟩, blk_frozen g3 3, blk_grown hc hg (hne hc), Kd.R_mono gT (fun _ _ => trivial)⟩
 have := blk_set g3 3 v1
 simpa using this
theorem StB.conAt (h : StB w W bo cc ins L gs bads cons vT T) {A : Option Addr} {n c : Nat} (hc3 : W.cell? ⟨bo, 4, none⟩ = some (.slice A n c)) : ∃ vB : Value, W.frozen? ⟨bo, 4, none⟩ = false ∧ Kd.R (Kd.int .i64) 3 W w.heap.size (fun k => some k ≠ vB.ownBlock ∧ some k ≠ vT.ownBlock) (.slice A n c) cons ∧ (∀ k, W.heap.size ≤ k → some k ≠ vB.ownBlock ∧ some k ≠ vT.ownBlock) ∧
  ∀ {w1 : World} {v1 : Value} {cons' : List Int}, Kd.R (Kd.int .i64) 3 w1 w.heap.size (fun k => some k ≠ vB.ownBlock ∧ some k ≠ vT.ownBlock) v1 cons' → Below w.heap.size w w1 → W.grownBy w1 (.slice A n c : Value).ownBlock → (v1.ownBlock = (.slice A n c : Value).ownBlock ∨ ∃ b, v1.ownBlock = some b ∧ W.heap.size ≤ b) → StB w (w1.setCell ⟨bo, 4, none⟩ v1) bo cc ins L gs bads cons' vT T ∧ (∃ u, w1.cell? ⟨bo, 4, none⟩ = some u) ∧ w1.frozen? ⟨bo, 4, none⟩ = false ∧ w1.heap[w.heap.size]? = some (.cells cc 26 (0, 0)) ∧ Kd.R (Kd.int .i64) 3 w1 w.heap.size (fun _ => True) vT T := by
 obtain ⟨⟨h0, h1, ⟨vL, vA, vB, vC, h3, h4, h5, h6, h7⟩⟩, lo, hc, hz, hT⟩ := h
 have ev : vC = .slice A n c := by
  have := (blk_cell h3 4).symm.trans hc3
  simpa using this
 subst ev
 refine ⟨vB, blk_frozen h3 4, h7, fun k hk => ⟨Kd.fresh' (Kd.R_lt h6) k hk, Kd.fresh' (Kd.R_lt hT) k hk⟩, fun {w1 v1 cons'} hr hb1 hg hat => ?_⟩
 have hty := Kd.R_typed h7
 have hne : ∀ {b : Nat} {cs : Array Value}, W.heap[b]? = some (.cells cs 26 (0, 0)) → some b ≠ (.slice A n c : Value).ownBlock := fun hb e => by
  obtain ⟨cs, hq⟩ := hty _ e.symm
  exact blkN_ty hb hq (by decide) rfl
 have g3 := blk_grown h3 hg (hne h3)
 have g6 := Kd.R_after (ok := fun k => some k ≠ vT.ownBlock) (Kd.R_mono h6 (fun k hk => ⟨hk.2, hk.1⟩)) hg hat
 have hT2 : Kd.R (Kd.int .i64) 3 W w.heap.size (fun k => some k ≠ (.slice A n c : Value).ownBlock) vT T := Kd.R_flat (fun h => h) hT (fun k hk _ e => (h7.1 k e.symm).2 hk.symm)
 have gT := Kd.R_grown hT2 hg (fun k hk => hk)
 refine ⟨⟨⟨hb1.setCell h1 _, h1, ⟨vL, vA, vB, v1, ?_, Kd.R_set (Kd.R_over' h4 hty (by decide) hg) g3 (by decide) 4 _, Kd.R_set (Kd.R_over' h5 hty (by decide) hg) g3 (by decide) 4 _, Kd.R_mono (Kd.R_set g6 g3 (by decide) 4 _) (fun k hk => ⟨hk.2, hk.1⟩), Kd.R_set hr g3 (by decide) 4 _⟩⟩, lo, blk_far (blk_grown hc hg (hne hc)) (show w.heap.size ≠ bo by omega) _, blk_far (blk_grown hz hg (hne hz)) (show w.heap.size + 1 ≠ bo by omega) _, Kd.R_mono (Kd.R_set gT g3 (by decide) 4 _) (fun _ _ => trivial)⟩, ⟨_, (blk_cell g3 4).trans rfl⟩, blk_frozen g3 4, blk_grown hc hg (hne hc), Kd.R_mono gT (fun _ _ => trivial)⟩
 have := blk_set g3 4 v1
 simpa using this
end
theorem tk_ (L : List Nat) {P : Program} {ops : Array Oper} {Q : Exit → Act → World → Prop} {S : World → Prop} {ds : List Nat} {oi : Oper} {v : Value} {fuel : Nat} {l : Array Bool} {a : Act} {w : World} (hi : ops[L.getD (ops.size - (fuel + 1)) 0]? = some oi)
  (hc : (Region.noSelect ops && Region.free .any ops l (L.getD (ops.size - (fuel + 1)) 0) && (Region.ready .any ops l).contains (L.getD (ops.size - (fuel + 1)) 0) && Region.closedB .any ops l && Region.lastB .any ops l ds (L.getD (ops.size - (fuel + 1)) 0)) = true)
  (hQ : ∀ c a w, Q (.panic c) (a.put oi.dst v) w → Q (.panic c) a w) (hy : YieldsIf P ops S oi v a) (hS : S w)
  (h : wpAnyLast P .any ops Q S ds fuel (l.setIfInBounds (L.getD (ops.size - (fuel + 1)) 0) true) (a.put oi.dst v) w) : wpAnyLast P .any ops Q S ds (fuel + 1) l a w := by
 simp only [Bool.and_eq_true] at hc
 exact wpAnyLast_take hi hc.1.1.1.1 hc.1.1.1.2 hc.1.1.2 hc.1.2 hc.2 hQ hy hS h
theorem os_ (i : Nat) {P : Program} {ops : Array Oper} {Q : Exit → Act → World → Prop} {S : World → Prop} {ds : List Nat} {o : Oper} {fuel : Nat} {l : Array Bool} {a : Act} {w : World} (hi : ops[i]? = some o)
  (hc : ((Region.ready .any ops l == [i]) && !ds.contains i) = true)
  (h : ∀ K : Act → World → Prop, Shut (∀ a w, S w → (S w → wpAnyLast P .any ops Q S ds fuel (l.setIfInBounds i true) a w) → K a w) → if Region.wanted o (yielded ops a.tmps) = true then Oper.wp P o a w K Q else K (a.put o.dst undef) w) : wpAnyLast P .any ops Q S ds (fuel + 1) l a w := by
 simp at hc
 exact wpAnyLast_ready hc.1 (by simp) (AllReadyL.cons hi hc.2 h AllReadyL.nil)
theorem ol_ (i : Nat) {P : Program} {ops : Array Oper} {Q : Exit → Act → World → Prop} {S : World → Prop} {ds : List Nat} {o : Oper} {fuel : Nat} {l : Array Bool} {a : Act} {w : World} (hi : ops[i]? = some o)
  (hc : ((Region.ready .any ops l == [i]) && ds.contains i) = true)
  (h : ∀ K : Act → World → Prop, Shut (∀ a w, wpAnyLast P .any ops Q S ds fuel (l.setIfInBounds i true) a w → K a w) → if Region.wanted o (yielded ops a.tmps) = true then Oper.wp P o a w K Q else K (a.put o.dst undef) w) : wpAnyLast P .any ops Q S ds (fuel + 1) l a w := by
 simp at hc
 exact wpAnyLast_ready hc.1 (by simp) (AllReadyL.cons_last hi hc.2 h AllReadyL.nil)
theorem R_new0 {α : Type} (d : Kd α) {w W : World} (e : Nat) (hb : w.heap.size ≤ W.heap.size) : Kd.R d e (W.alloc (.cells #[] e)) w.heap.size (fun _ => True) (.slice (some ⟨W.heap.size, 0, none⟩) 0 0) [] := by
 refine ⟨fun k hk => trivial, [], ?_, Reps.none _ _⟩
 have h2 := World.ownsRow_lit (base := w.heap.size) (e := e) (size := d.sz) W #[] 0 hb (by decide) (by simp)
 simpa using h2
def okBt (a0_0 : Int) (l0_1 : List S45) (l0_2 : List S55) (l0_3 l0_4 l1 : List Int) : Bool :=
 okC a0_0 l0_1 l0_2 l0_3 l0_4 l1 && decide ((l1.length : Int) = a0_0 + (l0_1.length : Int) + (l0_2.length : Int) + 1) && (List.range l1.length).all (fun v => ! badG a0_0 l1 v)
def spiritlevelref26_Built.f (a0_0 : Int) (l0_1 : List S45) (l0_2 : List S55) (l0_3 : List Int) (l0_4 : List Int) (l1 : List Int) : Option (Int × (List (S45)) × (List (S55)) × List Int × List Int × List Int) :=
 if okBt a0_0 l0_1 l0_2 l0_3 l0_4 l1 = true then some (a0_0, l0_1.map (fun x => ⟨sgnP (builtP a0_0 l0_1 l0_2 l1).2 x.f0, x.f1⟩), (builtP a0_0 l0_1 l0_2 l1).1, l0_3.map (sgnP (builtP a0_0 l0_1 l0_2 l1).2), l0_4.map (sgnP (builtP a0_0 l0_1 l0_2 l1).2), (builtP a0_0 l0_1 l0_2 l1).2) else none
set_option maxHeartbeats 8000000 in
set_option maxRecDepth 100000 in
theorem spiritlevelref26_Built.calls (a0_0 : Int) (A0_1 : Option Addr) (c0_1 : Nat) (l0_1 : List S45) (A0_2 : Option Addr) (c0_2 : Nat) (l0_2 : List S55) (A0_3 : Option Addr) (c0_3 : Nat) (l0_3 : List Int) (A0_4 : Option Addr) (c0_4 : Nat) (l0_4 : List Int) (A1 : Option Addr) (c1 : Nat) (l1 : List Int) (r1 : Int) (r2 : List (S45)) (r3 : List (S55)) (r4 : List Int) (r5 : List Int) (r6 : List Int) (w : World) (hr0_1 : Kd.C k45 w A0_1 l0_1.length l0_1) (hc0_1 : l0_1.length ≤ c0_1) (hr0_2 : Kd.C k55 w A0_2 l0_2.length l0_2) (hc0_2 : l0_2.length ≤ c0_2) (hr0_3 : Kd.C (Kd.int .i64) w A0_3 l0_3.length l0_3) (hc0_3 : l0_3.length ≤ c0_3) (hr0_4 : Kd.C (Kd.int .i64) w A0_4 l0_4.length l0_4) (hc0_4 : l0_4.length ≤ c0_4) (hr1 : Kd.C (Kd.int .i64) w A1 l1.length l1) (hc1 : l1.length ≤ c1) (h : spiritlevelref26_Built.f a0_0 l0_1 l0_2 l0_3 l0_4 l1 = some (r1, r2, r3, r4, r5, r6)) :
  Calls Try.prog 71 #[.agg #[.int .i64 a0_0, .slice A0_1 l0_1.length c0_1, .slice A0_2 l0_2.length c0_2, .slice A0_3 l0_3.length c0_3, .slice A0_4 l0_4.length c0_4], .slice A1 l1.length c1] w fun e w' => ∃ v1_ v2_ v3_ v4_ v5_ : Value, e = .returned (.tuple #[.agg #[.int .i64 r1, v1_, v2_, v3_, v4_], v5_]) ∧ Kd.R k45 45 w' w.heap.size (fun _ => True) v1_ r2 ∧ Kd.R k55 55 w' w.heap.size (fun _ => True) v2_ r3 ∧ Kd.R (Kd.int .i64) 3 w' w.heap.size (fun k_ => some k_ ≠ (v4_ : Value).ownBlock ∧ some k_ ≠ (v5_ : Value).ownBlock) v3_ r4 ∧ Kd.R (Kd.int .i64) 3 w' w.heap.size (fun k_ => some k_ ≠ (v3_ : Value).ownBlock ∧ some k_ ≠ (v5_ : Value).ownBlock) v4_ r5 ∧ Kd.R (Kd.int .i64) 3 w' w.heap.size (fun k_ => some k_ ≠ (v3_ : Value).ownBlock ∧ some k_ ≠ (v4_ : Value).ownBlock) v5_ r6 ∧ Below w.heap.size w w' := by
 have hu26 := Try.underlying26
 unfold spiritlevelref26_Built.f at h
 by_cases cf : okBt a0_0 l0_1 l0_2 l0_3 l0_4 l1 = true
 case neg => rw [if_neg cf] at h; exact absurd h (by simp)
 rw [if_pos cf] at h
 simp only [Option.some.injEq, Prod.mk.injEq] at h
 obtain ⟨rfl, rfl, rfl, rfl, rfl, rfl⟩ := h
 unfold okBt okC okH at cf
 simp only [Bool.and_eq_true, decide_eq_true_eq, List.all_eq_true] at cf
 obtain ⟨⟨⟨⟨⟨⟨⟨⟨⟨k0, k1, k2, k3, k4, k5⟩, kg⟩, kA⟩, kN⟩, kL⟩, kB⟩, kC⟩, hN⟩, hG⟩ := cf
 have hbd := runB_bd (ins := a0_0) (first := a0_0 + (l0_1.length : Int) + 1) (given := l1) (by omega) (by omega) kA (fun v hv => by simpa using hG v (List.mem_range.2 hv)) l1.length (by omega) rfl (by omega) l1.length (Nat.le_refl _)
 have hln := (runB_len (a0_0 + (l0_1.length : Int) + 1) l0_2 l1 l1.length).1
 have hbp0 : builtP a0_0 l0_1 l0_2 l1 = runB (a0_0 + (l0_1.length : Int) + 1) l0_2 l1 l1.length := rfl
 rw [← hbp0] at hbd hln
 generalize builtP a0_0 l0_1 l0_2 l1 = bp at hbd hln hbp0 ⊢
 obtain ⟨G, T⟩ := bp
 have HBP := M_ hbp0.symm
 have HBD := M_ (show Lits0 T from hbd)
 have HTN := M_ (show T.length = l1.length from hln)
 clear hbp0 hbd hln
 have HR0_1 := M_ hr0_1
 have HR0_2 := M_ hr0_2
 have HR0_3 := M_ hr0_3
 have HR0_4 := M_ hr0_4
 have HR1 := M_ hr1
 have HC0_1 := M_ hc0_1
 have HC0_2 := M_ hc0_2
 have HC0_3 := M_ hc0_3
 have HC0_4 := M_ hc0_4
 have HC1 := M_ hc1
 have HF := M_ (show 0 ≤ a0_0 ∧ a0_0 ≤ 10000 ∧ l0_1.length ≤ 10000 ∧ l0_2.length ≤ 10000 ∧ l0_3.length ≤ 10000 ∧ l0_4.length ≤ 10000 from ⟨k0, k1, k2, k3, k4, k5⟩)
 have HA := M_ kA
 have HLb := M_ kL
 have HBb := M_ kB
 have HCb := M_ kC
 have HN := M_ hN
 have HG := M_ (show ∀ v : Nat, v < l1.length → badG a0_0 l1 v = false from fun v hv => by simpa using hG v (List.mem_range.2 hv))
 have HB0 := M_ (below_alloc (below_alloc (Below.refl w.heap.size w) (.cells #[.int .i64 a0_0, .slice A0_1 l0_1.length c0_1, .slice A0_2 l0_2.length c0_2, .slice A0_3 l0_3.length c0_3, .slice A0_4 l0_4.length c0_4] 26)) (.cells #[.int .i64 0, .slice none 0 0, .slice none 0 0, .slice none 0 0, .slice none 0 0] 26))
 have BC0 := M_ (blk_alloc (heap_alloc_new w (.cells #[.int .i64 a0_0, .slice A0_1 l0_1.length c0_1, .slice A0_2 l0_2.length c0_2, .slice A0_3 l0_3.length c0_3, .slice A0_4 l0_4.length c0_4] 26)) (.cells #[.int .i64 0, .slice none 0 0, .slice none 0 0, .slice none 0 0, .slice none 0 0] 26))
 have BZ0 := M_ (zbox w #[.int .i64 a0_0, .slice A0_1 l0_1.length c0_1, .slice A0_2 l0_2.length c0_2, .slice A0_3 l0_3.length c0_3, .slice A0_4 l0_4.length c0_4])
 clear hr0_1 hr0_2 hr0_3 hr0_4 hc0_1 hc0_2 hc0_3 hc0_4 hr1 hc1 k0 k1 k2 k3 k4 k5 kg kA kN kL kB kC hN hG
 go_enter Try.func71, Try.ntmps71
 go_upto_region 1 with fail
 have hsz : w.heap.size + 2 ≤ ((w.alloc (.cells #[.int .i64 a0_0, .slice A0_1 l0_1.length c0_1, .slice A0_2 l0_2.length c0_2, .slice A0_3 l0_3.length c0_3, .slice A0_4 l0_4.length c0_4] 26)).alloc (.cells #[.int .i64 0, .slice none 0 0, .slice none 0 0, .slice none 0 0, .slice none 0 0] 26)).heap.size := by simp
 have hb0 := HB0.out
 have bc0 := BC0.out
 have bz0 := BZ0.out
 clear HB0 BC0 BZ0
 generalize ((w.alloc (.cells #[.int .i64 a0_0, .slice A0_1 l0_1.length c0_1, .slice A0_2 l0_2.length c0_2, .slice A0_3 l0_3.length c0_3, .slice A0_4 l0_4.length c0_4] 26)).alloc (.cells #[.int .i64 0, .slice none 0 0, .slice none 0 0, .slice none 0 0, .slice none 0 0] 26)) = W0 at hsz hb0 bc0 bz0 ⊢
 have HB0 := M_ hb0
 have BC0 := M_ bc0
 have BZ0 := M_ bz0
 have HSZ := M_ (show w.heap.size + 2 ≤ W0.heap.size from hsz)
 clear hb0 bc0 bz0 hsz
 have x0 := (blk_cell (blk_drew BC0.out) 0).trans (show _ = some (.int .i64 a0_0) from rfl)
 have x1 := (blk_cell (blk_drew BC0.out) 1).trans (show _ = some (.slice A0_1 l0_1.length c0_1) from rfl)
 have N1 := M_ (show w.heap.size ≠ W0.heap.size by have := HSZ.out; omega)
 have N2 := M_ (show w.heap.size ≠ W0.heap.size + 1 by have := HSZ.out; omega)
 have N3 := M_ (show w.heap.size + 1 ≠ W0.heap.size by have := HSZ.out; omega)
 have N4 := M_ (show w.heap.size + 1 ≠ W0.heap.size + 1 by have := HSZ.out; omega)
 have BN2 := M_ (show ((W0.alloc (.cells #[] 45)).alloc (.cells #[.int .i64 0, .slice none 0 0, .slice none 0 0, .slice none 0 0, .slice none 0 0] 26)).heap[W0.heap.size + 1]? = some (.cells #[.int .i64 0, .slice none 0 0, .slice none 0 0, .slice none 0 0, .slice none 0 0] 26 (0, 0)) by have := heap_alloc_new (W0.alloc (.cells #[] 45)) (.cells #[.int .i64 0, .slice none 0 0, .slice none 0 0, .slice none 0 0, .slice none 0 0] 26); simpa using this)
 have BN3 := M_ (show ((W0.alloc (.cells #[.int .i64 0, .slice none 0 0, .slice none 0 0, .slice none 0 0, .slice none 0 0] 26)).alloc (.cells #[] 45)).heap[W0.heap.size]? = some (.cells #[.int .i64 0, .slice none 0 0, .slice none 0 0, .slice none 0 0, .slice none 0 0] 26 (0, 0)) from blk_alloc (heap_alloc_new W0 _) _)
 have RN3 := M_ (show Kd.R k45 45 ((W0.alloc (.cells #[.int .i64 0, .slice none 0 0, .slice none 0 0, .slice none 0 0, .slice none 0 0] 26)).alloc (.cells #[] 45)) w.heap.size (fun _ => True) (.slice (some ⟨W0.heap.size + 1, 0, none⟩) 0 0) [] by have := R_new0 k45 (w := w) (W := W0.alloc (.cells #[.int .i64 0, .slice none 0 0, .slice none 0 0, .slice none 0 0, .slice none 0 0] 26)) 45 (Nat.le_trans HB0.out.size (by simp)); simpa using this)
 go_cut [6] (fun v6 wx => ∃ bo, v6 = .pointer (some ⟨bo, 0, none⟩) ∧ Aside0 (StB w wx bo #[.int .i64 a0_0, .slice A0_1 l0_1.length c0_1, .slice A0_2 l0_2.length c0_2, .slice A0_3 l0_3.length c0_3, .slice A0_4 l0_4.length c0_4] a0_0 l0_1 [] [] [] (.slice none 0 0) []))
 case first =>
  go_region_held3 (fun w' => w'.cell? ⟨w.heap.size, 0, none⟩ = some (.int .i64 a0_0) ∧ w'.cell? ⟨w.heap.size, 1, none⟩ = some (.slice A0_1 l0_1.length c0_1))
   (first | exact ⟨(blk_cell (by repeat (first | with_reducible exact BC0.out | with_reducible exact BC1.out | with_reducible refine k1_ ?_ | with_reducible refine k2_ ?_ _ | with_reducible refine blk_far (p := ⟨W0.heap.size, _, none⟩) ?_ N1.out _ | with_reducible refine blk_far (p := ⟨W0.heap.size + 1, _, none⟩) ?_ N2.out _)) 0).trans rfl, (blk_cell (by repeat (first | with_reducible exact BC0.out | with_reducible exact BC1.out | with_reducible refine k1_ ?_ | with_reducible refine k2_ ?_ _ | with_reducible refine blk_far (p := ⟨W0.heap.size, _, none⟩) ?_ N1.out _ | with_reducible refine blk_far (p := ⟨W0.heap.size + 1, _, none⟩) ?_ N2.out _)) 1).trans rfl⟩ | exact ⟨(blk_cell (KX.out _ _ _ _ _) 0).trans rfl, (blk_cell (KX.out _ _ _ _ _) 1).trans rfl⟩ | fail)
   (first
    | (refine Kd.R_append_rows_step k45 (w0 := w) w.heap.size (by rfl) (.tmp 16) (.tmp 18) 22 45 (.agg #[(.int .i64 0), (.int .i64 0)]) 16 rfl Try.underlying22 info45 rfl (by decide) (by omega) _ [] l0_1 _ _ _ (fun _ => True) (fun _ => False) rfl rfl ?aO ?aR (fun _ _ h => h) (fun _ h => h.elim) (fun _ _ => trivial) ?aB ?aS ?aL ?_; (case aO => first | exact Kd.R_drew RN3.out | exact RN3.out | repeat (first | exact R_new0 _ _ (below_size (by repeat (first | with_reducible exact HB0.out | with_reducible apply b0_ | with_reducible apply below_drew))) | with_reducible refine Kd.R_drew ?_ | with_reducible refine Kd.R_alloc ?_ _)); (case aR => exact Kd.C_below HR0_1.out (by repeat (first | with_reducible exact HB0.out | with_reducible apply b0_ | with_reducible apply below_drew))); (case aB => repeat (first | with_reducible exact HB0.out | with_reducible apply b0_ | with_reducible apply below_drew)); (case aS => exact below_size (by repeat (first | with_reducible exact HB0.out | with_reducible apply b0_ | with_reducible apply below_drew))); (case aL => have := HF.out; simp only [List.length_nil]; omega); intro v1 w1 hr hb1 hg hat; have HS1 := M_ (Nat.le_trans HSZ.out (Nat.le_trans (below_size (by repeat (first | with_reducible exact Below.refl _ _ | with_reducible apply b0_ | with_reducible apply below_drew))) hg.size)); have hne0 : ∀ n, W0.heap.size ≤ n → (some w.heap.size : Option Nat) ≠ some n ∧ (some (w.heap.size + 1) : Option Nat) ≠ some n := (fun n hn => by have h1 := HSZ.out; constructor <;> (intro e; injection e with e; omega)); have BC1 := M_ (blk_grown (g := w.heap.size) (o := .cells #[.int .i64 a0_0, .slice A0_1 l0_1.length c0_1, .slice A0_2 l0_2.length c0_2, .slice A0_3 l0_3.length c0_3, .slice A0_4 l0_4.length c0_4] 26) (by repeat (first | with_reducible exact BC0.out | with_reducible refine k1_ ?_ | with_reducible refine k2_ ?_ _)) hg (hne0 _ (by simp)).1); have BZ1 := M_ (blk_grown (g := w.heap.size + 1) (o := .cells #[.int .i64 0, .slice none 0 0, .slice none 0 0, .slice none 0 0, .slice none 0 0] 26) (by repeat (first | with_reducible exact BZ0.out | with_reducible refine k1_ ?_ | with_reducible refine k2_ ?_ _)) hg (hne0 _ (by simp)).2); (first | (have BN := M_ (blk_grown (g := W0.heap.size + 1) (o := .cells #[.int .i64 0, .slice none 0 0, .slice none 0 0, .slice none 0 0, .slice none 0 0] 26) (blk_drew BN2.out) hg (fun e => by have e2 := Option.some.inj (show some _ = some _ from e); simp at e2)); have z0 := (blk_cell BN.out 0).trans (show _ = some (.int .i64 0) from rfl); have fz0 := blk_frozen BN.out 0; have z1 := (blk_cell BN.out 1).trans (show _ = some (.slice none 0 0) from rfl); have fz1 := blk_frozen BN.out 1; have z2 := (blk_cell BN.out 2).trans (show _ = some (.slice none 0 0) from rfl); have fz2 := blk_frozen BN.out 2; have z3 := (blk_cell BN.out 3).trans (show _ = some (.slice none 0 0) from rfl); have fz3 := blk_frozen BN.out 3; have z4 := (blk_cell BN.out 4).trans (show _ = some (.slice none 0 0) from rfl); have fz4 := blk_frozen BN.out 4; have KX := M_ (fun a0 a1 a2 a3 a4 => (put5_far (W := _) (g := W0.heap.size + 1) a0 a1 a2 a3 a4 N2.out).trans BC1.out)) | (have BN := M_ (blk_grown (g := W0.heap.size) (o := .cells #[.int .i64 0, .slice none 0 0, .slice none 0 0, .slice none 0 0, .slice none 0 0] 26) (blk_drew BN3.out) hg (fun e => by have e2 := Option.some.inj (show some _ = some _ from e); simp at e2)); have z0 := (blk_cell BN.out 0).trans (show _ = some (.int .i64 0) from rfl); have fz0 := blk_frozen BN.out 0; have z1 := (blk_cell BN.out 1).trans (show _ = some (.slice none 0 0) from rfl); have fz1 := blk_frozen BN.out 1; have z2 := (blk_cell BN.out 2).trans (show _ = some (.slice none 0 0) from rfl); have fz2 := blk_frozen BN.out 2; have z3 := (blk_cell BN.out 3).trans (show _ = some (.slice none 0 0) from rfl); have fz3 := blk_frozen BN.out 3; have z4 := (blk_cell BN.out 4).trans (show _ = some (.slice none 0 0) from rfl); have fz4 := blk_frozen BN.out 4; have KX := M_ (fun a0 a1 a2 a3 a4 => (put5_far (W := _) (g := W0.heap.size) a0 a1 a2 a3 a4 N1.out).trans BC1.out)) | skip); rw [List.nil_append] at hr; obtain ⟨A6, c6, rfl⟩ := Kd.R_slice hr; have HR := M_ hr; have HB1 := M_ hb1; have HG := M_ hg; clear hr hb1 hg hat))
  all_goals (go_wp2_with fail; go_meet; first
   | exact ⟨_, rfl, ⟨⟨⟨below_alloc HB1.out _, HB1.out.size, ⟨_, _, _, _, heap_alloc_new _ _, Kd.R_alloc HR.out _, Kd.R_nil _ _ _ _ _, Kd.R_nil _ _ _ _ _, Kd.R_nil _ _ _ _ _⟩⟩, HS1.out, blk_alloc BC1.out _, blk_alloc BZ1.out _, Kd.R_nil _ _ _ _ _⟩⟩⟩
   | exact ⟨_, rfl, ⟨⟨⟨put5_below _ _ _ _ _ HB1.out (Nat.le_succ_of_le HB0.out.size), Nat.le_succ_of_le HB0.out.size, ⟨_, _, _, _, put5_blk _ _ _ _ _ BN.out, put5_R _ _ _ _ _ BN.out HR.out (by decide), Kd.R_nil _ _ _ _ _, Kd.R_nil _ _ _ _ _, Kd.R_nil _ _ _ _ _⟩⟩, Nat.lt_succ_of_lt HSZ.out, (put5_far _ _ _ _ _ N2.out).trans BC1.out, (put5_far _ _ _ _ _ N4.out).trans BZ1.out, Kd.R_nil _ _ _ _ _⟩⟩⟩
   | exact ⟨_, rfl, ⟨⟨⟨put5_below _ _ _ _ _ HB1.out HB0.out.size, HB0.out.size, ⟨_, _, _, _, put5_blk _ _ _ _ _ BN.out, put5_R _ _ _ _ _ BN.out HR.out (by decide), Kd.R_nil _ _ _ _ _, Kd.R_nil _ _ _ _ _, Kd.R_nil _ _ _ _ _⟩⟩, HSZ.out, (put5_far _ _ _ _ _ N1.out).trans BC1.out, (put5_far _ _ _ _ _ N3.out).trans BZ1.out, Kd.R_nil _ _ _ _ _⟩⟩⟩)
 case rest =>
 obtain ⟨bo, rfl, HT⟩ := hcut
 clear BC0 BZ0 HB0 N1 N2 N3 N4 HSZ BN2 BN3 RN3 x0 x1
 have HSZE := M_ (show spiritlevelref02_Size.f a0_0 l0_1 l0_2 l0_3 l0_4 = some (a0_0 + (l0_1.length : Int) + (l0_2.length : Int)) by
  have := HF.out
  unfold spiritlevelref02_Size.f
  rw [show wrap64 (a0_0 + (l0_1.length : Int)) = a0_0 + (l0_1.length : Int) by unfold wrap64; omega, show wrap64 (a0_0 + (l0_1.length : Int) + (l0_2.length : Int)) = a0_0 + (l0_1.length : Int) + (l0_2.length : Int) by unfold wrap64; omega])
 go_upto_block 0 with fail
 go_cut [7] (fun v7 wx => Aside0 (StB w wx bo #[.int .i64 a0_0, .slice A0_1 l0_1.length c0_1, .slice A0_2 l0_2.length c0_2, .slice A0_3 l0_3.length c0_3, .slice A0_4 l0_4.length c0_4] a0_0 l0_1 G [] [] v7 T))
 case first =>
  go_wp2
  go_loopg [7, 8] (l1.length + 1) (fun kq v7 v8 w' => ∃ (k : Nat), v8 = .int .i64 (k : Int) ∧ Aside0 (k ≤ l1.length ∧ kq + k = l1.length + 1) ∧ Aside0 (StB w w' bo #[.int .i64 a0_0, .slice A0_1 l0_1.length c0_1, .slice A0_2 l0_2.length c0_2, .slice A0_3 l0_3.length c0_3, .slice A0_4 l0_4.length c0_4] a0_0 l0_1 (runB (a0_0 + (l0_1.length : Int) + 1) l0_2 l1 k).1 [] [] v7 (runB (a0_0 + (l0_1.length : Int) + 1) l0_2 l1 k).2))
  case atStart => exact ⟨0, by simp, ⟨by omega, by omega⟩, ⟨by simpa [runB] using HT.out⟩⟩
  case round =>
   clear HT
   obtain ⟨k, rfl, HI, HT⟩ := hrel
   obtain ⟨Gk, Tk, HGT⟩ : ∃ Gk Tk, Aside0 ((runB (a0_0 + (l0_1.length : Int) + 1) l0_2 l1 k) = (Gk, Tk)) := ⟨_, _, ⟨rfl⟩⟩
   rw [HGT.out] at HT
   dsimp only at HT
   have x0 := (blk_cell HT.out.hc 0).trans (show _ = some (.int .i64 a0_0) from rfl)
   have x1 := (blk_cell HT.out.hc 1).trans (show _ = some (.slice A0_1 l0_1.length c0_1) from rfl)
   have x2 := (blk_cell HT.out.hc 2).trans (show _ = some (.slice A0_2 l0_2.length c0_2) from rfl)
   have x3 := (blk_cell HT.out.hc 3).trans (show _ = some (.slice A0_3 l0_3.length c0_3) from rfl)
   have x4 := (blk_cell HT.out.hc 4).trans (show _ = some (.slice A0_4 l0_4.length c0_4) from rfl)
   by_cases c : k < l1.length
   ·have HC := M_ c
    have cb : decide ((k : Int) ≤ a0_0 + (l0_1.length : Int) + (l0_2.length : Int)) = true := decide_eq_true (by have := HN.out; omega)
    have HGE := M_ (show spiritlevelref02_Gate.f a0_0 l0_1 l0_2 l0_3 l0_4 (k : Int) = some ((k : Int) - (a0_0 + (l0_1.length : Int) + 1)) by
     have h1 := HF.out; have h2 := HN.out
     unfold spiritlevelref02_Gate.f
     rw [show wrap64 ((k : Int) - 1) = (k : Int) - 1 by unfold wrap64; omega, show wrap64 ((k : Int) - 1 - a0_0) = (k : Int) - 1 - a0_0 by unfold wrap64; omega, show wrap64 ((k : Int) - 1 - a0_0 - (l0_1.length : Int)) = (k : Int) - (a0_0 + (l0_1.length : Int) + 1) by unfold wrap64; omega])
    obtain ⟨ad, rfl, hx0⟩ := Kd.at_int HR1.out (k : Int) (by omega) (by omega)
    rw [Int.toNat_natCast] at hx0
    have HG0 := M_ hx0
    clear hx0
    obtain ⟨t1, t2⟩ := runB_len (a0_0 + (l0_1.length : Int) + 1) l0_2 l1 k
    rw [HGT.out] at t1 t2
    dsimp only at t1 t2
    have HTL := M_ (And.intro t1 t2)
    have hbd := runB_bd (ins := a0_0) (by have := HF.out; omega) (by have := HF.out; omega) HA.out HG.out l1.length (by have := HN.out; omega) rfl (by have := HF.out; have := HN.out; omega) k (Nat.le_of_lt c)
    rw [HGT.out] at hbd
    have HBD := M_ (show Lits0 Tk from hbd)
    clear hbd
    have HGK := M_ (fun h => badG_not (HG.out k c) h)
    have p0 : (0 : Int) ≤ (k : Int) := by omega
    have p1 : (k : Int) < (l1.length : Int) := by omega
    clear t1 t2
    cases g0 : decide (0 ≤ rd l1 (k : Int)) with
    | true =>
     have h0 := of_decide_eq_true g0
     have hlt := HGK.out h0
     have hstep : runB (a0_0 + (l0_1.length : Int) + 1) l0_2 l1 (k + 1) = (Gk, Tk ++ [sgnP Tk (rd l1 (k : Int))]) := by
      rw [runB, HGT.out]; unfold stepB; dsimp only; rw [HTL.out.1, if_pos h0]
     have HSTEP := M_ hstep
     obtain ⟨m, hm⟩ : ∃ m : Nat, rd l1 (k : Int) / 2 = (m : Int) := ⟨(rd l1 (k : Int) / 2).toNat, by omega⟩
     have hmk : m < k := by omega
     obtain ⟨gT, cT, rfl, -, -, -⟩ := Kd.R_form HT.out.hT (by rw [HTL.out.1]; omega)
     have HQ1 := M_ (show Int.tdiv (rd l1 (k : Int)) 2 = (m : Int) by rw [Int.tdiv_eq_ediv_of_nonneg h0, hm])
     have HQ2 := M_ (show wrap64 (m : Int) = (m : Int) by have h1 := HF.out; have h4 := HN.out; unfold wrap64; omega)
     have HQ3 := M_ (show IntKind.i64.wrap (m : Int) = (m : Int) by have h1 := HF.out; have h4 := HN.out; rw [IntKind.wrap_i64]; omega)
     have p2 : (0 : Int) ≤ (m : Int) := by omega
     have p3 : (m : Int) < (Tk.length : Int) := by rw [HTL.out.1]; omega
     have HTM := M_ (show m < Tk.length by rw [HTL.out.1]; omega)
     have tb := HBD.out _ (rd_mem Tk (rd l1 (k : Int) / 2) (by omega) (by rw [HTL.out.1]; omega))
     have HSE := M_ (signed_eq Tk (rd l1 (k : Int)) h0 (by have h1 := HF.out; have h4 := HN.out; omega) tb.1 (by omega))
     rw [hm] at HSE
     clear hstep h0 HGK hlt hm hmk tb
     have HLEN := M_ (show (Tk.length + 1) * 8 ≤ 140737488355328 by have h1 := HF.out; have h2 := HC.out; have h3 := HTL.out; have h4 := HN.out; rw [h3.1]; omega)
     have q1 := HQ1.out
     have q2 := HQ2.out
     have q3 := HQ3.out
     go_upto_region 10 with (first
      | (go_at_call 33; (with_reducible refine (spiritlevelref02_Size.calls a0_0 A0_1 c0_1 l0_1 A0_2 c0_2 l0_2 A0_3 c0_3 l0_3 A0_4 c0_4 l0_4 _ _ (Kd.C_below HR0_1.out HT.out.hS.hb) HC0_1.out (Kd.C_below HR0_2.out HT.out.hS.hb) HC0_2.out (Kd.C_below HR0_3.out HT.out.hS.hb) HC0_3.out (Kd.C_below HR0_4.out HT.out.hS.hb) HC0_4.out HSZE.out).mono ?_); rintro e w5 ⟨rfl, hb⟩; have H5 := M_ (HT.out.below hb); clear hb; have y0 := (blk_cell H5.out.hc 0).trans (show _ = some (.int .i64 a0_0) from rfl); have y1 := (blk_cell H5.out.hc 1).trans (show _ = some (.slice A0_1 l0_1.length c0_1) from rfl); have y2 := (blk_cell H5.out.hc 2).trans (show _ = some (.slice A0_2 l0_2.length c0_2) from rfl); have y3 := (blk_cell H5.out.hc 3).trans (show _ = some (.slice A0_3 l0_3.length c0_3) from rfl); have y4 := (blk_cell H5.out.hc 4).trans (show _ = some (.slice A0_4 l0_4.length c0_4) from rfl))
      | (go_at_call 97; (with_reducible refine (spiritlevelref02_Gate.calls a0_0 A0_1 c0_1 l0_1 A0_2 c0_2 l0_2 A0_3 c0_3 l0_3 A0_4 c0_4 l0_4 (k : Int) _ _ (Kd.C_below HR0_1.out H5.out.hS.hb) HC0_1.out (Kd.C_below HR0_2.out H5.out.hS.hb) HC0_2.out (Kd.C_below HR0_3.out H5.out.hS.hb) HC0_3.out (Kd.C_below HR0_4.out H5.out.hS.hb) HC0_4.out HGE.out).mono ?_); rintro e w6 ⟨rfl, hb⟩; have H6 := M_ (H5.out.below hb); clear hb; have g6 := pw_cell_below H6.out.hS.hb HG0.out))
     have HX := M_ (H6.out.below (below_drew (Below.refl _ _)))
     have r1 := pw_cell_below HX.out.hS.hb HG0.out
     have r2 := HX.out.told rfl m HTM.out
     refine wp_region_last_drew (S := (fun w' => w'.cell? (ad.add k) = some (.int .i64 (rd l1 (k : Int))) ∧ w'.cell? ⟨gT, m, none⟩ = some (.int .i64 (rd Tk (m : Int))))) (ds := [15, 16]) (by kernel_rfl) ⟨r1, r2⟩ (fun hH => ?_)
     iterate 13 (refine tk_ [0,1,2,3,4,5,6,7,8,9,10,11,12] (v := ?_) (by simp; rfl) (by kernel_rfl) (by exact fun _ _ _ h => h) (Or.inl ⟨by rfl, ?_⟩) hH ?_; rotate_left; (intro _ hS; (try dsimp only at hS); go_simp; (try with_reducible rfl)); simp only [Act.put, e1_, e2_, e3_])
     refine os_ 13 (by simp; rfl) (by kernel_rfl) (fun K hK => ?_)
     (go_simp; go_at_call 98; (with_reducible refine (spiritlevelref26_Signed.calls _ _ _ _ HSE.out).mono ?_); rintro e w7 ⟨rfl, hd⟩; have H7 := M_ (HX.out.below hd.below); clear hd; have r5 := pw_cell_below H7.out.hS.hb HG0.out; have r6 := H7.out.told rfl m HTM.out; dsimp only)
     refine hK.out _ _ ⟨r5, r6⟩ (fun hH => ?_)
     refine os_ 14 (by simp; rfl) (by kernel_rfl) (fun K hK => ?_)
     go_simp
     refine hK.out _ _ ⟨pw_cell_below (below_alloc (Below.refl _ _) _) r5, pw_cell_below (below_alloc (Below.refl _ _) _) r6⟩ (fun hH => ?_)
     refine ol_ 15 (by simp; rfl) (by kernel_rfl) (fun K hK => ?_)
     (refine Kd.R_append_step (Kd.int .i64) (w0 := w) w.heap.size (by rfl) (.tmp 63) (.tmp 77) 24 3 (.int .i64 0) 8 rfl Try.underlying24 info3 rfl (by decide) (by omega) _ Tk (sgnP Tk (rd l1 (k : Int))) [.int .i64 (sgnP Tk (rd l1 (k : Int)))] (fun _ => True) (fun _ => False) rfl rfl rfl (fun _ hk => hk.elim) (fun _ _ => trivial) H7.out.hT H7.out.hS.hb H7.out.hS.hb.size HLEN.out ?_; intro v9 w9 hr hb1 hg hat; have H9 := M_ (H7.out.tell hr hb1 hg hat); clear hr hb1 hg hat)
     refine hK.out _ _ ?_
     refine ol_ 16 (by simp; rfl) (by kernel_rfl) (fun K hK => ?_)
     go_simp
     refine hK.out _ _ ?_
     refine wpAnyLast_done (by kernel_rfl) ?_ _
     clear q1 q2 q3
     go_wp2
     go_roundg (gk - 1)
     case rel =>
      refine ⟨k + 1, congrArg (Value.int .i64) (show wrap64 ((k : Int) + 1) = ((k + 1 : Nat) : Int) by have h1 := HF.out; have h2 := HC.out; have h4 := HN.out; unfold wrap64; omega), ⟨by have := HC.out; omega, by have := HI.out; have := HC.out; omega⟩, ⟨?_⟩⟩
      rw [HSTEP.out]
      exact H9.out
     case measure => have := HI.out; have := HC.out; omega
    | false =>
     have h0 := of_decide_eq_false g0
     cases gf : decide ((k : Int) - (a0_0 + (l0_1.length : Int) + 1) < 0) with
     | true =>
      have hstep : runB (a0_0 + (l0_1.length : Int) + 1) l0_2 l1 (k + 1) = (Gk, Tk ++ [2 * (k : Int)]) := by
       rw [runB, HGT.out]; unfold stepB; dsimp only; rw [HTL.out.1, if_neg h0, if_pos (by have := of_decide_eq_true gf; omega)]
      have HSTEP := M_ hstep
      have HE4 := M_ (show wrap64 (2 * (k : Int)) = 2 * (k : Int) by have h1 := HF.out; have h2 := HC.out; have h4 := HN.out; unfold wrap64; omega)
      clear hstep h0 HGK
      go_wp2_with (first
       | (go_at_call 33; (with_reducible refine (spiritlevelref02_Size.calls a0_0 A0_1 c0_1 l0_1 A0_2 c0_2 l0_2 A0_3 c0_3 l0_3 A0_4 c0_4 l0_4 _ _ (Kd.C_below HR0_1.out HT.out.hS.hb) HC0_1.out (Kd.C_below HR0_2.out HT.out.hS.hb) HC0_2.out (Kd.C_below HR0_3.out HT.out.hS.hb) HC0_3.out (Kd.C_below HR0_4.out HT.out.hS.hb) HC0_4.out HSZE.out).mono ?_); rintro e w5 ⟨rfl, hb⟩; have H5 := M_ (HT.out.below hb); clear hb; have y0 := (blk_cell H5.out.hc 0).trans (show _ = some (.int .i64 a0_0) from rfl); have y1 := (blk_cell H5.out.hc 1).trans (show _ = some (.slice A0_1 l0_1.length c0_1) from rfl); have y2 := (blk_cell H5.out.hc 2).trans (show _ = some (.slice A0_2 l0_2.length c0_2) from rfl); have y3 := (blk_cell H5.out.hc 3).trans (show _ = some (.slice A0_3 l0_3.length c0_3) from rfl); have y4 := (blk_cell H5.out.hc 4).trans (show _ = some (.slice A0_4 l0_4.length c0_4) from rfl))
       | (go_at_call 97; (with_reducible refine (spiritlevelref02_Gate.calls a0_0 A0_1 c0_1 l0_1 A0_2 c0_2 l0_2 A0_3 c0_3 l0_3 A0_4 c0_4 l0_4 (k : Int) _ _ (Kd.C_below HR0_1.out H5.out.hS.hb) HC0_1.out (Kd.C_below HR0_2.out H5.out.hS.hb) HC0_2.out (Kd.C_below HR0_3.out H5.out.hS.hb) HC0_3.out (Kd.C_below HR0_4.out H5.out.hS.hb) HC0_4.out HGE.out).mono ?_); rintro e w6 ⟨rfl, hb⟩; have H6 := M_ (H5.out.below hb); clear hb; have g6 := pw_cell_below H6.out.hS.hb HG0.out)
       | ((with_reducible refine gate_builtin (b := .append) (xs := #[.tmp 82, .tmp 85]) rfl ?_); at_builtin; refine Kd.R_append (Kd.int .i64) (w0 := w) w.heap.size rfl (.tmp 82) (.tmp 85) 24 3 (.int .i64 0) 8 rfl Try.underlying24 info3 rfl (by decide) (by omega) _ Tk (wrap64 (2 * (k : Int))) [.int .i64 (wrap64 (2 * (k : Int)))] (fun _ => True) (fun _ => False) rfl rfl rfl (fun _ hk => hk.elim) (fun _ _ => trivial) H6.out.hT H6.out.hS.hb H6.out.hS.hb.size (by have h1 := HF.out; have h2 := HC.out; have h3 := HTL.out; have h4 := HN.out; rw [h3.1]; omega) ?_; intro v9 w9 hr hb1 hg hat; have H9 := M_ (H6.out.tell hr hb1 hg hat); clear hr hb1 hg hat))
      go_roundg (gk - 1)
      case rel =>
       refine ⟨k + 1, congrArg (Value.int .i64) (show wrap64 ((k : Int) + 1) = ((k + 1 : Nat) : Int) by have h1 := HF.out; have h2 := HC.out; have h4 := HN.out; unfold wrap64; omega), ⟨by have := HC.out; omega, by have := HI.out; have := HC.out; omega⟩, ⟨?_⟩⟩
       have h9 := H9.out
       rw [HE4.out] at h9
       rw [HSTEP.out]
       exact h9
      case measure => have := HI.out; have := HC.out; omega
     | false =>
      have hf := of_decide_eq_false gf
      obtain ⟨i', hi'⟩ : ∃ i' : Nat, (k : Int) - (a0_0 + (l0_1.length : Int) + 1) = (i' : Int) := ⟨((k : Int) - (a0_0 + (l0_1.length : Int) + 1)).toNat, by omega⟩
      have hil : i' < l0_2.length := by have := HN.out; omega
      rw [hi'] at HGE
      have hstep : runB (a0_0 + (l0_1.length : Int) + 1) l0_2 l1 (k + 1) = ((andP (a0_0 + (l0_1.length : Int) + 1) Gk (sgnP Tk (rd_T55 l0_2 (i' : Int)).f0) (sgnP Tk (rd_T55 l0_2 (i' : Int)).f1)).1, Tk ++ [(andP (a0_0 + (l0_1.length : Int) + 1) Gk (sgnP Tk (rd_T55 l0_2 (i' : Int)).f0) (sgnP Tk (rd_T55 l0_2 (i' : Int)).f1)).2]) := by
       rw [runB, HGT.out]; unfold stepB; dsimp only; rw [HTL.out.1, if_neg h0, if_neg (by omega), hi']
      obtain ⟨m1, m2, m3, m4⟩ := okA_at HA.out i' hil
      obtain ⟨ad2, rfl, hp0, hq0⟩ := at_T55n HR0_2.out i' hil
      generalize (rd_T55 l0_2 (i' : Int)).f0 = p at hp0 hstep m1 m2
      generalize (rd_T55 l0_2 (i' : Int)).f1 = q at hq0 hstep m3 m4
      have HSTEP := M_ hstep
      have HP0 := M_ hp0
      have HQ0 := M_ hq0
      have hFN := HF.out
      have hNN := HN.out
      obtain ⟨mp, hmp⟩ : ∃ m : Nat, p / 2 = (m : Int) := ⟨(p / 2).toNat, by omega⟩
      obtain ⟨mq, hmq⟩ : ∃ m : Nat, q / 2 = (m : Int) := ⟨(q / 2).toNat, by omega⟩
      obtain ⟨gT, cT, rfl, -, -, -⟩ := Kd.R_form HT.out.hT (by rw [HTL.out.1]; omega)
      have p5 : decide ((i' : Int) < 0) = false := decide_eq_false (by omega)
      have p6 : (0 : Int) ≤ (i' : Int) := by omega
      have p7 : (i' : Int) < (l0_2.length : Int) := by omega
      have HQ1 := M_ (show Int.tdiv p 2 = (mp : Int) by rw [Int.tdiv_eq_ediv_of_nonneg m1, hmp])
      have HQ2 := M_ (show wrap64 (mp : Int) = (mp : Int) by unfold wrap64; omega)
      have HQ3 := M_ (show IntKind.i64.wrap (mp : Int) = (mp : Int) by rw [IntKind.wrap_i64]; omega)
      have HQ4 := M_ (show Int.tdiv q 2 = (mq : Int) by rw [Int.tdiv_eq_ediv_of_nonneg m3, hmq])
      have HQ5 := M_ (show wrap64 (mq : Int) = (mq : Int) by unfold wrap64; omega)
      have HQ6 := M_ (show IntKind.i64.wrap (mq : Int) = (mq : Int) by rw [IntKind.wrap_i64]; omega)
      have s2 : (0 : Int) ≤ (mp : Int) := by omega
      have s3 : (mp : Int) < (Tk.length : Int) := by rw [HTL.out.1]; omega
      have s4 : (0 : Int) ≤ (mq : Int) := by omega
      have s5 : (mq : Int) < (Tk.length : Int) := by rw [HTL.out.1]; omega
      have HTM := M_ (show mp < Tk.length ∧ mq < Tk.length by rw [HTL.out.1]; omega)
      have tp := HBD.out _ (rd_mem Tk (p / 2) (by omega) (by rw [HTL.out.1]; omega))
      have tq := HBD.out _ (rd_mem Tk (q / 2) (by omega) (by rw [HTL.out.1]; omega))
      have HSP := M_ (signed_eq Tk p m1 (by omega) tp.1 (by omega))
      have HSQ := M_ (signed_eq Tk q m3 (by omega) tq.1 (by omega))
      have HXY := M_ (show (0 ≤ sgnP Tk p ∧ sgnP Tk p ≤ 100000000) ∧ (0 ≤ sgnP Tk q ∧ sgnP Tk q ≤ 100000000) by
       have z1 := sgnP_bd HBD.out p m1 (by rw [HTL.out.1]; omega) (by omega)
       have z2 := sgnP_bd HBD.out q m3 (by rw [HTL.out.1]; omega) (by omega)
       omega)
      have HFW := M_ (show Few a0_0 l0_1 Gk [] [] from ⟨by omega, by omega, by omega, by have := HTL.out.2; omega, by simp, by simp⟩)
      rw [hmp] at HSP
      rw [hmq] at HSQ
      clear hstep h0 HGK hf hi' hil m1 m2 m3 m4 hFN hNN hp0 hq0 tp tq hmp hmq gf
      have HLEN := M_ (show (Tk.length + 1) * 8 ≤ 140737488355328 by have h1 := HF.out; have h2 := HC.out; have h3 := HTL.out; have h4 := HN.out; rw [h3.1]; omega)
      have q1 := HQ1.out
      have q2 := HQ2.out
      have q3 := HQ3.out
      have q4 := HQ4.out
      have q5 := HQ5.out
      have q6 := HQ6.out
      go_upto_region 8 with (first
       | (go_at_call 33; (with_reducible refine (spiritlevelref02_Size.calls a0_0 A0_1 c0_1 l0_1 (some ad2) c0_2 l0_2 A0_3 c0_3 l0_3 A0_4 c0_4 l0_4 _ _ (Kd.C_below HR0_1.out HT.out.hS.hb) HC0_1.out (Kd.C_below HR0_2.out HT.out.hS.hb) HC0_2.out (Kd.C_below HR0_3.out HT.out.hS.hb) HC0_3.out (Kd.C_below HR0_4.out HT.out.hS.hb) HC0_4.out HSZE.out).mono ?_); rintro e w5 ⟨rfl, hb⟩; have H5 := M_ (HT.out.below hb); clear hb; have y0 := (blk_cell H5.out.hc 0).trans (show _ = some (.int .i64 a0_0) from rfl); have y1 := (blk_cell H5.out.hc 1).trans (show _ = some (.slice A0_1 l0_1.length c0_1) from rfl); have y2 := (blk_cell H5.out.hc 2).trans (show _ = some (.slice (some ad2) l0_2.length c0_2) from rfl); have y3 := (blk_cell H5.out.hc 3).trans (show _ = some (.slice A0_3 l0_3.length c0_3) from rfl); have y4 := (blk_cell H5.out.hc 4).trans (show _ = some (.slice A0_4 l0_4.length c0_4) from rfl))
       | (go_at_call 97; (with_reducible refine (spiritlevelref02_Gate.calls a0_0 A0_1 c0_1 l0_1 (some ad2) c0_2 l0_2 A0_3 c0_3 l0_3 A0_4 c0_4 l0_4 (k : Int) _ _ (Kd.C_below HR0_1.out H5.out.hS.hb) HC0_1.out (Kd.C_below HR0_2.out H5.out.hS.hb) HC0_2.out (Kd.C_below HR0_3.out H5.out.hS.hb) HC0_3.out (Kd.C_below HR0_4.out H5.out.hS.hb) HC0_4.out HGE.out).mono ?_); rintro e w6 ⟨rfl, hb⟩; have H6 := M_ (H5.out.below hb); clear hb; have g6 := pw_cell_below H6.out.hS.hb HG0.out; have z2 := (blk_cell H6.out.hc 2).trans (show _ = some (.slice (some ad2) l0_2.length c0_2) from rfl); have gp := pw_cell_below H6.out.hS.hb HP0.out; have gq := pw_cell_below H6.out.hS.hb HQ0.out))
      have HXB := M_ (H6.out.boxed (.cells #[.int .i64 p, .int .i64 q] 55))
      have HX := M_ (H6.out.below (below_drew (below_alloc (Below.refl _ _) (.cells #[.int .i64 p, .int .i64 q] 55))))
      have BX := M_ (blk_drew (heap_alloc_new w6 (.cells #[.int .i64 p, .int .i64 q] 55)))
      have r1 := (blk_cell BX.out 0).trans (show _ = some (.int .i64 p) from rfl)
      have r2 := (blk_cell BX.out 1).trans (show _ = some (.int .i64 q) from rfl)
      have r3 := HX.out.told rfl mp HTM.out.1
      have r4 := HX.out.told rfl mq HTM.out.2
      have NX := M_ (show w6.heap.size ≠ bo from (Nat.ne_of_lt H6.out.bolt).symm)
      have HXBn := M_ (HXB.out.below (below_drew (Below.refl _ _)))
      clear HXB
      have HXB := HXBn
      clear HXBn
      refine wp_region_last_drew (S := (fun w' => w'.cell? ⟨w6.heap.size, 0, none⟩ = some (.int .i64 p) ∧ w'.cell? ⟨w6.heap.size, 1, none⟩ = some (.int .i64 q) ∧ w'.cell? ⟨gT, mp, none⟩ = some (.int .i64 (rd Tk (mp : Int))) ∧ w'.cell? ⟨gT, mq, none⟩ = some (.int .i64 (rd Tk (mq : Int))))) (ds := [21, 22]) (by kernel_rfl) ⟨r1, r2, r3, r4⟩ (fun hH => ?_)
      iterate 17 (refine tk_ [0,1,2,3,4,5,6,7,8,10,11,12,13,14,15,16,17] (v := ?_) (by simp; rfl) (by kernel_rfl) (by exact fun _ _ _ h => h) (Or.inl ⟨by rfl, ?_⟩) hH ?_; rotate_left; (intro _ hS; (try dsimp only at hS); go_simp; (try with_reducible rfl)); simp only [Act.put, e1_, e2_, e3_])
      refine os_ 9 (by simp; rfl) (by kernel_rfl) (fun K hK => ?_)
      (go_simp; go_at_call 98; (with_reducible refine (spiritlevelref26_Signed.calls _ _ _ _ HSP.out).mono ?_); rintro e w7 ⟨rfl, hd⟩; have HXn := M_ (HX.out.below hd.below); have BXn := M_ (blk_below BX.out hd.below); have HBn := M_ (HXB.out.below hd.below); clear HX BX HXB r1 r2 r3 r4; have HX := HXn; have BX := BXn; have HXB := HBn; clear HXn BXn HBn hd; have r1 := (blk_cell BX.out 0).trans (show _ = some (.int .i64 p) from rfl); have r2 := (blk_cell BX.out 1).trans (show _ = some (.int .i64 q) from rfl); have r3 := HX.out.told rfl mp HTM.out.1; have r4 := HX.out.told rfl mq HTM.out.2; dsimp only)
      refine hK.out _ _ ⟨r1, r2, r3, r4⟩ (fun hH => ?_)
      refine os_ 18 (by simp; rfl) (by kernel_rfl) (fun K hK => ?_)
      (go_simp; go_at_call 98; (with_reducible refine (spiritlevelref26_Signed.calls _ _ _ _ HSQ.out).mono ?_); rintro e w7 ⟨rfl, hd⟩; have HXn := M_ (HX.out.below hd.below); have BXn := M_ (blk_below BX.out hd.below); have HBn := M_ (HXB.out.below hd.below); clear HX BX HXB r1 r2 r3 r4; have HX := HXn; have BX := BXn; have HXB := HBn; clear HXn BXn HBn hd; have r1 := (blk_cell BX.out 0).trans (show _ = some (.int .i64 p) from rfl); have r2 := (blk_cell BX.out 1).trans (show _ = some (.int .i64 q) from rfl); have r3 := HX.out.told rfl mp HTM.out.1; have r4 := HX.out.told rfl mq HTM.out.2; dsimp only)
      refine hK.out _ _ ⟨r1, r2, r3, r4⟩ (fun hH => ?_)
      refine os_ 19 (by simp; rfl) (by kernel_rfl) (fun K hK => ?_)
      (go_simp; go_at_call 99; (with_reducible refine (made_calls HX.out.hS HFW.out (sgnP Tk p) (sgnP Tk q) HXY.out.1.1 HXY.out.1.2 HXY.out.2.1 HXY.out.2.2).mono ?_); rintro e w8 ⟨rfl, hS8, hK8⟩; have H8 := M_ (HX.out.keep hS8 hK8); have BX8 := M_ (hK8.box BX.out NX.out HXB.out.lt HXB.out.nr); clear hS8 hK8 r1 r2 r3 r4; have r1 := (blk_cell BX8.out 0).trans (show _ = some (.int .i64 p) from rfl); have r2 := (blk_cell BX8.out 1).trans (show _ = some (.int .i64 q) from rfl); have r3 := H8.out.told rfl mp HTM.out.1; have r4 := H8.out.told rfl mq HTM.out.2; dsimp only)
      refine hK.out _ _ ⟨r1, r2, r3, r4⟩ (fun hH => ?_)
      refine os_ 20 (by simp; rfl) (by kernel_rfl) (fun K hK => ?_)
      go_simp
      refine hK.out _ _ ⟨pw_cell_below (below_alloc (Below.refl _ _) _) r1, pw_cell_below (below_alloc (Below.refl _ _) _) r2, pw_cell_below (below_alloc (Below.refl _ _) _) r3, pw_cell_below (below_alloc (Below.refl _ _) _) r4⟩ (fun hH => ?_)
      refine ol_ 21 (by simp; rfl) (by kernel_rfl) (fun K hK => ?_)
      (refine Kd.R_append_step (Kd.int .i64) (w0 := w) w.heap.size (by rfl) (.tmp 35) (.tmp 55) 24 3 (.int .i64 0) 8 rfl Try.underlying24 info3 rfl (by decide) (by omega) _ Tk (andP (a0_0 + (l0_1.length : Int) + 1) Gk (sgnP Tk p) (sgnP Tk q)).2 [.int .i64 (andP (a0_0 + (l0_1.length : Int) + 1) Gk (sgnP Tk p) (sgnP Tk q)).2] (fun _ => True) (fun _ => False) rfl rfl rfl (fun _ hk => hk.elim) (fun _ _ => trivial) H8.out.hT H8.out.hS.hb H8.out.hS.hb.size HLEN.out ?_; intro v9 w9 hr hb1 hg hat; have H9 := M_ (H8.out.tell hr hb1 hg hat); clear hr hb1 hg hat)
      refine hK.out _ _ ?_
      refine ol_ 22 (by simp; rfl) (by kernel_rfl) (fun K hK => ?_)
      go_simp
      refine hK.out _ _ ?_
      refine wpAnyLast_done (by kernel_rfl) ?_ _
      all_goals (
       clear q1 q2 q3 q4 q5 q6
       go_wp2
       go_roundg (gk - 1)
       case rel =>
        refine ⟨k + 1, congrArg (Value.int .i64) (show wrap64 ((k : Int) + 1) = ((k + 1 : Nat) : Int) by have h1 := HF.out; have h2 := HC.out; have h4 := HN.out; unfold wrap64; omega), ⟨by have := HC.out; omega, by have := HI.out; have := HC.out; omega⟩, ⟨?_⟩⟩
        rw [HSTEP.out]
        exact H9.out
       case measure => have := HI.out; have := HC.out; omega)
   ·have cb : decide ((k : Int) ≤ a0_0 + (l0_1.length : Int) + (l0_2.length : Int)) = false := decide_eq_false (by have := HN.out; have := HI.out; omega)
    have HKE := M_ (show k = l1.length by have := HI.out; omega)
    go_wp2_with (go_at_call 33; (with_reducible refine (spiritlevelref02_Size.calls a0_0 A0_1 c0_1 l0_1 A0_2 c0_2 l0_2 A0_3 c0_3 l0_3 A0_4 c0_4 l0_4 _ _ (Kd.C_below HR0_1.out HT.out.hS.hb) HC0_1.out (Kd.C_below HR0_2.out HT.out.hS.hb) HC0_2.out (Kd.C_below HR0_3.out HT.out.hS.hb) HC0_3.out (Kd.C_below HR0_4.out HT.out.hS.hb) HC0_4.out HSZE.out).mono ?_); rintro e w5 ⟨rfl, hb⟩; have H5 := M_ (HT.out.below hb); clear hb; have y0 := (blk_cell H5.out.hc 0).trans (show _ = some (.int .i64 a0_0) from rfl); have y1 := (blk_cell H5.out.hc 1).trans (show _ = some (.slice A0_1 l0_1.length c0_1) from rfl); have y2 := (blk_cell H5.out.hc 2).trans (show _ = some (.slice A0_2 l0_2.length c0_2) from rfl); have y3 := (blk_cell H5.out.hc 3).trans (show _ = some (.slice A0_3 l0_3.length c0_3) from rfl); have y4 := (blk_cell H5.out.hc 4).trans (show _ = some (.slice A0_4 l0_4.length c0_4) from rfl))
    go_meet
    have he : (Gk, Tk) = (G, T) := by rw [← HGT.out, HKE.out]; exact HBP.out
    obtain ⟨rfl, rfl⟩ := Prod.mk.inj he
    exact H5
 case rest =>
 clear HT
 obtain ⟨gT, cT, rfl, -, -, -⟩ := Kd.R_form hcut.out.hT (by rw [HTN.out]; have h1 := HF.out; have h2 := HN.out; omega)
 have HSG := M_ (show ∀ (l : Int) (m : Nat), 0 ≤ l → l ≤ 1000000000 → l / 2 = (m : Int) → m < l1.length → spiritlevelref26_Signed.f (rd T (m : Int)) l = some (sgnP T l) from fun l m h0 h1 h2 h3 => by
  have tb := HBD.out _ (rd_mem T (l / 2) (by omega) (by rw [HTN.out]; omega))
  have := signed_eq T l h0 h1 tb.1 (by omega)
  rw [h2] at this
  exact this)
 have HT : Aside0 (StB w wc bo #[.int .i64 a0_0, .slice A0_1 l0_1.length c0_1, .slice A0_2 l0_2.length c0_2, .slice A0_3 l0_3.length c0_3, .slice A0_4 l0_4.length c0_4] a0_0 l0_1 G [] [] (.slice (some ⟨gT, 0, none⟩) T.length cT) T) := hcut
 clear hcut
 go_upto_block 3 with fail
 go_cut [] (fun wx => Aside0 (StB w wx bo #[.int .i64 a0_0, .slice A0_1 l0_1.length c0_1, .slice A0_2 l0_2.length c0_2, .slice A0_3 l0_3.length c0_3, .slice A0_4 l0_4.length c0_4] a0_0 (l0_1.map (fun x : S45 => (⟨sgnP T x.f0, x.f1⟩ : S45))) G [] [] (.slice (some ⟨gT, 0, none⟩) T.length cT) T))
 case first =>
  go_wp2
  go_loopg [11] (l0_1.length + 1) (fun kq v11 w' => ∃ (k : Nat), v11 = .int .i64 (k : Int) ∧ Aside0 (k ≤ l0_1.length ∧ kq + k = l0_1.length + 1) ∧ Aside0 (StB w w' bo #[.int .i64 a0_0, .slice A0_1 l0_1.length c0_1, .slice A0_2 l0_2.length c0_2, .slice A0_3 l0_3.length c0_3, .slice A0_4 l0_4.length c0_4] a0_0 ((l0_1.take k).map (fun x : S45 => (⟨sgnP T x.f0, x.f1⟩ : S45)) ++ l0_1.drop k) G [] [] (.slice (some ⟨gT, 0, none⟩) T.length cT) T))
  case atStart => exact ⟨0, by simp, ⟨by omega, by omega⟩, ⟨by simpa using HT.out⟩⟩
  case round =>
   clear HT
   obtain ⟨k, rfl, HI, HT⟩ := hrel
   have x1 := (blk_cell HT.out.hc 1).trans (show _ = some (.slice A0_1 l0_1.length c0_1) from rfl)
   by_cases c : k < l0_1.length
   ·have cb : decide (k < l0_1.length) = true := decide_eq_true c
    have HC := M_ c
    obtain ⟨ad, rfl, hx0, -⟩ := at_T45n HR0_1.out k c
    have HX0 := M_ hx0
    have hgv := HLb.out _ (List.getElem_mem c)
    have hg : rd_T45 l0_1 (k : Int) = l0_1[k] := by simp [rd_T45, List.getD, c]
    rw [← hg] at hgv
    have HEQ := M_ (show (l0_1[k]).f0 = (rd_T45 l0_1 (k : Int)).f0 by rw [hg])
    generalize (rd_T45 l0_1 (k : Int)).f0 = p at hx0 HX0 hgv HEQ
    obtain ⟨m, hm⟩ : ∃ m : Nat, p / 2 = (m : Int) := ⟨(p / 2).toNat, by omega⟩
    have hF := HF.out
    have hN := HN.out
    have HQ1 := M_ (show Int.tdiv p 2 = (m : Int) by rw [Int.tdiv_eq_ediv_of_nonneg hgv.1, hm])
    have HQ2 := M_ (show wrap64 (m : Int) = (m : Int) by unfold wrap64; omega)
    have HQ3 := M_ (show IntKind.i64.wrap (m : Int) = (m : Int) by rw [IntKind.wrap_i64]; omega)
    have s2 : (0 : Int) ≤ (m : Int) := by omega
    have s3 : (m : Int) < (T.length : Int) := by rw [HTN.out]; omega
    have HTM := M_ (show m < T.length by rw [HTN.out]; omega)
    have HSE := M_ (HSG.out p m (by omega) (by omega) hm (by omega))
    have HX := M_ (HT.out.below (below_drew (Below.refl _ _)))
    have hml := mix_len (fun x : S45 => (⟨sgnP T x.f0, x.f1⟩ : S45)) l0_1 k (Nat.le_of_lt c)
    obtain ⟨g, cg, u, z1, -⟩ := HX.out.latch k (by rw [hml]; exact c)
    rw [hml] at z1
    have HML := M_ hml
    have yc := (blk_cell HX.out.hc 1).trans (show _ = some (.slice (some ad) l0_1.length c0_1) from rfl)
    have yx := pw_cell_below HX.out.hS.hb hx0
    have yt := HX.out.told rfl m HTM.out
    have p0 : (0 : Int) ≤ (k : Int) := by omega
    have p1 : (k : Int) < (l0_1.length : Int) := by omega
    clear hg hgv hx0 hml hm hF hN
    have q1 := HQ1.out
    have q2 := HQ2.out
    have q3 := HQ3.out
    go_upto_region 16 with fail
    go_region_held3 (fun w' => w'.cell? ⟨bo, 1, none⟩ = some (.slice (some ⟨g, 0, none⟩) l0_1.length cg) ∧ w'.cell? ⟨w.heap.size, 1, none⟩ = some (.slice (some ad) l0_1.length c0_1) ∧ w'.cell? (ad.add (k * 2)) = some (.int .i64 p) ∧ w'.cell? ⟨gT, m, none⟩ = some (.int .i64 (rd T (m : Int))))
     (first | exact ⟨by with_reducible assumption, by with_reducible assumption, by with_reducible assumption, by with_reducible assumption⟩ | fail)
     (first
      | (go_simp; go_at_call 98; (with_reducible refine (spiritlevelref26_Signed.calls _ _ _ _ HSE.out).mono ?_); rintro e w5 ⟨rfl, hd⟩; have H5 := M_ (HX.out.below hd.below); have z5 := pw_cell_below hd.below z1; obtain ⟨u5, hq1, hq2, hq3⟩ := H5.out.latchAt k (by rw [HML.out]; exact HC.out) z5; have f52 := (blk_cell H5.out.hc 1).trans (show _ = some (.slice (some ad) l0_1.length c0_1) from rfl); have f53 := pw_cell_below H5.out.hS.hb HX0.out; have f54 := H5.out.told rfl m HTM.out; have H6 := M_ (hq3 (sgnP T p)).1; have z6 := (hq3 (sgnP T p)).2; have f62 := (blk_cell H6.out.hc 1).trans (show _ = some (.slice (some ad) l0_1.length c0_1) from rfl); have f63 := pw_cell_below H6.out.hS.hb HX0.out; have f64 := H6.out.told rfl m HTM.out; clear hd hq3; dsimp only))
    clear q1 q2 q3
    go_wp2
    go_roundg (gk - 1)
    case rel =>
     refine ⟨k + 1, congrArg (Value.int .i64) (show wrap64 ((k : Int) + 1) = ((k + 1 : Nat) : Int) by have h1 := HF.out; have h2 := HC.out; have h4 := HN.out; unfold wrap64; omega), ⟨by have := HC.out; omega, by have := HI.out; have := HC.out; omega⟩, ⟨?_⟩⟩
     have h7 := H6.out
     rw [mixL_set _ _ _ HC.out _ HEQ.out] at h7
     exact h7
    case measure => have := HI.out; have := HC.out; omega
   ·have cb : decide (k < l0_1.length) = false := decide_eq_false c
    have HE := HT.out
    rw [show k = l0_1.length by have := HI.out; omega, List.take_length, List.drop_length, List.append_nil] at HE
    have HE := M_ HE
    clear HT
    go_wp2_with fail
    go_meet
    exact HE
 case rest =>
 clear HT
 have HT := hcut
 clear hcut
 go_upto_block 5 with fail
 go_cut [] (fun wx => Aside0 (StB w wx bo #[.int .i64 a0_0, .slice A0_1 l0_1.length c0_1, .slice A0_2 l0_2.length c0_2, .slice A0_3 l0_3.length c0_3, .slice A0_4 l0_4.length c0_4] a0_0 (l0_1.map (fun x : S45 => (⟨sgnP T x.f0, x.f1⟩ : S45))) G (l0_3.map (sgnP T)) [] (.slice (some ⟨gT, 0, none⟩) T.length cT) T))
 case first =>
  go_wp2
  go_loopg [12] (l0_3.length + 1) (fun kq v12 w' => ∃ (k : Nat), v12 = .int .i64 (k : Int) ∧ Aside0 (k ≤ l0_3.length ∧ kq + k = l0_3.length + 1) ∧ Aside0 (StB w w' bo #[.int .i64 a0_0, .slice A0_1 l0_1.length c0_1, .slice A0_2 l0_2.length c0_2, .slice A0_3 l0_3.length c0_3, .slice A0_4 l0_4.length c0_4] a0_0 (l0_1.map (fun x : S45 => (⟨sgnP T x.f0, x.f1⟩ : S45))) G ((l0_3.take k).map (sgnP T)) [] (.slice (some ⟨gT, 0, none⟩) T.length cT) T))
  case atStart => exact ⟨0, by simp, ⟨by omega, by omega⟩, ⟨by simpa using HT.out⟩⟩
  case round =>
   clear HT
   obtain ⟨k, rfl, HI, HT⟩ := hrel
   have x3 := (blk_cell HT.out.hc 3).trans (show _ = some (.slice A0_3 l0_3.length c0_3) from rfl)
   by_cases c : k < l0_3.length
   ·have cb : decide (k < l0_3.length) = true := decide_eq_true c
    have HC := M_ c
    obtain ⟨ad, rfl, hx0⟩ := Kd.at_int HR0_3.out (k : Int) (by omega) (by omega)
    rw [Int.toNat_natCast] at hx0
    have hg : rd l0_3 (k : Int) = l0_3[k] := by simp [rd, List.getD, c]
    have hgv := HBb.out _ (List.getElem_mem c)
    rw [← hg] at hgv
    have HEQ := M_ (show l0_3.take (k + 1) = l0_3.take k ++ [rd l0_3 (k : Int)] by rw [List.take_succ_eq_append_getElem c, hg])
    generalize rd l0_3 (k : Int) = p at hx0 hgv HEQ
    have HX0 := M_ hx0
    obtain ⟨m, hm⟩ : ∃ m : Nat, p / 2 = (m : Int) := ⟨(p / 2).toNat, by omega⟩
    have hF := HF.out
    have hN := HN.out
    have HQ1 := M_ (show Int.tdiv p 2 = (m : Int) by rw [Int.tdiv_eq_ediv_of_nonneg hgv.1, hm])
    have HQ2 := M_ (show wrap64 (m : Int) = (m : Int) by unfold wrap64; omega)
    have HQ3 := M_ (show IntKind.i64.wrap (m : Int) = (m : Int) by rw [IntKind.wrap_i64]; omega)
    have s2 : (0 : Int) ≤ (m : Int) := by omega
    have s3 : (m : Int) < (T.length : Int) := by rw [HTN.out]; omega
    have HTM := M_ (show m < T.length by rw [HTN.out]; omega)
    have HSE := M_ (HSG.out p m (by omega) (by omega) hm (by omega))
    have HX := M_ (HT.out.below (below_drew (Below.refl _ _)))
    have hml : ((l0_3.take k).map (sgnP T)).length = k := by simp [List.length_take]; omega
    obtain ⟨vL, vA, vB, vC, z3, z4, z5, z6, z7⟩ := HX.out.hS.blk
    obtain ⟨AB, cB, rfl⟩ := Kd.R_slice z6
    have z1 := (blk_cell z3 3).trans (show _ = some (.slice AB _ cB) from rfl)
    rw [hml] at z1
    have HML := M_ hml
    have HL9 := M_ (show (((l0_3.take k).map (sgnP T)) ++ [sgnP T p]).length = k + 1 by rw [List.length_append, hml]; rfl)
    clear z3 z4 z5 z6 z7
    have yc := (blk_cell HX.out.hc 3).trans (show _ = some (.slice (some ad) l0_3.length c0_3) from rfl)
    have yx := pw_cell_below HX.out.hS.hb hx0
    have yt := HX.out.told rfl m HTM.out
    have p0 : (0 : Int) ≤ (k : Int) := by omega
    have p1 : (k : Int) < (l0_3.length : Int) := by omega
    clear hg hgv hx0 hml hm hF hN
    have HLEN := M_ (show (((l0_3.take k).map (sgnP T)).length + 1) * 8 ≤ 140737488355328 by have h1 := HF.out; have h2 := HC.out; have h3 := HML.out; rw [h3]; omega)
    have q1 := HQ1.out
    have q2 := HQ2.out
    have q3 := HQ3.out
    go_upto_region 20 with fail
    refine wp_region_last_drew (S := (fun w' => w'.cell? ⟨w.heap.size, 3, none⟩ = some (.slice (some ad) l0_3.length c0_3) ∧ w'.cell? (ad.add k) = some (.int .i64 p) ∧ w'.cell? ⟨gT, m, none⟩ = some (.int .i64 (rd T (m : Int))) ∧ w'.cell? ⟨bo, 3, none⟩ = some (.slice AB k cB))) (ds := [18, 19, 20]) (by kernel_rfl) ⟨yc, yx, yt, z1⟩ (fun hH => ?_)
    iterate 16 (refine tk_ [0,1,2,3,4,5,6,7,8,9,10,11,12,13,14,15] (v := ?_) (by simp; rfl) (by kernel_rfl) (by exact fun _ _ _ h => h) (Or.inl ⟨by rfl, ?_⟩) hH ?_; rotate_left; (intro _ hS; (try dsimp only at hS); go_simp; (try with_reducible rfl)); simp only [Act.put, e1_, e2_, e3_])
    refine os_ 16 (by simp; rfl) (by kernel_rfl) (fun K hK => ?_)
    (go_simp; go_at_call 98; (with_reducible refine (spiritlevelref26_Signed.calls _ _ _ _ HSE.out).mono ?_); rintro e w5 ⟨rfl, hd⟩; have H5 := M_ (HX.out.below hd.below); have z5 := pw_cell_below hd.below z1; have z5a := pw_cell_below (below_alloc (Below.refl _ _) (.cells #[.int .i64 (sgnP T p)] 3)) z5; obtain ⟨vQ, hq1, hq2, hq3, hq4⟩ := H5.out.badAt z5; have Q2 := M_ hq2; have Q3 := M_ hq3; have Q4 := M_ @hq4; clear hq2 hq3 hq4; have f52 := (blk_cell H5.out.hc 3).trans (show _ = some (.slice (some ad) l0_3.length c0_3) from rfl); have f53 := pw_cell_below H5.out.hS.hb HX0.out; have f54 := H5.out.told rfl m HTM.out; clear hd; dsimp only)
    refine hK.out _ _ ⟨f52, f53, f54, z5⟩ (fun hH => ?_)
    refine os_ 17 (by simp; rfl) (by kernel_rfl) (fun K hK => ?_)
    go_simp
    refine hK.out _ _ ⟨pw_cell_below (below_alloc (Below.refl _ _) _) f52, pw_cell_below (below_alloc (Below.refl _ _) _) f53, pw_cell_below (below_alloc (Below.refl _ _) _) f54, z5a⟩ (fun hH => ?_)
    refine ol_ 18 (by simp; rfl) (by kernel_rfl) (fun K hK => ?_)
    (refine Kd.R_append_step (Kd.int .i64) (w0 := w) w.heap.size (by rfl) (.tmp 124) (.tmp 140) 24 3 (.int .i64 0) 8 rfl Try.underlying24 info3 rfl (by decide) (by omega) _ ((l0_3.take k).map (sgnP T)) (sgnP T p) [.int .i64 (sgnP T p)] (fun k_ => some k_ ≠ (vQ : Value).ownBlock ∧ some k_ ≠ (Value.slice (some ⟨gT, 0, none⟩) T.length cT).ownBlock) (fun _ => False) rfl rfl rfl (fun _ hk => hk.elim) Q3.out Q2.out H5.out.hS.hb H5.out.hS.hb.size HLEN.out ?_; intro v9 w9 hr hb1 hg hat; obtain ⟨A9, k9, e9⟩ := Kd.R_slice hr; rw [HL9.out] at e9; subst e9; obtain ⟨s9, ⟨u9, q9⟩, f9, c9, t9⟩ := Q4.out hr hb1 hg hat; have H9 := M_ s9; clear hr hb1 hg hat s9 c9 t9)
    refine hK.out _ _ ?_
    refine ol_ 19 (by simp; rfl) (by kernel_rfl) (fun K hK => ?_)
    go_simp
    refine hK.out _ _ ?_
    refine ol_ 20 (by simp; rfl) (by kernel_rfl) (fun K hK => ?_)
    go_simp
    refine hK.out _ _ ?_
    refine wpAnyLast_done (by kernel_rfl) ?_ _
    all_goals (
     clear q1 q2 q3
     go_wp2
     go_roundg (gk - 1)
     case rel =>
      refine ⟨k + 1, congrArg (Value.int .i64) (show wrap64 ((k : Int) + 1) = ((k + 1 : Nat) : Int) by have h1 := HF.out; have h2 := HC.out; have h4 := HN.out; unfold wrap64; omega), ⟨by have := HC.out; omega, by have := HI.out; have := HC.out; omega⟩, ⟨?_⟩⟩
      have h9 := H9.out
      rw [HEQ.out, List.map_append]
      exact h9
     case measure => have := HI.out; have := HC.out; omega)
   ·have cb : decide (k < l0_3.length) = false := decide_eq_false c
    have HE := HT.out
    rw [show k = l0_3.length by have := HI.out; omega, List.take_length] at HE
    have HE := M_ HE
    clear HT
    go_wp2_with fail
    go_meet
    exact HE
 case rest =>
 clear HT
 have HT := hcut
 clear hcut
 go_upto_block 7 with fail
 go_cut [] (fun wx => Aside0 (StB w wx bo #[.int .i64 a0_0, .slice A0_1 l0_1.length c0_1, .slice A0_2 l0_2.length c0_2, .slice A0_3 l0_3.length c0_3, .slice A0_4 l0_4.length c0_4] a0_0 (l0_1.map (fun x : S45 => (⟨sgnP T x.f0, x.f1⟩ : S45))) G (l0_3.map (sgnP T)) (l0_4.map (sgnP T)) (.slice (some ⟨gT, 0, none⟩) T.length cT) T))
 case first =>
  go_wp2
  go_loopg [13] (l0_4.length + 1) (fun kq v13 w' => ∃ (k : Nat), v13 = .int .i64 (k : Int) ∧ Aside0 (k ≤ l0_4.length ∧ kq + k = l0_4.length + 1) ∧ Aside0 (StB w w' bo #[.int .i64 a0_0, .slice A0_1 l0_1.length c0_1, .slice A0_2 l0_2.length c0_2, .slice A0_3 l0_3.length c0_3, .slice A0_4 l0_4.length c0_4] a0_0 (l0_1.map (fun x : S45 => (⟨sgnP T x.f0, x.f1⟩ : S45))) G (l0_3.map (sgnP T)) ((l0_4.take k).map (sgnP T)) (.slice (some ⟨gT, 0, none⟩) T.length cT) T))
  case atStart => exact ⟨0, by simp, ⟨by omega, by omega⟩, ⟨by simpa using HT.out⟩⟩
  case round =>
   clear HT
   obtain ⟨k, rfl, HI, HT⟩ := hrel
   have x4 := (blk_cell HT.out.hc 4).trans (show _ = some (.slice A0_4 l0_4.length c0_4) from rfl)
   by_cases c : k < l0_4.length
   ·have cb : decide (k < l0_4.length) = true := decide_eq_true c
    have HC := M_ c
    obtain ⟨ad, rfl, hx0⟩ := Kd.at_int HR0_4.out (k : Int) (by omega) (by omega)
    rw [Int.toNat_natCast] at hx0
    have hg : rd l0_4 (k : Int) = l0_4[k] := by simp [rd, List.getD, c]
    have hgv := HCb.out _ (List.getElem_mem c)
    rw [← hg] at hgv
    have HEQ := M_ (show l0_4.take (k + 1) = l0_4.take k ++ [rd l0_4 (k : Int)] by rw [List.take_succ_eq_append_getElem c, hg])
    generalize rd l0_4 (k : Int) = p at hx0 hgv HEQ
    have HX0 := M_ hx0
    obtain ⟨m, hm⟩ : ∃ m : Nat, p / 2 = (m : Int) := ⟨(p / 2).toNat, by omega⟩
    have hF := HF.out
    have hN := HN.out
    have HQ1 := M_ (show Int.tdiv p 2 = (m : Int) by rw [Int.tdiv_eq_ediv_of_nonneg hgv.1, hm])
    have HQ2 := M_ (show wrap64 (m : Int) = (m : Int) by unfold wrap64; omega)
    have HQ3 := M_ (show IntKind.i64.wrap (m : Int) = (m : Int) by rw [IntKind.wrap_i64]; omega)
    have s2 : (0 : Int) ≤ (m : Int) := by omega
    have s3 : (m : Int) < (T.length : Int) := by rw [HTN.out]; omega
    have HTM := M_ (show m < T.length by rw [HTN.out]; omega)
    have HSE := M_ (HSG.out p m (by omega) (by omega) hm (by omega))
    have HX := M_ (HT.out.below (below_drew (Below.refl _ _)))
    have hml : ((l0_4.take k).map (sgnP T)).length = k := by simp [List.length_take]; omega
    obtain ⟨vL, vA, vB, vC, z3, z4, z5, z6, z7⟩ := HX.out.hS.blk
    obtain ⟨AB, cB, rfl⟩ := Kd.R_slice z7
    have z1 := (blk_cell z3 4).trans (show _ = some (.slice AB _ cB) from rfl)
    rw [hml] at z1
    have HML := M_ hml
    have HL9 := M_ (show (((l0_4.take k).map (sgnP T)) ++ [sgnP T p]).length = k + 1 by rw [List.length_append, hml]; rfl)
    clear z3 z4 z5 z6 z7
    have yc := (blk_cell HX.out.hc 4).trans (show _ = some (.slice (some ad) l0_4.length c0_4) from rfl)
    have yx := pw_cell_below HX.out.hS.hb hx0
    have yt := HX.out.told rfl m HTM.out
    have p0 : (0 : Int) ≤ (k : Int) := by omega
    have p1 : (k : Int) < (l0_4.length : Int) := by omega
    clear hg hgv hx0 hml hm hF hN
    have HLEN := M_ (show (((l0_4.take k).map (sgnP T)).length + 1) * 8 ≤ 140737488355328 by have h1 := HF.out; have h2 := HC.out; have h3 := HML.out; rw [h3]; omega)
    have q1 := HQ1.out
    have q2 := HQ2.out
    have q3 := HQ3.out
    go_upto_region 24 with fail
    refine wp_region_last_drew (S := (fun w' => w'.cell? ⟨w.heap.size, 4, none⟩ = some (.slice (some ad) l0_4.length c0_4) ∧ w'.cell? (ad.add k) = some (.int .i64 p) ∧ w'.cell? ⟨gT, m, none⟩ = some (.int .i64 (rd T (m : Int))) ∧ w'.cell? ⟨bo, 4, none⟩ = some (.slice AB k cB))) (ds := [18, 19, 20]) (by kernel_rfl) ⟨yc, yx, yt, z1⟩ (fun hH => ?_)
    iterate 16 (refine tk_ [0,1,2,3,4,5,6,7,8,9,10,11,12,13,14,15] (v := ?_) (by simp; rfl) (by kernel_rfl) (by exact fun _ _ _ h => h) (Or.inl ⟨by rfl, ?_⟩) hH ?_; rotate_left; (intro _ hS; (try dsimp only at hS); go_simp; (try with_reducible rfl)); simp only [Act.put, e1_, e2_, e3_])
    refine os_ 16 (by simp; rfl) (by kernel_rfl) (fun K hK => ?_)
    (go_simp; go_at_call 98; (with_reducible refine (spiritlevelref26_Signed.calls _ _ _ _ HSE.out).mono ?_); rintro e w5 ⟨rfl, hd⟩; have H5 := M_ (HX.out.below hd.below); have z5 := pw_cell_below hd.below z1; have z5a := pw_cell_below (below_alloc (Below.refl _ _) (.cells #[.int .i64 (sgnP T p)] 3)) z5; obtain ⟨vQ, hq1, hq2, hq3, hq4⟩ := H5.out.conAt z5; have Q2 := M_ hq2; have Q3 := M_ hq3; have Q4 := M_ @hq4; clear hq2 hq3 hq4; have f52 := (blk_cell H5.out.hc 4).trans (show _ = some (.slice (some ad) l0_4.length c0_4) from rfl); have f53 := pw_cell_below H5.out.hS.hb HX0.out; have f54 := H5.out.told rfl m HTM.out; clear hd; dsimp only)
    refine hK.out _ _ ⟨f52, f53, f54, z5⟩ (fun hH => ?_)
    refine os_ 17 (by simp; rfl) (by kernel_rfl) (fun K hK => ?_)
    go_simp
    refine hK.out _ _ ⟨pw_cell_below (below_alloc (Below.refl _ _) _) f52, pw_cell_below (below_alloc (Below.refl _ _) _) f53, pw_cell_below (below_alloc (Below.refl _ _) _) f54, z5a⟩ (fun hH => ?_)
    refine ol_ 18 (by simp; rfl) (by kernel_rfl) (fun K hK => ?_)
    (refine Kd.R_append_step (Kd.int .i64) (w0 := w) w.heap.size (by rfl) (.tmp 151) (.tmp 167) 24 3 (.int .i64 0) 8 rfl Try.underlying24 info3 rfl (by decide) (by omega) _ ((l0_4.take k).map (sgnP T)) (sgnP T p) [.int .i64 (sgnP T p)] (fun k_ => some k_ ≠ (vQ : Value).ownBlock ∧ some k_ ≠ (Value.slice (some ⟨gT, 0, none⟩) T.length cT).ownBlock) (fun _ => False) rfl rfl rfl (fun _ hk => hk.elim) Q3.out Q2.out H5.out.hS.hb H5.out.hS.hb.size HLEN.out ?_; intro v9 w9 hr hb1 hg hat; obtain ⟨A9, k9, e9⟩ := Kd.R_slice hr; rw [HL9.out] at e9; subst e9; obtain ⟨s9, ⟨u9, q9⟩, f9, c9, t9⟩ := Q4.out hr hb1 hg hat; have H9 := M_ s9; clear hr hb1 hg hat s9 c9 t9)
    refine hK.out _ _ ?_
    refine ol_ 19 (by simp; rfl) (by kernel_rfl) (fun K hK => ?_)
    go_simp
    refine hK.out _ _ ?_
    refine ol_ 20 (by simp; rfl) (by kernel_rfl) (fun K hK => ?_)
    go_simp
    refine hK.out _ _ ?_
    refine wpAnyLast_done (by kernel_rfl) ?_ _
    all_goals (
     clear q1 q2 q3
     go_wp2
     go_roundg (gk - 1)
     case rel =>
      refine ⟨k + 1, congrArg (Value.int .i64) (show wrap64 ((k : Int) + 1) = ((k + 1 : Nat) : Int) by have h1 := HF.out; have h2 := HC.out; have h4 := HN.out; unfold wrap64; omega), ⟨by have := HC.out; omega, by have := HI.out; have := HC.out; omega⟩, ⟨?_⟩⟩
      have h9 := H9.out
      rw [HEQ.out, List.map_append]
      exact h9
     case measure => have := HI.out; have := HC.out; omega)
   ·have cb : decide (k < l0_4.length) = false := decide_eq_false c
    have HE := HT.out
    rw [show k = l0_4.length by have := HI.out; omega, List.take_length] at HE
    have HE := M_ HE
    clear HT
    go_wp2_with fail
    go_meet
    exact HE
 case rest =>
 clear HT
 have HT := hcut
 clear hcut
 have HZ := M_ HT.out.hz
 obtain ⟨AL, cL, AA, cA, AB, cB, AC, cC, k3, k4, k5, k6, k7⟩ := HT.out.hS.cells
 simp only [List.length_map] at k3 k4 k5 k6 k7
 have K4 := M_ k4
 have K5 := M_ k5
 have K6 := M_ k6
 have K7 := M_ k7
 have y0 := (blk_cell k3 0).trans (show _ = some (.int .i64 a0_0) from rfl)
 have y1 := (blk_cell k3 1).trans (show _ = some (.slice AL l0_1.length cL) from rfl)
 have y2 := (blk_cell k3 2).trans (show _ = some (.slice AA G.length cA) from rfl)
 have y3 := (blk_cell k3 3).trans (show _ = some (.slice AB l0_3.length cB) from rfl)
 have y4 := (blk_cell k3 4).trans (show _ = some (.slice AC l0_4.length cC) from rfl)
 have z0 := (blk_cell HZ.out 0).trans (show _ = some (.int .i64 0) from rfl)
 have fz0 := blk_frozen HZ.out 0
 have z1 := (blk_cell HZ.out 1).trans (show _ = some (.slice none 0 0) from rfl)
 have fz1 := blk_frozen HZ.out 1
 have z2 := (blk_cell HZ.out 2).trans (show _ = some (.slice none 0 0) from rfl)
 have fz2 := blk_frozen HZ.out 2
 have z3 := (blk_cell HZ.out 3).trans (show _ = some (.slice none 0 0) from rfl)
 have fz3 := blk_frozen HZ.out 3
 have z4 := (blk_cell HZ.out 4).trans (show _ = some (.slice none 0 0) from rfl)
 have fz4 := blk_frozen HZ.out 4
 clear k3 k4 k5 k6 k7
 go_wp2_with fail
 refine bodyPost_ret (results_list (rs := [.cell 4 26, .tmp 5]) rfl (by simp) (.cell (w.heap.size + 1) 26 #[.int .i64 a0_0, .slice AL l0_1.length cL, .slice AA G.length cA, .slice AB l0_3.length cB, .slice AC l0_4.length cC] (0, 0) _ rfl (put5_blk _ _ _ _ _ HZ.out) Try.underlying26 rfl (by kernel_rfl) (.tmp .nil))) rfl ?_
 exact ⟨_, _, _, _, _, rfl, put5_R _ _ _ _ _ HZ.out K4.out (by decide), put5_R _ _ _ _ _ HZ.out K5.out (by decide), put5_R _ _ _ _ _ HZ.out K6.out (by decide), put5_R _ _ _ _ _ HZ.out K7.out (by decide), Kd.R_flat (fun h => h) (put5_R _ _ _ _ _ HZ.out HT.out.hT (by decide)) (fun k hk _ => ⟨fun e => (K6.out.1 k e.symm).2 hk.symm, fun e => (K7.out.1 k e.symm).2 hk.symm⟩), put5_below _ _ _ _ _ HT.out.hS.hb (Nat.le_succ _)⟩

end Go.Proofs.Ytlgoniocoifjjaa.QConstantsPasses
