-- Made by wip/myprint.sh (a patched print): a text of this session's own.
import Derived.Test.YtmcdanpecajklaaQTernsimValuesx0
import Derived.Test.YtmcdanpecajklaaQTernsimValuesx1
import Derived.Test.YtmcdanpecajklaaQTernsimValuesx5
import Derived.Test.YtmcdanpecajklaaQTernsimValuesx7
namespace Go.Proofs.Ytmcdanpecajklaa.QTernsimValues
open Go.RowKit Go.Proofs.YtmcdanpecajklaaW.PrintWords Go.Proofs.YtmcdanpecajklaaW.PrintLast Go.Proofs.YtmcdanpecajklaaW.PrintMore
attribute [local go_sem] max2_int min2_int max_two min_two max_three min_three max_four min_four
set_option linter.unusedVariables false
set_option linter.unusedSimpArgs false

-- hash_begin.dep
def sgnP (T : List Int) (l : Int) : Int := Go.bits .xor .i64 (rd T (l / 2)) (Go.bits .and .i64 l 1)
set_option maxHeartbeats 4000000 in
set_option maxRecDepth 100000 in
theorem bof_calls {W : World} {bt gt base : Nat} {ok : Nat → Prop} {n cap : Nat} {T : List Int} (hb : W.heap[bt]? = some (.cells #[.slice (some ⟨gt, 0, none⟩) n cap] 24 (0, 0))) (hR : Kd.R (Kd.int .i64) 3 W base ok (.slice (some ⟨gt, 0, none⟩) n cap) T) (l : Int) (h0 : 0 ≤ l) (h1 : l / 2 < n) (h2 : l ≤ 1000000000) :
  Calls Try.prog 86 #[.int .i64 l, .pointer (some ⟨bt, 0, none⟩)] W fun e W' => e = .returned (.int .i64 (sgnP T l)) ∧ Below W.heap.size W W' := by
 obtain ⟨i, hi⟩ : ∃ i : Nat, l / 2 = (i : Int) := ⟨(l / 2).toNat, by omega⟩
 have hn : n = T.length := (Kd.R_reads' hR).1
 have hz := (blk_cell hb 0).trans (show _ = some (.slice (some ⟨gt, 0, none⟩) n cap) from rfl)
 have hc : W.cell? ⟨gt, i, none⟩ = some (.int .i64 (rd T (i : Int))) := by
  have := (Kd.R_celln (0 : Int) hR (i : Int) (by omega) (by omega)).1
  rw [Int.toNat_natCast] at this
  exact this
 have q1 : Int.tdiv l 2 = (i : Int) := by rw [Int.tdiv_eq_ediv_of_nonneg h0, hi]
 have q2 : wrap64 (i : Int) = (i : Int) := by unfold wrap64; omega
 have p0 : (0 : Int) ≤ (i : Int) := by omega
 have p1 : (i : Int) < (n : Int) := by omega
 have hu := Try.underlying24
 unfold sgnP
 rw [hi]
 clear hb hR h0 h1 h2 hi hn
 go_enter Try.func86, Try.ntmps86
 go_wp2
 go_ret
 exact ⟨by first | trivial | rfl | simp, Below.refl _ _⟩
theorem latch_put {W : World} {g cap base : Nat} {ok : Nat → Prop} {L : List S36} (h : Kd.R k36 36 W base ok (.slice (some ⟨g, 0, none⟩) L.length cap) L) (i : Nat) (hi : i < L.length) (x : Int) :
  Kd.R k36 36 (W.setCell ⟨g, i * 2, none⟩ (.int .i64 x)) base ok (.slice (some ⟨g, 0, none⟩) L.length cap) (L.set i ⟨x, (L[i]).f1⟩) ∧ W.grownBy (W.setCell ⟨g, i * 2, none⟩ (.int .i64 x)) (some g) := by
 obtain ⟨c, hcl, hcM, hcc, _⟩ := Kd.R_elem h z36 (i : Int) (by omega) (by omega)
 rw [Int.toNat_natCast] at hcM hcc
 have hc := k36_openM hcM
 have hg : L.getD i z36 = L[i] := by simp [List.getD, hi]
 rw [hg] at hc
 have := Kd.R_seg h (i : Int) (by omega) (by omega) (c := c) (seg := [.int .i64 x]) (j := 0) (okp := fun _ => False) (x' := ⟨x, (L[i]).f1⟩) hcl (by rw [Int.toNat_natCast]; exact hcc) (show 0 + 1 ≤ 2 by decide) (by rw [hc]; exact k36_mkM _ _ _ ⟨x, (L[i]).f1⟩) (fun _ hk => hk.elim)
 rw [Int.toNat_natCast] at this
 exact this
theorem blkN_ty {W : World} {a b t t' : Nat} {c c' : Array Value} (h : W.heap[a]? = some (.cells c t (0, 0))) (h' : W.heap[b]? = some (.cells c' t' (0, 0))) (ne : t ≠ t') : a ≠ b := by
 rintro rfl
 rw [h] at h'
 injection h' with h'
 injection h' with _ h'
 exact ne h'
structure StT (w W : World) (bb bm bt gt N cap : Nat) (cc : Array Value) (ins : Int) (L : List S36) (gs : List S69) (bads cons T : List Int) : Prop where
 hS : StH (fun k => k ≠ gt) w W bb bm ins L gs bads cons
 hc : W.heap[w.heap.size]? = some (.cells cc 26 (0, 0))
 hz : W.heap[w.heap.size + 1]? = some (.cells #[.int .i64 0, .slice none 0 0, .slice none 0 0, .slice none 0 0, .slice none 0 0] 26 (0, 0))
 ht : W.heap[bt]? = some (.cells #[.slice (some ⟨gt, 0, none⟩) N cap] 24 (0, 0))
 hT : Kd.R (Kd.int .i64) 3 W w.heap.size (fun k => k = gt) (.slice (some ⟨gt, 0, none⟩) N cap) T
section
variable {w W W' : World} {bb bm bt gt N cap : Nat} {cc : Array Value} {ins : Int} {L : List S36} {gs gs' : List S69} {bads cons T : List Int}
theorem StT.below (h : StT w W bb bm bt gt N cap cc ins L gs bads cons T) (hb : Below W.heap.size W W') : StT w W' bb bm bt gt N cap cc ins L gs bads cons T :=
 ⟨h.hS.below hb, blk_below h.hc hb, blk_below h.hz hb, blk_below h.ht hb, Kd.R_below h.hT hb⟩
theorem StT.keep (h : StT w W bb bm bt gt N cap cc ins L gs bads cons T) (hS : StH (fun k => k ≠ gt) w W' bb bm ins L gs' bads cons) (hK : KeepH W W') : StT w W' bb bm bt gt N cap cc ins L gs' bads cons T :=
 ⟨hS, hK.blk h.hc (by decide) (by decide), hK.blk h.hz (by decide) (by decide), hK.blk h.ht (by decide) (by decide), Kd.R_mono (Kd.R_move (Kd.R_bound h.hT) (fun k hk => by
  obtain ⟨_, _, _, q, hq, cells, hc⟩ := hk
  have hq : q = 3 := by simpa [Kd.int, Kd.scalar] using hq
  subst hq
  exact (hK.blk hc (by decide) (by decide)).trans hc.symm)) (fun _ hk => hk.1)⟩
theorem StT.len (h : StT w W bb bm bt gt N cap cc ins L gs bads cons T) : N = T.length := (Kd.R_reads' h.hT).1
theorem StT.tell (h : StT w W bb bm bt gt N cap cc ins L gs bads cons T) (v : Nat) (hv : v < N) (x : Int) : StT w (W.setCell ⟨gt, v, none⟩ (.int .i64 x)) bb bm bt gt N cap cc ins L gs bads cons (T.set v x) := by
 have hn := h.len
 obtain ⟨cg, hcg⟩ := Kd.R_typed h.hT gt rfl
 have hbase : w.heap.size ≤ gt := Kd.R_base h.hT gt rfl
 obtain ⟨⟨h0, h1, h2, ⟨vL, vA, vB, vC, h3, h4, h5, h6, h7⟩, h8⟩, hc, hz, ht, hT⟩ := h
 have hp := Kd.R_putn hT (v : Int) x
 rw [Int.toNat_natCast] at hp
 obtain ⟨es, cl, hm⟩ := h8.blk
 have far : ∀ {k : Nat} {cs : Array Value} {t : TypeId}, W.heap[k]? = some (.cells cs t (0, 0)) → t ≠ 3 → k ≠ gt := fun hk ne => blkN_ty hk hcg ne
 refine ⟨⟨h0.setCell hbase _, h1, h2, ⟨vL, vA, vB, vC, blk_far h3 (far h3 (by decide)) _, Kd.R_set h4 hcg (by decide) v _, Kd.R_set h5 hcg (by decide) v _, Kd.R_far h6 (fun _ hk => hk.2) _, Kd.R_far h7 (fun _ hk => hk.2) _⟩, h8.keep (Below.heap_setCell _ _ _ _ ?_)⟩, blk_far hc (far hc (by decide)) _, blk_far hz (far hz (by decide)) _, blk_far ht (far ht (by decide)) _, hp⟩
 rintro rfl
 rw [hcg] at hm
 cases hm
end
section
variable {w W W' : World} {bb bm bt gt N cap : Nat} {cc : Array Value} {ins : Int} {L : List S36} {gs gs' : List S69} {bads cons T : List Int}
theorem StT.latch (h : StT w W bb bm bt gt N cap cc ins L gs bads cons T) (i : Nat) (hi : i < L.length) : ∃ g c u, W.cell? ⟨bb, 1, none⟩ = some (.slice (some ⟨g, 0, none⟩) L.length c) ∧ W.cell? ⟨g, i * 2, none⟩ = some u ∧ W.frozen? ⟨g, i * 2, none⟩ = false ∧ ∀ x, StT w (W.setCell ⟨g, i * 2, none⟩ (.int .i64 x)) bb bm bt gt N cap cc ins (L.set i ⟨x, (L[i]).f1⟩) gs bads cons T ∧ (W.setCell ⟨g, i * 2, none⟩ (.int .i64 x)).cell? ⟨bb, 1, none⟩ = some (.slice (some ⟨g, 0, none⟩) L.length c) := by
 obtain ⟨cg, hcg⟩ := Kd.R_typed h.hT gt rfl
 obtain ⟨⟨h0, h1, h2, ⟨vL, vA, vB, vC, h3, h4, h5, h6, h7⟩, h8⟩, hc, hz, ht, hT⟩ := h
 obtain ⟨g, c, rfl, hg, hlt, cL, hcL⟩ := Kd.R_form h4 (by omega)
 obtain ⟨cs, hcl, hcM, hcc, hfr⟩ := Kd.R_elem h4 z36 (i : Int) (by omega) (by omega)
 rw [Int.toNat_natCast] at hcc hfr
 have hc0 := k36_openM hcM
 have hu := hcc 0 _ (by rw [hc0]; rfl)
 have hf := hfr 0
 refine ⟨g, c, _, (blk_cell h3 1).trans rfl, hu, hf, fun x => ?_⟩
 obtain ⟨hp, hgr⟩ := latch_put h4 i hi x
 have far : ∀ {k : Nat} {cs : Array Value} {t : TypeId}, W.heap[k]? = some (.cells cs t (0, 0)) → t ≠ 36 → k ≠ g := fun hk ne => blkN_ty hk hcL ne
 obtain ⟨es, cl, hm⟩ := h8.blk
 have h8' := h8.keep (Below.heap_setCell W ⟨g, i * 2, none⟩ (.int .i64 x) bm (by rintro rfl; rw [hcL] at hm; cases hm))
 refine ⟨?_, (blk_cell (blk_far h3 (far h3 (by decide)) _) 1).trans rfl⟩
 refine ⟨⟨h0.setCell hg _, h1, h2, ⟨_, vA, vB, vC, blk_far h3 (far h3 (by decide)) _, hp, Kd.R_set h5 hcL (by decide) _ _, Kd.R_set h6 hcL (by decide) _ _, Kd.R_set h7 hcL (by decide) _ _⟩, ?_⟩, blk_far hc (far hc (by decide)) _, blk_far hz (far hz (by decide)) _, blk_far ht (far ht (by decide)) _, Kd.R_set hT hcL (by decide) _ _⟩
 rw [List.length_set]
 exact h8'
theorem StT.bad (h : StT w W bb bm bt gt N cap cc ins L gs bads cons T) (i : Nat) (hi : i < bads.length) : ∃ g c u, W.cell? ⟨bb, 3, none⟩ = some (.slice (some ⟨g, 0, none⟩) bads.length c) ∧ W.cell? ⟨g, i, none⟩ = some u ∧ W.frozen? ⟨g, i, none⟩ = false ∧ ∀ x, StT w (W.setCell ⟨g, i, none⟩ (.int .i64 x)) bb bm bt gt N cap cc ins L gs (bads.set i x) cons T ∧ (W.setCell ⟨g, i, none⟩ (.int .i64 x)).cell? ⟨bb, 3, none⟩ = some (.slice (some ⟨g, 0, none⟩) bads.length c) := by
 obtain ⟨⟨h0, h1, h2, ⟨vL, vA, vB, vC, h3, h4, h5, h6, h7⟩, h8⟩, hc, hz, ht, hT⟩ := h
 obtain ⟨g, c, rfl, hg, hlt, cL, hcL⟩ := Kd.R_form h6 (by omega)
 have hok := h6.1 g rfl
 have hu := Kd.R_celln (0 : Int) h6 (i : Int) (by omega) (by omega)
 rw [Int.toNat_natCast] at hu
 refine ⟨g, c, _, (blk_cell h3 3).trans rfl, hu.1, hu.2, fun x => ?_⟩
 have hp := Kd.R_putn h6 (i : Int) x
 rw [Int.toNat_natCast] at hp
 have far : ∀ {k : Nat} {cs : Array Value} {t : TypeId}, W.heap[k]? = some (.cells cs t (0, 0)) → t ≠ 3 → k ≠ g := fun hk ne => blkN_ty hk hcL ne
 obtain ⟨es, cl, hm⟩ := h8.blk
 refine ⟨?_, (blk_cell (blk_far h3 (far h3 (by decide)) _) 3).trans rfl⟩
 refine ⟨⟨h0.setCell hg _, h1, h2, ⟨vL, vA, _, vC, blk_far h3 (far h3 (by decide)) _, Kd.R_set h4 hcL (by decide) _ _, Kd.R_set h5 hcL (by decide) _ _, hp, Kd.R_far h7 (fun k hk e => hk.1 (by rw [e]; rfl)) _⟩, h8.keep (Below.heap_setCell _ _ _ _ (by rintro rfl; rw [hcL] at hm; cases hm))⟩, blk_far hc (far hc (by decide)) _, blk_far hz (far hz (by decide)) _, blk_far ht (far ht (by decide)) _, Kd.R_far hT (fun k hk => by rw [hk]; exact fun e => hok.2 e.symm) _⟩
theorem StT.con (h : StT w W bb bm bt gt N cap cc ins L gs bads cons T) (i : Nat) (hi : i < cons.length) : ∃ g c u, W.cell? ⟨bb, 4, none⟩ = some (.slice (some ⟨g, 0, none⟩) cons.length c) ∧ W.cell? ⟨g, i, none⟩ = some u ∧ W.frozen? ⟨g, i, none⟩ = false ∧ ∀ x, StT w (W.setCell ⟨g, i, none⟩ (.int .i64 x)) bb bm bt gt N cap cc ins L gs bads (cons.set i x) T ∧ (W.setCell ⟨g, i, none⟩ (.int .i64 x)).cell? ⟨bb, 4, none⟩ = some (.slice (some ⟨g, 0, none⟩) cons.length c) := by
 obtain ⟨⟨h0, h1, h2, ⟨vL, vA, vB, vC, h3, h4, h5, h6, h7⟩, h8⟩, hc, hz, ht, hT⟩ := h
 obtain ⟨g, c, rfl, hg, hlt, cL, hcL⟩ := Kd.R_form h7 (by omega)
 have hok := h7.1 g rfl
 have hu := Kd.R_celln (0 : Int) h7 (i : Int) (by omega) (by omega)
 rw [Int.toNat_natCast] at hu
 refine ⟨g, c, _, (blk_cell h3 4).trans rfl, hu.1, hu.2, fun x => ?_⟩
 have hp := Kd.R_putn h7 (i : Int) x
 rw [Int.toNat_natCast] at hp
 have far : ∀ {k : Nat} {cs : Array Value} {t : TypeId}, W.heap[k]? = some (.cells cs t (0, 0)) → t ≠ 3 → k ≠ g := fun hk ne => blkN_ty hk hcL ne
 obtain ⟨es, cl, hm⟩ := h8.blk
 refine ⟨?_, (blk_cell (blk_far h3 (far h3 (by decide)) _) 4).trans rfl⟩
 refine ⟨⟨h0.setCell hg _, h1, h2, ⟨vL, vA, vB, _, blk_far h3 (far h3 (by decide)) _, Kd.R_set h4 hcL (by decide) _ _, Kd.R_set h5 hcL (by decide) _ _, Kd.R_far h6 (fun k hk e => hk.1 (by rw [e]; rfl)) _, hp⟩, h8.keep (Below.heap_setCell _ _ _ _ (by rintro rfl; rw [hcL] at hm; cases hm))⟩, blk_far hc (far hc (by decide)) _, blk_far hz (far hz (by decide)) _, blk_far ht (far ht (by decide)) _, Kd.R_far hT (fun k hk => by rw [hk]; exact fun e => hok.2 e.symm) _⟩
end
theorem h_bxor0 (a : Int) (h0 : 0 ≤ a) (h1 : a < 9223372036854775807) : Go.bits .xor .i64 a 0 = a := by
 obtain ⟨n, rfl⟩ := Int.eq_ofNat_of_zero_le h0
 have := h_bxor n 0 (by omega) (by omega) (by rw [Nat.xor_zero]; omega)
 rw [show ((0 : Nat) : Int) = 0 from rfl] at this
 rw [this, Nat.xor_zero]
theorem h_band1 (a : Int) (h0 : 0 ≤ a) (h1 : a < 9223372036854775807) : Go.bits .and .i64 a 1 = a % 2 := by
 have := bits_mask .i64 63 (by decide) (fun n h h' => by rw [IntKind.wrap_i64]; omega) 1 (by decide) a h0 (by omega)
 simpa using this
theorem sgnP_eq (T : List Int) (l : Int) (h0 : 0 ≤ l) (h1 : l ≤ 1000000000) (t0 : 0 ≤ rd T (l / 2)) (t1 : rd T (l / 2) ≤ 1000000000) : sgnP T l = if l % 2 = 0 then rd T (l / 2) else notH (rd T (l / 2)) := by
 unfold sgnP
 rw [h_band1 l h0 (by omega)]
 rcases (show l % 2 = 0 ∨ l % 2 = 1 by omega) with e | e
 ·rw [e, if_pos rfl, h_bxor0 _ t0 (by omega)]
 ·rw [e, if_neg (by decide), h_bxor1 _ t0 (by omega)]
def Lits0 (T : List Int) : Prop := ∀ t ∈ T, 0 ≤ t ∧ t ≤ 200001
theorem rd_mem (T : List Int) (i : Int) (h0 : 0 ≤ i) (h1 : i < T.length) : rd T i ∈ T := by
 obtain ⟨n, rfl⟩ := Int.eq_ofNat_of_zero_le h0
 have hn : n < T.length := by omega
 have : rd T (n : Int) = T[n] := by simp [rd, List.getD, hn]
 rw [this]; exact List.getElem_mem hn
theorem sgnP_bd {T : List Int} (hT : Lits0 T) (l : Int) (h0 : 0 ≤ l) (h1 : l / 2 < T.length) (h2 : l ≤ 1000000000) : 0 ≤ sgnP T l ∧ sgnP T l ≤ 200001 := by
 obtain ⟨a, b⟩ := hT _ (rd_mem T (l / 2) (by omega) h1)
 rw [sgnP_eq T l h0 h2 a (by omega), notH]
 split
 ·exact ⟨a, b⟩
 ·split <;> omega
theorem rd_left (T Z : List Int) (i : Int) (h0 : 0 ≤ i) (h1 : i < T.length) : rd (T ++ Z) i = rd T i := by
 obtain ⟨n, rfl⟩ := Int.eq_ofNat_of_zero_le h0
 have hn : n < T.length := by omega
 simp [rd, List.getD, List.getElem?_append_left hn]
theorem sgnP_left (T Z : List Int) (l : Int) (h0 : 0 ≤ l) (h1 : l / 2 < T.length) : sgnP (T ++ Z) l = sgnP T l := by
 unfold sgnP
 rw [rd_left T Z _ (by omega) h1]
def stepB (first : Int) (ands : List S69) (given : List Int) (s : List S69 × List Int) : List S69 × List Int :=
 if 0 ≤ rd given (s.2.length : Int) then (s.1, s.2 ++ [sgnP s.2 (rd given (s.2.length : Int))])
 else if (s.2.length : Int) < first then (s.1, s.2 ++ [2 * (s.2.length : Int)])
 else ((andP first s.1 (sgnP s.2 (rd_T69 ands ((s.2.length : Int) - first)).f0) (sgnP s.2 (rd_T69 ands ((s.2.length : Int) - first)).f1)).1, s.2 ++ [(andP first s.1 (sgnP s.2 (rd_T69 ands ((s.2.length : Int) - first)).f0) (sgnP s.2 (rd_T69 ands ((s.2.length : Int) - first)).f1)).2])
def runB (first : Int) (ands : List S69) (given : List Int) : Nat → List S69 × List Int
 | 0 => ([], [])
 | k + 1 => stepB first ands given (runB first ands given k)
theorem stepB_len (first : Int) (ands : List S69) (given : List Int) (s : List S69 × List Int) : (stepB first ands given s).2.length = s.2.length + 1 ∧ (stepB first ands given s).1.length ≤ s.1.length + 1 := by
 unfold stepB
 split
 ·simp
 ·split
  ·simp
  ·exact ⟨by simp, andP_len _ _ _ _⟩
theorem runB_len (first : Int) (ands : List S69) (given : List Int) (k : Nat) : (runB first ands given k).2.length = k ∧ (runB first ands given k).1.length ≤ k := by
 induction k with
 | zero => exact ⟨rfl, Nat.le_refl _⟩
 | succ k ih =>
  have := stepB_len first ands given (runB first ands given k)
  exact ⟨by rw [runB, this.1, ih.1], by rw [runB]; omega⟩
theorem andP_bd {first : Int} {gs : List S69} {x y : Int} (hf : 0 ≤ first) (hB : 2 * (first + (gs.length : Int)) ≤ 200001) (hx : 0 ≤ x ∧ x ≤ 200001) (hy : 0 ≤ y ∧ y ≤ 200001) : 0 ≤ (andP first gs x y).2 ∧ (andP first gs x y).2 ≤ 200001 := by
 unfold andP
 split
 ·exact ⟨by simp, by simp⟩
 ·split
  ·exact hy
  ·split
   ·exact hx
   ·split
    ·rename_i v hv
     unfold findG at hv
     obtain ⟨i, hi, rfl⟩ := Option.map_eq_some_iff.1 hv
     obtain ⟨hlt, _⟩ := List.findIdx?_eq_some_iff_getElem.1 hi
     dsimp only
     omega
    ·dsimp only
     omega
def okA (first : Int) (ands : List S69) : Bool := (List.range ands.length).all fun i => decide (0 ≤ (rd_T69 ands (i : Int)).f0 ∧ (rd_T69 ands (i : Int)).f0 / 2 < first + (i : Int) ∧ 0 ≤ (rd_T69 ands (i : Int)).f1 ∧ (rd_T69 ands (i : Int)).f1 / 2 < first + (i : Int))
theorem okA_at {first : Int} {ands : List S69} (h : okA first ands = true) (i : Nat) (hi : i < ands.length) : 0 ≤ (rd_T69 ands (i : Int)).f0 ∧ (rd_T69 ands (i : Int)).f0 / 2 < first + (i : Int) ∧ 0 ≤ (rd_T69 ands (i : Int)).f1 ∧ (rd_T69 ands (i : Int)).f1 / 2 < first + (i : Int) :=
 of_decide_eq_true (List.all_eq_true.1 h i (List.mem_range.2 hi))
def badG (ins : Int) (given : List Int) (v : Nat) : Bool := decide (rd given (v : Int) < -1) || decide (2 * (v : Int) ≤ rd given (v : Int)) || (decide (0 ≤ rd given (v : Int)) && decide ((v : Int) ≤ ins))
theorem badG_not {ins : Int} {given : List Int} {v : Nat} (h : badG ins given v = false) (h0 : 0 ≤ rd given (v : Int)) : rd given (v : Int) < 2 * (v : Int) := by
 unfold badG at h
 rw [Bool.or_eq_false_iff, Bool.or_eq_false_iff, decide_eq_false_iff_not, decide_eq_false_iff_not] at h
 omega
theorem runB_bd {first : Int} {ands : List S69} {given : List Int} {ins : Int} (hf : 0 ≤ first) (hf2 : first ≤ 30000) (ha : okA first ands = true) (hg : ∀ v : Nat, v < given.length → badG ins given v = false) (N : Nat) (hN : (N : Int) = first + ands.length) (hgl : given.length = N) (hN2 : N ≤ 60000) (k : Nat) (hk : k ≤ N) : Lits0 (runB first ands given k).2 := by
 induction k with
 | zero => intro t ht; simp [runB] at ht
 | succ k ih =>
  have ih := ih (by omega)
  obtain ⟨l1, l2⟩ := runB_len first ands given k
  rw [runB]
  unfold stepB
  rw [l1]
  have add : ∀ x, 0 ≤ x ∧ x ≤ 200001 → Lits0 ((runB first ands given k).2 ++ [x]) := fun x hx t ht => by
   rcases List.mem_append.1 ht with h | h
   ·exact ih t h
   ·rw [List.mem_singleton.1 h]; exact hx
  split
  ·rename_i h
   have := badG_not (hg k (by omega)) h
   exact add _ (sgnP_bd ih _ h (by rw [l1]; omega) (by omega))
  ·split
   ·exact add _ (by omega)
   ·rename_i h h2
    obtain ⟨i, hi⟩ : ∃ i : Nat, (k : Int) - first = (i : Int) := ⟨((k : Int) - first).toNat, by omega⟩
    rw [hi]
    obtain ⟨a1, a2, a3, a4⟩ := okA_at ha i (by omega)
    exact add _ (andP_bd hf (by omega) (sgnP_bd ih _ a1 (by rw [l1]; omega) (by omega)) (sgnP_bd ih _ a3 (by rw [l1]; omega) (by omega)))
theorem StK.bound {w W : World} {bb bm : Nat} {ins : Int} {L : List S36} {gs : List S69} {bads cons : List Int} {n : Nat} {f : Int → Int → Option Int} {P : Nat → Prop} (h : StK P w W bb bm ins L gs bads cons n f) {Q : Nat → Prop} (hQ : ∀ k, k < W.heap.size → Q k) : StK Q w W bb bm ins L gs bads cons n f := by
 obtain ⟨h0, h1, h2, ⟨vL, vA, vB, vC, h3, h4, h5, h6, h7⟩, h8⟩ := h
 exact ⟨h0, h1, h2, ⟨vL, vA, vB, vC, h3, h4, h5, Kd.R_mono (Kd.R_bound h6) (fun k hk => ⟨hk.1.1, hQ k hk.2.2.1⟩), Kd.R_mono (Kd.R_bound h7) (fun k hk => ⟨hk.1.1, hQ k hk.2.2.1⟩)⟩, h8⟩
theorem mix_get {α : Type} (f : α → α) (l : List α) (i : Nat) (h : i < l.length) : ((l.take i).map f ++ l.drop i)[i]? = some l[i] := by
 rw [List.getElem?_append_right (by simp [List.length_take]; omega), List.length_map, List.length_take, Nat.min_eq_left (by omega), Nat.sub_self, List.getElem?_drop]
 simp [h]
theorem mix_len {α : Type} (f : α → α) (l : List α) (i : Nat) (h : i ≤ l.length) : ((l.take i).map f ++ l.drop i).length = l.length := by
 simp [List.length_take]; omega
theorem mix_set {α : Type} (f : α → α) (l : List α) (i : Nat) (h : i < l.length) : ((l.take i).map f ++ l.drop i).set i (f l[i]) = (l.take (i + 1)).map f ++ l.drop (i + 1) := by
 have hl : ((l.take i).map f).length = i := by simp [List.length_take]; omega
 rw [List.set_append_right _ _ (by omega), hl, Nat.sub_self, List.drop_eq_getElem_cons h, List.set_cons_zero, List.take_succ_eq_append_getElem h, List.map_append, List.append_assoc]
 rfl
theorem told_set (T : List Int) (k N : Nat) (hT : T.length = k) (hk : k < N) (x : Int) : (T ++ List.replicate (N - k) 0).set k x = (T ++ [x]) ++ List.replicate (N - (k + 1)) 0 := by
 subst hT
 rw [List.set_append_right _ _ (Nat.le_refl _), Nat.sub_self, show N - T.length = (N - (T.length + 1)) + 1 by omega, List.replicate_succ, List.set_cons_zero, List.append_assoc]
 rfl
theorem StT.start {w w2 w3 : World} {bb bm gt N cap : Nat} {cc : Array Value} {ins : Int} {L : List S36} {bads cons T : List Int} (hS : StH (fun k => k < w2.heap.size) w w3 bb bm ins L [] bads cons) (hw : w.heap.size ≤ w2.heap.size)
  (hc : w3.heap[w.heap.size]? = some (.cells cc 26 (0, 0))) (hz : w3.heap[w.heap.size + 1]? = some (.cells #[.int .i64 0, .slice none 0 0, .slice none 0 0, .slice none 0 0, .slice none 0 0] 26 (0, 0)))
  (hT : Kd.R (Kd.int .i64) 3 w3 w2.heap.size (fun _ => True) (.slice (some ⟨gt, 0, none⟩) N cap) T) : StT w (w3.alloc (.cells #[.slice (some ⟨gt, 0, none⟩) N cap] 24)) bb bm w3.heap.size gt N cap cc ins L [] bads cons T := by
 have hge : w2.heap.size ≤ gt := Kd.R_base hT gt rfl
 have hS' := StK.bound (Q := fun k => k ≠ gt) (P := fun k => k < w2.heap.size) hS
 obtain ⟨h0, h1, h2, ⟨vL, vA, vB, vC, h3, h4, h5, h6, h7⟩, h8⟩ := hS
 have hb := below_alloc (Below.refl w3.heap.size w3) (.cells #[.slice (some ⟨gt, 0, none⟩) N cap] 24)
 refine ⟨StK.below ⟨h0, h1, h2, ⟨vL, vA, vB, vC, h3, h4, h5, Kd.R_mono h6 (fun k hk => ⟨hk.1, by have := hk.2; omega⟩), Kd.R_mono h7 (fun k hk => ⟨hk.1, by have := hk.2; omega⟩)⟩, h8⟩ hb, blk_below hc hb, blk_below hz hb, heap_alloc_new _ _, ?_⟩
 exact Kd.R_below (Kd.R_lower (Kd.R_flat (fun h => h) hT (fun k hk _ => by simpa [Value.ownBlock] using hk.symm)) hw) hb
section
variable {w W : World} {bb bm bt gt N cap : Nat} {cc : Array Value} {ins : Int} {L : List S36} {gs : List S69} {bads cons T : List Int}
theorem StT.latchAt (h : StT w W bb bm bt gt N cap cc ins L gs bads cons T) (i : Nat) (hi : i < L.length) {g c n : Nat} (hc : W.cell? ⟨bb, 1, none⟩ = some (.slice (some ⟨g, 0, none⟩) n c)) : ∃ u, W.cell? ⟨g, i * 2, none⟩ = some u ∧ W.frozen? ⟨g, i * 2, none⟩ = false ∧ ∀ x, StT w (W.setCell ⟨g, i * 2, none⟩ (.int .i64 x)) bb bm bt gt N cap cc ins (L.set i ⟨x, (L[i]).f1⟩) gs bads cons T ∧ (W.setCell ⟨g, i * 2, none⟩ (.int .i64 x)).cell? ⟨bb, 1, none⟩ = some (.slice (some ⟨g, 0, none⟩) n c) := by
 obtain ⟨g', c', u, z1, z2⟩ := h.latch i hi
 have e := z1.symm.trans hc
 simp only [Option.some.injEq, Value.slice.injEq, Addr.mk.injEq] at e
 obtain ⟨⟨rfl, -⟩, rfl, rfl⟩ := e
 exact ⟨u, z2⟩
theorem StT.badAt (h : StT w W bb bm bt gt N cap cc ins L gs bads cons T) (i : Nat) (hi : i < bads.length) {g c n : Nat} (hc : W.cell? ⟨bb, 3, none⟩ = some (.slice (some ⟨g, 0, none⟩) n c)) : ∃ u, W.cell? ⟨g, i, none⟩ = some u ∧ W.frozen? ⟨g, i, none⟩ = false ∧ ∀ x, StT w (W.setCell ⟨g, i, none⟩ (.int .i64 x)) bb bm bt gt N cap cc ins L gs (bads.set i x) cons T ∧ (W.setCell ⟨g, i, none⟩ (.int .i64 x)).cell? ⟨bb, 3, none⟩ = some (.slice (some ⟨g, 0, none⟩) n c) := by
 obtain ⟨g', c', u, z1, z2⟩ := h.bad i hi
 have e := z1.symm.trans hc
 simp only [Option.some.injEq, Value.slice.injEq, Addr.mk.injEq] at e
 obtain ⟨⟨rfl, -⟩, rfl, rfl⟩ := e
 exact ⟨u, z2⟩
theorem StT.conAt (h : StT w W bb bm bt gt N cap cc ins L gs bads cons T) (i : Nat) (hi : i < cons.length) {g c n : Nat} (hc : W.cell? ⟨bb, 4, none⟩ = some (.slice (some ⟨g, 0, none⟩) n c)) : ∃ u, W.cell? ⟨g, i, none⟩ = some u ∧ W.frozen? ⟨g, i, none⟩ = false ∧ ∀ x, StT w (W.setCell ⟨g, i, none⟩ (.int .i64 x)) bb bm bt gt N cap cc ins L gs bads (cons.set i x) T ∧ (W.setCell ⟨g, i, none⟩ (.int .i64 x)).cell? ⟨bb, 4, none⟩ = some (.slice (some ⟨g, 0, none⟩) n c) := by
 obtain ⟨g', c', u, z1, z2⟩ := h.con i hi
 have e := z1.symm.trans hc
 simp only [Option.some.injEq, Value.slice.injEq, Addr.mk.injEq] at e
 obtain ⟨⟨rfl, -⟩, rfl, rfl⟩ := e
 exact ⟨u, z2⟩
theorem StT.cell1 (h : StT w W bb bm bt gt N cap cc ins L gs bads cons T) : ∃ A c, W.cell? ⟨bb, 1, none⟩ = some (.slice A L.length c) := by
 obtain ⟨AL, cL, AA, cA, AB, cB, AC, cC, h3, -⟩ := h.hS.cells
 exact ⟨AL, cL, (blk_cell h3 1).trans rfl⟩
end
theorem mixL_set (T : List Int) (L : List S36) (k : Nat) (h : k < L.length) (p : Int) (hp : (L[k]).f0 = p) (h2 : k < ((L.take k).map (fun x : S36 => (⟨sgnP T x.f0, x.f1⟩ : S36)) ++ L.drop k).length) :
  ((L.take k).map (fun x : S36 => (⟨sgnP T x.f0, x.f1⟩ : S36)) ++ L.drop k).set k ⟨sgnP T p, (((L.take k).map (fun x : S36 => (⟨sgnP T x.f0, x.f1⟩ : S36)) ++ L.drop k)[k]).f1⟩ = (L.take (k + 1)).map (fun x : S36 => (⟨sgnP T x.f0, x.f1⟩ : S36)) ++ L.drop (k + 1) := by
 have e : ((L.take k).map (fun x : S36 => (⟨sgnP T x.f0, x.f1⟩ : S36)) ++ L.drop k)[k] = L[k] := by
  have := mix_get (fun x : S36 => (⟨sgnP T x.f0, x.f1⟩ : S36)) L k h
  rw [List.getElem?_eq_getElem h2] at this
  exact Option.some.inj this
 rw [e, ← hp, ← mix_set _ L k h]
def okC (a0_0 : Int) (l0_1 : List S36) (l0_2 : List S69) (l0_3 l0_4 l1 : List Int) : Bool :=
 okH a0_0 l0_1 l0_2 l0_3 l0_4 && okA (a0_0 + (l0_1.length : Int) + 1) l0_2 && decide (l1.length ≤ 60000) && l0_1.all (fun x => decide (0 ≤ x.f0 ∧ x.f0 / 2 ≤ a0_0 + (l0_1.length : Int) + (l0_2.length : Int))) && l0_3.all (fun x => decide (0 ≤ x ∧ x / 2 ≤ a0_0 + (l0_1.length : Int) + (l0_2.length : Int))) && l0_4.all (fun x => decide (0 ≤ x ∧ x / 2 ≤ a0_0 + (l0_1.length : Int) + (l0_2.length : Int)))
def builtP (a0_0 : Int) (l0_1 : List S36) (l0_2 : List S69) (l1 : List Int) : List S69 × List Int := runB (a0_0 + (l0_1.length : Int) + 1) l0_2 l1 l1.length
def hash_Build.f (a0_0 : Int) (l0_1 : List S36) (l0_2 : List S69) (l0_3 : List Int) (l0_4 : List Int) (l1 : List Int) : Option (Int × (List (S36)) × (List (S69)) × List Int × List Int × List Int × Int) :=
 (gates_Vars.f a0_0 l0_1 l0_2 l0_3 l0_4).bind fun p => if p.2 = 0 then
  (if okC a0_0 l0_1 l0_2 l0_3 l0_4 l1 = true ∧ p.1 = a0_0 + (l0_1.length : Int) + (l0_2.length : Int) then
   (if (l1.length : Int) ≠ p.1 + 1 ∨ (List.range l1.length).any (badG a0_0 l1) = true then some (0, [], [], [], [], [], 2)
    else some (a0_0, l0_1.map (fun x => ⟨sgnP (builtP a0_0 l0_1 l0_2 l1).2 x.f0, x.f1⟩), (builtP a0_0 l0_1 l0_2 l1).1, l0_3.map (sgnP (builtP a0_0 l0_1 l0_2 l1).2), l0_4.map (sgnP (builtP a0_0 l0_1 l0_2 l1).2), (builtP a0_0 l0_1 l0_2 l1).2, 0)) else none)
  else some (0, [], [], [], [], [], p.2)
set_option maxHeartbeats 8000000 in
set_option maxRecDepth 100000 in
theorem build_main (a0_0 : Int) (A0_1 : Option Addr) (c0_1 : Nat) (l0_1 : List S36) (A0_2 : Option Addr) (c0_2 : Nat) (l0_2 : List S69) (A0_3 : Option Addr) (c0_3 : Nat) (l0_3 : List Int) (A0_4 : Option Addr) (c0_4 : Nat) (l0_4 : List Int) (A1 : Option Addr) (c1 : Nat) (l1 : List Int) (N : Nat) (w : World) (hr0_1 : Kd.C k36 w A0_1 l0_1.length l0_1) (hc0_1 : l0_1.length ≤ c0_1) (hr0_2 : Kd.C k69 w A0_2 l0_2.length l0_2) (hc0_2 : l0_2.length ≤ c0_2) (hr0_3 : Kd.C (Kd.int .i64) w A0_3 l0_3.length l0_3) (hc0_3 : l0_3.length ≤ c0_3) (hr0_4 : Kd.C (Kd.int .i64) w A0_4 l0_4.length l0_4) (hc0_4 : l0_4.length ≤ c0_4) (hr1 : Kd.C (Kd.int .i64) w A1 l1.length l1) (hc1 : l1.length ≤ c1)
  (hv : gates_Vars.f a0_0 l0_1 l0_2 l0_3 l0_4 = some (a0_0 + (l0_1.length : Int) + (l0_2.length : Int), 0)) (hok : okC a0_0 l0_1 l0_2 l0_3 l0_4 l1 = true) (hN : (N : Int) = a0_0 + (l0_1.length : Int) + (l0_2.length : Int) + 1) (hl : l1.length = N) (hg : ∀ v : Nat, v < l1.length → badG a0_0 l1 v = false) :
  Calls Try.prog 56 #[.agg #[.int .i64 a0_0, .slice A0_1 l0_1.length c0_1, .slice A0_2 l0_2.length c0_2, .slice A0_3 l0_3.length c0_3, .slice A0_4 l0_4.length c0_4], .slice A1 l1.length c1] w fun e w' => ∃ v1_ v2_ v3_ v4_ v5_ : Value, e = .returned (.tuple #[.agg #[.int .i64 a0_0, v1_, v2_, v3_, v4_], v5_, .int .i64 0]) ∧ Kd.R k36 36 w' w.heap.size (fun _ => True) v1_ (l0_1.map (fun x => ⟨sgnP (builtP a0_0 l0_1 l0_2 l1).2 x.f0, x.f1⟩)) ∧ Kd.R k69 69 w' w.heap.size (fun _ => True) v2_ (builtP a0_0 l0_1 l0_2 l1).1 ∧ Kd.R (Kd.int .i64) 3 w' w.heap.size (fun k_ => some k_ ≠ (v4_ : Value).ownBlock ∧ some k_ ≠ (v5_ : Value).ownBlock) v3_ (l0_3.map (sgnP (builtP a0_0 l0_1 l0_2 l1).2)) ∧ Kd.R (Kd.int .i64) 3 w' w.heap.size (fun k_ => some k_ ≠ (v3_ : Value).ownBlock ∧ some k_ ≠ (v5_ : Value).ownBlock) v4_ (l0_4.map (sgnP (builtP a0_0 l0_1 l0_2 l1).2)) ∧ Kd.R (Kd.int .i64) 3 w' w.heap.size (fun k_ => some k_ ≠ (v3_ : Value).ownBlock ∧ some k_ ≠ (v4_ : Value).ownBlock) v5_ (builtP a0_0 l0_1 l0_2 l1).2 ∧ Below w.heap.size w w' := by
 have hu26 := Try.underlying26
 have hu138 := Try.underlying138
 subst hl
 unfold okC okH at hok
 simp only [Bool.and_eq_true, decide_eq_true_eq, List.all_eq_true] at hok
 obtain ⟨⟨⟨⟨⟨⟨⟨k0, k1, k2, k3, k4, k5⟩, kg⟩, kA⟩, kN⟩, kL⟩, kB⟩, kC⟩ := hok
 have HR0_1 := M_ hr0_1
 have HR0_2 := M_ hr0_2
 have HR0_3 := M_ hr0_3
 have HR0_4 := M_ hr0_4
 have HR1 := M_ hr1
 have HC0_1 := M_ hc0_1
 have HC0_2 := M_ hc0_2
 have HC0_3 := M_ hc0_3
 have HC0_4 := M_ hc0_4
 have HC1 := M_ hc1
 have HF := M_ (show 0 ≤ a0_0 ∧ a0_0 ≤ 10000 ∧ l0_1.length ≤ 10000 ∧ l0_2.length ≤ 10000 ∧ l0_3.length ≤ 10000 ∧ l0_4.length ≤ 10000 from ⟨k0, k1, k2, k3, k4, k5⟩)
 have HFew := M_ (show Few a0_0 l0_1 [] l0_3 l0_4 from ⟨k0, by omega, by omega, by simp, by omega, by omega⟩)
 have HA := M_ kA
 have HLb := M_ kL
 have HBb := M_ kB
 have HCb := M_ kC
 have HV := M_ hv
 have HN := M_ hN
 have HG := M_ hg
 have HB0 := M_ (below_alloc (below_alloc (Below.refl w.heap.size w) (.cells #[.int .i64 a0_0, .slice A0_1 l0_1.length c0_1, .slice A0_2 l0_2.length c0_2, .slice A0_3 l0_3.length c0_3, .slice A0_4 l0_4.length c0_4] 26)) (.cells #[.int .i64 0, .slice none 0 0, .slice none 0 0, .slice none 0 0, .slice none 0 0] 26))
 have BC0 := M_ (blk_alloc (heap_alloc_new w (.cells #[.int .i64 a0_0, .slice A0_1 l0_1.length c0_1, .slice A0_2 l0_2.length c0_2, .slice A0_3 l0_3.length c0_3, .slice A0_4 l0_4.length c0_4] 26)) (.cells #[.int .i64 0, .slice none 0 0, .slice none 0 0, .slice none 0 0, .slice none 0 0] 26))
 have BZ0 := M_ (zbox w #[.int .i64 a0_0, .slice A0_1 l0_1.length c0_1, .slice A0_2 l0_2.length c0_2, .slice A0_3 l0_3.length c0_3, .slice A0_4 l0_4.length c0_4])
 have e1 : wrap64 (a0_0 + (l0_1.length : Int) + (l0_2.length : Int) + 1) = (l1.length : Int) := by unfold wrap64; omega
 have HE1 := M_ e1
 have e2 : ((l1.length : Int) != (l1.length : Int)) = false := by simp
 clear hr0_1 hr0_2 hr0_3 hr0_4 hc0_1 hc0_2 hc0_3 hc0_4 hr1 hc1 hv k0 k1 k2 k3 k4 k5 kg kA kN kL kB kC hN hg
 go_enter Try.func56, Try.ntmps56
 go_wp2_with (go_at_call 47; (with_reducible refine (gates_Vars.calls a0_0 A0_1 c0_1 l0_1 A0_2 c0_2 l0_2 A0_3 c0_3 l0_3 A0_4 c0_4 l0_4 _ _ _ (Kd.C_below HR0_1.out HB0.out) HC0_1.out (Kd.C_below HR0_2.out HB0.out) HC0_2.out (Kd.C_below HR0_3.out HB0.out) HC0_3.out (Kd.C_below HR0_4.out HB0.out) HC0_4.out HV.out).mono ?_); rintro e w1 ⟨rfl, hb⟩; have HB := M_ (below_step HB0.out hb); have BC := M_ (blk_below BC0.out hb); have BZ := M_ (blk_below BZ0.out hb); clear hb)
 clear e2
 go_loopg [39] (l1.length + 1) (fun kq v39 w' => ∃ (i : Nat), v39 = .int .i64 (i : Int) ∧ Aside0 (i ≤ l1.length ∧ kq + i = l1.length + 1) ∧ w' = w1)
 case atStart => exact ⟨0, by simp, ⟨by omega, by omega⟩, rfl⟩
 case round =>
  obtain ⟨i, rfl, HI, rfl⟩ := hrel
  by_cases c : i < l1.length
  ·have cb : decide (i < l1.length) = true := decide_eq_true c
   obtain ⟨ad, rfl, hx⟩ := Kd.at_int (Kd.C_below HR1.out HB.out) (i : Int) (by omega) (by omega)
   have hbad := HG.out i c
   unfold badG at hbad
   rw [Bool.or_eq_false_iff, Bool.or_eq_false_iff] at hbad
   obtain ⟨⟨d1, d2⟩, d3⟩ := hbad
   have hz0 := (blk_cell BC.out 0).trans (show _ = some (.int .i64 a0_0) from rfl)
   have e3 : wrap64 (2 * (i : Int)) = 2 * (i : Int) := by have h1 := HF.out; have h3 := HN.out; unfold wrap64; omega
   have p0 : (0 : Int) ≤ (i : Int) := by omega
   have p1 : (i : Int) < (l1.length : Int) := by omega
   have HC := M_ c
   rw [Int.toNat_natCast] at hx
   cases g0 : decide (0 ≤ rd l1 (i : Int)) with
   | false =>
    clear d3
    go_wp2
    go_roundg (gk - 1)
    case rel => exact ⟨i + 1, congrArg (Value.int .i64) (show wrap64 ((i : Int) + 1) = ((i + 1 : Nat) : Int) by have h1 := HF.out; have h2 := HC.out; have h4 := HN.out; unfold wrap64; omega), ⟨by have := HC.out; omega, by have := HI.out; have := HC.out; omega⟩, rfl⟩
    case measure => have := HI.out; have := HC.out; omega
   | true =>
    rw [g0, Bool.true_and] at d3
    go_wp2
    go_roundg (gk - 1)
    case rel => exact ⟨i + 1, congrArg (Value.int .i64) (show wrap64 ((i : Int) + 1) = ((i + 1 : Nat) : Int) by have h1 := HF.out; have h2 := HC.out; have h4 := HN.out; unfold wrap64; omega), ⟨by have := HC.out; omega, by have := HI.out; have := HC.out; omega⟩, rfl⟩
    case measure => have := HI.out; have := HC.out; omega
  ·have cb : decide (i < l1.length) = false := decide_eq_false c
   clear HI c
   have x0 := (blk_cell BC.out 0).trans (show _ = some (.int .i64 a0_0) from rfl)
   have x1 := (blk_cell BC.out 1).trans (show _ = some (.slice A0_1 l0_1.length c0_1) from rfl)
   have x2 := (blk_cell BC.out 2).trans (show _ = some (.slice A0_2 l0_2.length c0_2) from rfl)
   have x3 := (blk_cell BC.out 3).trans (show _ = some (.slice A0_3 l0_3.length c0_3) from rfl)
   have x4 := (blk_cell BC.out 4).trans (show _ = some (.slice A0_4 l0_4.length c0_4) from rfl)
   have ef : wrap64 (a0_0 + (l0_1.length : Int)) = a0_0 + (l0_1.length : Int) := by have := HF.out; unfold wrap64; omega
   have ef2 : wrap64 (a0_0 + (l0_1.length : Int) + 1) = a0_0 + (l0_1.length : Int) + 1 := by have := HF.out; unfold wrap64; omega
   go_upto_block 2 with (first
    | (go_at_call 85; (refine (begin_calls a0_0 A0_1 c0_1 l0_1 none 0 [] A0_3 c0_3 l0_3 A0_4 c0_4 l0_4 _ (Kd.C_below HR0_1.out (below_alloc HB.out _)) HC0_1.out (Kd.C_nil _ _) (Nat.le_refl _) (Kd.C_below HR0_3.out (below_alloc HB.out _)) HC0_3.out (Kd.C_below HR0_4.out (below_alloc HB.out _)) HC0_4.out HFew.out (fun g hg => absurd hg (by simp))).mono ?_); rintro e w2 ⟨bb, bm, rfl, hS⟩; have HS2 := M_ (StK.bound (Q := fun k => k < w2.heap.size) (hS.lower (below_alloc HB.out _)) (fun _ hk => hk)); have HLW := M_ hS.hb.size; have BC2 := M_ (blk_below (blk_alloc BC.out _) hS.hb); have BZ2 := M_ (blk_below (blk_alloc BZ.out _) hS.hb); have x0 := (blk_cell BC2.out 0).trans (show _ = some (.int .i64 a0_0) from rfl); have x1 := (blk_cell BC2.out 1).trans (show _ = some (.slice A0_1 l0_1.length c0_1) from rfl); clear hS)
    | ((with_reducible refine gate_dst (N := 70) rfl ?_); go_loud (refine Kd.R_make (Kd.int .i64) _ 3 rfl (N := 70) rfl 24 _ _ rfl _ rfl rfl Try.underlying24 (.int .i64 0) 8 info3 rfl (by decide) (by omega) (0 : Int) (ok := fun _ => True) (okp := fun _ => True) rfl (fun _ hk => hk) trivial ?mA ?mB (Below.refl _ _) (Nat.le_refl _) ?_; (case mA => rw [HE1.out]; exact Int.natCast_nonneg _); (case mB => rw [HE1.out]; have h1 := HF.out; have h2 := HN.out; omega); intro v3 w3 ho hb hg_ hnew_; clear hg_ hnew_; rw [HE1.out, Int.toNat_natCast] at ho; obtain ⟨gt, ct, e3, hge3, -, -⟩ := Kd.R_form ho (by rw [List.length_replicate]; have h2 := HN.out; have h1 := HF.out; omega); rw [List.length_replicate] at e3; subst e3; have HS3 := M_ (HS2.out.below hb); have BC3 := M_ (blk_below BC2.out hb); have BZ3 := M_ (blk_below BZ2.out hb); have HT := M_ (StT.start (HS2.out.below hb) (Nat.le_trans (below_size (below_alloc HB.out _)) (Nat.le_trans HLW.out (Nat.le_refl _))) BC3.out BZ3.out ho); have yt := (blk_cell HT.out.ht 0).trans (show _ = some (.slice (some ⟨gt, 0, none⟩) l1.length ct) from rfl); have y0 := (blk_cell HT.out.hc 0).trans (show _ = some (.int .i64 a0_0) from rfl); have y1 := (blk_cell HT.out.hc 1).trans (show _ = some (.slice A0_1 l0_1.length c0_1) from rfl); clear ho hb hge3)))
   simp only [ef2]
   clear HS3 BC3 BZ3 BC2 BZ2 HS2 HLW BC BZ HB x2 x3 x4
   go_cut [] (fun wx => Aside0 (StT w wx bb bm w3.heap.size gt l1.length ct #[.int .i64 a0_0, .slice A0_1 l0_1.length c0_1, .slice A0_2 l0_2.length c0_2, .slice A0_3 l0_3.length c0_3, .slice A0_4 l0_4.length c0_4] a0_0 l0_1 (builtP a0_0 l0_1 l0_2 l1).1 l0_3 l0_4 (builtP a0_0 l0_1 l0_2 l1).2))
   case first =>
    clear y0 y1 yt ef ef2 e1
    go_wp2
    go_loopg [81] (l1.length + 1) (fun kq v81 w' => ∃ (k : Nat), v81 = .int .i64 (k : Int) ∧ Aside0 (k ≤ l1.length ∧ kq + k = l1.length + 1) ∧ Aside0 (StT w w' bb bm w3.heap.size gt l1.length ct #[.int .i64 a0_0, .slice A0_1 l0_1.length c0_1, .slice A0_2 l0_2.length c0_2, .slice A0_3 l0_3.length c0_3, .slice A0_4 l0_4.length c0_4] a0_0 l0_1 (runB (a0_0 + (l0_1.length : Int) + 1) l0_2 l1 k).1 l0_3 l0_4 ((runB (a0_0 + (l0_1.length : Int) + 1) l0_2 l1 k).2 ++ List.replicate (l1.length - k) 0)))
    case atStart => exact ⟨0, by simp, ⟨by omega, by omega⟩, ⟨by simpa [runB] using HT.out⟩⟩
    case round =>
     clear HT
     obtain ⟨k, rfl, HI, HT⟩ := hrel
     by_cases c : k < l1.length
     ·have cb : decide (k < l1.length) = true := decide_eq_true c
      have HC := M_ c
      obtain ⟨ad, rfl, hx0⟩ := Kd.at_int HR1.out (k : Int) (by omega) (by omega)
      rw [Int.toNat_natCast] at hx0
      have hx := pw_cell_below HT.out.hS.hb hx0
      have HX0 := M_ hx0
      clear hx0
      obtain ⟨t1, t2⟩ := runB_len (a0_0 + (l0_1.length : Int) + 1) l0_2 l1 k
      have HTL := M_ (And.intro t1 t2)
      have HBD := M_ (runB_bd (ins := a0_0) (by have := HF.out; omega) (by have := HF.out; omega) HA.out HG.out l1.length (by have := HN.out; omega) rfl (by have := HF.out; have := HN.out; omega) k (Nat.le_of_lt c))
      have HTS := M_ (fun x => told_set (runB (a0_0 + (l0_1.length : Int) + 1) l0_2 l1 k).2 k l1.length t1 c x)
      have HGK := M_ (fun h => badG_not (HG.out k c) h)
      have yt := (blk_cell HT.out.ht 0).trans (show _ = some (.slice (some ⟨gt, 0, none⟩) l1.length ct) from rfl)
      have p0 : (0 : Int) ≤ (k : Int) := by omega
      have p1 : (k : Int) < (l1.length : Int) := by omega
      clear t1 t2
      cases g0 : decide (0 ≤ rd l1 (k : Int)) with
      | true =>
       have h0 := of_decide_eq_true g0
       have hstep : runB (a0_0 + (l0_1.length : Int) + 1) l0_2 l1 (k + 1) = ((runB (a0_0 + (l0_1.length : Int) + 1) l0_2 l1 k).1, (runB (a0_0 + (l0_1.length : Int) + 1) l0_2 l1 k).2 ++ [sgnP (runB (a0_0 + (l0_1.length : Int) + 1) l0_2 l1 k).2 (rd l1 (k : Int))]) := by
        rw [runB, stepB, HTL.out.1, if_pos h0]
       have hlt := HGK.out h0
       have HGV := M_ (show 0 ≤ rd l1 (k : Int) ∧ rd l1 (k : Int) / 2 < (l1.length : Int) ∧ rd l1 (k : Int) ≤ 1000000000 by have h1 := HF.out; have h2 := HN.out; omega)
       have HSL := M_ (sgnP_left (runB (a0_0 + (l0_1.length : Int) + 1) l0_2 l1 k).2 (List.replicate (l1.length - k) 0) (rd l1 (k : Int)) h0 (by rw [HTL.out.1]; omega))
       have HSTEP := M_ hstep
       clear hstep hlt h0 HGK
       go_upto_region 23 with fail
       have HX := M_ (HT.out.below (below_drew (Below.refl _ _)))
       go_region_held3 (fun w' => w'.cell? ⟨w3.heap.size, 0, none⟩ = some (.slice (some ⟨gt, 0, none⟩) l1.length ct) ∧ w'.cell? (ad.add k) = some (.int .i64 (rd l1 (k : Int))))
        (first | exact ⟨by assumption, by assumption⟩ | (refine ⟨?_, ?_⟩ <;> (go_simp; done)) | (refine ⟨?_, ?_⟩ <;> go_simp))
        (first
         | (go_simp; go_at_call 86; (with_reducible refine (bof_calls HX.out.ht HX.out.hT (rd l1 (k : Int)) HGV.out.1 HGV.out.2.1 HGV.out.2.2).mono ?_); rintro e w5 ⟨rfl, hb⟩; have H5 := M_ (HX.out.below hb); have yt5 := (blk_cell H5.out.ht 0).trans (show _ = some (.slice (some ⟨gt, 0, none⟩) l1.length ct) from rfl); have hx5 := pw_cell_below H5.out.hS.hb HX0.out; have H6 := M_ (H5.out.tell k HC.out (sgnP ((runB (a0_0 + (l0_1.length : Int) + 1) l0_2 l1 k).2 ++ List.replicate (l1.length - k) 0) (rd l1 (k : Int)))); have yt6 := (blk_cell H6.out.ht 0).trans (show _ = some (.slice (some ⟨gt, 0, none⟩) l1.length ct) from rfl); have hx6 := pw_cell_below H6.out.hS.hb HX0.out; have hq := Kd.R_celln (0 : Int) H5.out.hT (k : Int) p0 p1; rw [Int.toNat_natCast] at hq; have hq1 := hq.1; have hq2 := hq.2; clear hb hq; dsimp only))
       go_wp2
       go_roundg (gk - 1)
       case rel =>
        refine ⟨k + 1, congrArg (Value.int .i64) (show wrap64 ((k : Int) + 1) = ((k + 1 : Nat) : Int) by have h1 := HF.out; have h2 := HC.out; have h4 := HN.out; unfold wrap64; omega), ⟨by have := HC.out; omega, by have := HI.out; have := HC.out; omega⟩, ⟨?_⟩⟩
        have h7 := H6.out
        rw [HTS.out, HSL.out] at h7
        rw [HSTEP.out, HSL.out]
        exact h7
       case measure => have := HI.out; have := HC.out; omega
      | false =>
       have h0 := of_decide_eq_false g0
       cases gf : decide ((k : Int) < a0_0 + (l0_1.length : Int) + 1) with
       | true =>
        have hstep : runB (a0_0 + (l0_1.length : Int) + 1) l0_2 l1 (k + 1) = ((runB (a0_0 + (l0_1.length : Int) + 1) l0_2 l1 k).1, (runB (a0_0 + (l0_1.length : Int) + 1) l0_2 l1 k).2 ++ [2 * (k : Int)]) := by
         rw [runB, stepB, HTL.out.1, if_neg h0, if_pos (of_decide_eq_true gf)]
        have HSTEP := M_ hstep
        have e4 : wrap64 (2 * (k : Int)) = 2 * (k : Int) := by have h1 := HF.out; have h2 := HC.out; have h4 := HN.out; unfold wrap64; omega
        have H6 := M_ (HT.out.tell k c (2 * (k : Int)))
        have hq := Kd.R_celln (0 : Int) HT.out.hT (k : Int) p0 p1
        rw [Int.toNat_natCast] at hq
        have hq1 := hq.1
        have hq2 := hq.2
        clear hstep h0 HGK hq
        go_wp2
        go_roundg (gk - 1)
        case rel =>
         refine ⟨k + 1, congrArg (Value.int .i64) (show wrap64 ((k : Int) + 1) = ((k + 1 : Nat) : Int) by have h1 := HF.out; have h2 := HC.out; have h4 := HN.out; unfold wrap64; omega), ⟨by have := HC.out; omega, by have := HI.out; have := HC.out; omega⟩, ⟨?_⟩⟩
         have h7 := H6.out
         rw [HTS.out] at h7
         rw [HSTEP.out]
         simpa only [e4] using h7
        case measure => have := HI.out; have := HC.out; omega
       | false =>
        have hf := of_decide_eq_false gf
        obtain ⟨i', hi'⟩ : ∃ i' : Nat, (k : Int) - (a0_0 + (l0_1.length : Int) + 1) = (i' : Int) := ⟨((k : Int) - (a0_0 + (l0_1.length : Int) + 1)).toNat, by omega⟩
        have hil : i' < l0_2.length := by have := HN.out; omega
        have hstep : runB (a0_0 + (l0_1.length : Int) + 1) l0_2 l1 (k + 1) = ((andP (a0_0 + (l0_1.length : Int) + 1) (runB (a0_0 + (l0_1.length : Int) + 1) l0_2 l1 k).1 (sgnP (runB (a0_0 + (l0_1.length : Int) + 1) l0_2 l1 k).2 (rd_T69 l0_2 (i' : Int)).f0) (sgnP (runB (a0_0 + (l0_1.length : Int) + 1) l0_2 l1 k).2 (rd_T69 l0_2 (i' : Int)).f1)).1, (runB (a0_0 + (l0_1.length : Int) + 1) l0_2 l1 k).2 ++ [(andP (a0_0 + (l0_1.length : Int) + 1) (runB (a0_0 + (l0_1.length : Int) + 1) l0_2 l1 k).1 (sgnP (runB (a0_0 + (l0_1.length : Int) + 1) l0_2 l1 k).2 (rd_T69 l0_2 (i' : Int)).f0) (sgnP (runB (a0_0 + (l0_1.length : Int) + 1) l0_2 l1 k).2 (rd_T69 l0_2 (i' : Int)).f1)).2]) := by
         rw [runB, stepB, HTL.out.1, if_neg h0, if_neg hf, hi']
        obtain ⟨m1, m2, m3, m4⟩ := okA_at HA.out i' hil
        obtain ⟨ad2, rfl, hp0, hq0⟩ := at_T69n HR0_2.out i' hil
        generalize (rd_T69 l0_2 (i' : Int)).f0 = p at hp0 hstep m1 m2
        generalize (rd_T69 l0_2 (i' : Int)).f1 = q at hq0 hstep m3 m4
        have hFN := HF.out
        have hNN := HN.out
        have e4 : wrap64 ((k : Int) - (a0_0 + (l0_1.length : Int) + 1)) = (i' : Int) := by rw [hi']; unfold wrap64; omega
        have e5 : IntKind.i64.wrap ((k : Int) - (a0_0 + (l0_1.length : Int) + 1)) = (i' : Int) := by rw [hi', IntKind.wrap_i64]; omega
        have b1 : p / 2 < ((runB (a0_0 + (l0_1.length : Int) + 1) l0_2 l1 k).2.length : Int) := by rw [HTL.out.1]; omega
        have b2 : q / 2 < ((runB (a0_0 + (l0_1.length : Int) + 1) l0_2 l1 k).2.length : Int) := by rw [HTL.out.1]; omega
        have HSP := M_ (sgnP_left (runB (a0_0 + (l0_1.length : Int) + 1) l0_2 l1 k).2 (List.replicate (l1.length - k) 0) p m1 b1)
        have HSQ := M_ (sgnP_left (runB (a0_0 + (l0_1.length : Int) + 1) l0_2 l1 k).2 (List.replicate (l1.length - k) 0) q m3 b2)
        have HPQ := M_ (show (0 ≤ p ∧ p / 2 < (l1.length : Int) ∧ p ≤ 1000000000) ∧ (0 ≤ q ∧ q / 2 < (l1.length : Int) ∧ q ≤ 1000000000) by omega)
        have HXY := M_ (show (0 ≤ sgnP ((runB (a0_0 + (l0_1.length : Int) + 1) l0_2 l1 k).2 ++ List.replicate (l1.length - k) 0) p ∧ sgnP ((runB (a0_0 + (l0_1.length : Int) + 1) l0_2 l1 k).2 ++ List.replicate (l1.length - k) 0) p ≤ 100000000) ∧ (0 ≤ sgnP ((runB (a0_0 + (l0_1.length : Int) + 1) l0_2 l1 k).2 ++ List.replicate (l1.length - k) 0) q ∧ sgnP ((runB (a0_0 + (l0_1.length : Int) + 1) l0_2 l1 k).2 ++ List.replicate (l1.length - k) 0) q ≤ 100000000) by
         rw [HSP.out, HSQ.out]
         have z1 := sgnP_bd HBD.out p m1 b1 (by omega)
         have z2 := sgnP_bd HBD.out q m3 b2 (by omega)
         omega)
        have HFW := M_ (show Few a0_0 l0_1 (runB (a0_0 + (l0_1.length : Int) + 1) l0_2 l1 k).1 l0_3 l0_4 from ⟨by omega, by omega, by omega, by have := HTL.out.2; omega, by omega, by omega⟩)
        have HSTEP := M_ hstep
        have HP0 := M_ hp0
        have HQ0 := M_ hq0
        have q0 : (0 : Int) ≤ (i' : Int) := by omega
        have q1 : (i' : Int) < (l0_2.length : Int) := by omega
        have yc := (blk_cell HT.out.hc 2).trans (show _ = some (.slice (some ad2) l0_2.length c0_2) from rfl)
        have yp := pw_cell_below HT.out.hS.hb hp0
        have yq := pw_cell_below HT.out.hS.hb hq0
        have HX := M_ (HT.out.below (below_drew (Below.refl _ _)))
        clear hstep h0 HGK hf hi' hil m1 m2 m3 m4 hFN hNN b1 b2 hp0 hq0
        go_upto_region 21 with fail
        go_region_held3 (fun w' => w'.cell? ⟨w3.heap.size, 0, none⟩ = some (.slice (some ⟨gt, 0, none⟩) l1.length ct) ∧ w'.cell? ⟨w.heap.size, 2, none⟩ = some (.slice (some ad2) l0_2.length c0_2) ∧ w'.cell? (ad2.add (i' * 2)) = some (.int .i64 p) ∧ w'.cell? ⟨(ad2.add (i' * 2)).block, (ad2.add (i' * 2)).off + 1, none⟩ = some (.int .i64 q))
         (first | exact ⟨by assumption, by assumption, by assumption, by assumption⟩)
         (first
          | (go_simp; go_at_call 86; (with_reducible refine (bof_calls HX.out.ht HX.out.hT p HPQ.out.1.1 HPQ.out.1.2.1 HPQ.out.1.2.2).mono ?_); rintro e w5 ⟨rfl, hb⟩; have H5 := M_ (HX.out.below hb); have f51 := (blk_cell H5.out.ht 0).trans (show _ = some (.slice (some ⟨gt, 0, none⟩) l1.length ct) from rfl); have f52 := (blk_cell H5.out.hc 2).trans (show _ = some (.slice (some ad2) l0_2.length c0_2) from rfl); have f53 := pw_cell_below H5.out.hS.hb HP0.out; have f54 := pw_cell_below H5.out.hS.hb HQ0.out; clear hb; dsimp only)
          | (go_simp; go_at_call 86; (with_reducible refine (bof_calls H5.out.ht H5.out.hT q HPQ.out.2.1 HPQ.out.2.2.1 HPQ.out.2.2.2).mono ?_); rintro e w6 ⟨rfl, hb⟩; have H6 := M_ (H5.out.below hb); have f61 := (blk_cell H6.out.ht 0).trans (show _ = some (.slice (some ⟨gt, 0, none⟩) l1.length ct) from rfl); have f62 := (blk_cell H6.out.hc 2).trans (show _ = some (.slice (some ad2) l0_2.length c0_2) from rfl); have f63 := pw_cell_below H6.out.hS.hb HP0.out; have f64 := pw_cell_below H6.out.hS.hb HQ0.out; clear hb; dsimp only)
          | (go_simp; go_at_call 87; (with_reducible refine (hand_calls H6.out.hS HFW.out (sgnP ((runB (a0_0 + (l0_1.length : Int) + 1) l0_2 l1 k).2 ++ List.replicate (l1.length - k) 0) p) (sgnP ((runB (a0_0 + (l0_1.length : Int) + 1) l0_2 l1 k).2 ++ List.replicate (l1.length - k) 0) q) HXY.out.1.1 HXY.out.1.2 HXY.out.2.1 HXY.out.2.2).mono ?_); rintro e w7 ⟨rfl, hS7, hK7⟩; have H7 := M_ (H6.out.keep hS7 hK7); have f71 := (blk_cell H7.out.ht 0).trans (show _ = some (.slice (some ⟨gt, 0, none⟩) l1.length ct) from rfl); have f72 := (blk_cell H7.out.hc 2).trans (show _ = some (.slice (some ad2) l0_2.length c0_2) from rfl); have f73 := pw_cell_below H7.out.hS.hb HP0.out; have f74 := pw_cell_below H7.out.hS.hb HQ0.out; have hq := Kd.R_celln (0 : Int) H7.out.hT (k : Int) p0 p1; rw [Int.toNat_natCast] at hq; have hq1 := hq.1; have hq2 := hq.2; have H8 := M_ (H7.out.tell k HC.out (andP (a0_0 + (l0_1.length : Int) + 1) (runB (a0_0 + (l0_1.length : Int) + 1) l0_2 l1 k).1 (sgnP ((runB (a0_0 + (l0_1.length : Int) + 1) l0_2 l1 k).2 ++ List.replicate (l1.length - k) 0) p) (sgnP ((runB (a0_0 + (l0_1.length : Int) + 1) l0_2 l1 k).2 ++ List.replicate (l1.length - k) 0) q)).2); have f81 := (blk_cell H8.out.ht 0).trans (show _ = some (.slice (some ⟨gt, 0, none⟩) l1.length ct) from rfl); have f82 := (blk_cell H8.out.hc 2).trans (show _ = some (.slice (some ad2) l0_2.length c0_2) from rfl); have f83 := pw_cell_below H8.out.hS.hb HP0.out; have f84 := pw_cell_below H8.out.hS.hb HQ0.out; clear hq hS7 hK7; dsimp only))
        go_wp2
        go_roundg (gk - 1)
        case rel =>
         refine ⟨k + 1, congrArg (Value.int .i64) (show wrap64 ((k : Int) + 1) = ((k + 1 : Nat) : Int) by have h1 := HF.out; have h2 := HC.out; have h4 := HN.out; unfold wrap64; omega), ⟨by have := HC.out; omega, by have := HI.out; have := HC.out; omega⟩, ⟨?_⟩⟩
         have h7 := H8.out
         rw [HTS.out, HSP.out, HSQ.out] at h7
         rw [HSTEP.out, HSP.out, HSQ.out]
         exact h7
        case measure => have := HI.out; have := HC.out; omega
     ·have cb : decide (k < l1.length) = false := decide_eq_false c
      have HE := HT.out
      rw [show k = l1.length by have := HI.out; omega, Nat.sub_self, List.replicate_zero, List.append_nil] at HE
      have HE := M_ HE
      clear HT
      go_wp2_with fail
      go_meet
      exact HE
   case rest =>
   clear HT y0 y1 yt ef ef2 e1
   have HT := hcut
   clear hcut
   have HTN := M_ (runB_len (a0_0 + (l0_1.length : Int) + 1) l0_2 l1 l1.length).1
   obtain ⟨A5, c5, y5⟩ := HT.out.cell1
   go_upto_block 5 with fail
   clear y5
   go_cut [] (fun wx => Aside0 (StT w wx bb bm w3.heap.size gt l1.length ct #[.int .i64 a0_0, .slice A0_1 l0_1.length c0_1, .slice A0_2 l0_2.length c0_2, .slice A0_3 l0_3.length c0_3, .slice A0_4 l0_4.length c0_4] a0_0 (l0_1.map (fun x : S36 => (⟨sgnP (builtP a0_0 l0_1 l0_2 l1).2 x.f0, x.f1⟩ : S36))) (builtP a0_0 l0_1 l0_2 l1).1 l0_3 l0_4 (builtP a0_0 l0_1 l0_2 l1).2))
   case first =>
    go_wp2
    go_loopg [140] (l0_1.length + 1) (fun kq v140 w' => ∃ (k : Nat), v140 = .int .i64 (k : Int) ∧ Aside0 (k ≤ l0_1.length ∧ kq + k = l0_1.length + 1) ∧ Aside0 (StT w w' bb bm w3.heap.size gt l1.length ct #[.int .i64 a0_0, .slice A0_1 l0_1.length c0_1, .slice A0_2 l0_2.length c0_2, .slice A0_3 l0_3.length c0_3, .slice A0_4 l0_4.length c0_4] a0_0 ((l0_1.take k).map (fun x : S36 => (⟨sgnP (builtP a0_0 l0_1 l0_2 l1).2 x.f0, x.f1⟩ : S36)) ++ l0_1.drop k) (builtP a0_0 l0_1 l0_2 l1).1 l0_3 l0_4 (builtP a0_0 l0_1 l0_2 l1).2))
    case atStart => exact ⟨0, by simp, ⟨by omega, by omega⟩, ⟨by simpa using HT.out⟩⟩
    case round =>
     clear HT
     obtain ⟨k, rfl, HI, HT⟩ := hrel
     by_cases c : k < l0_1.length
     ·have cb : decide (k < l0_1.length) = true := decide_eq_true c
      have HC := M_ c
      obtain ⟨ad, rfl, hx0, -⟩ := at_T36n HR0_1.out k c
      have HX0 := M_ hx0
      have hgv := HLb.out _ (List.getElem_mem c)
      have hg : rd_T36 l0_1 (k : Int) = l0_1[k] := by simp [rd_T36, List.getD, c]
      have HGE := M_ hg
      have hp : (rd_T36 l0_1 (k : Int)).f0 = (l0_1[k]).f0 := by rw [hg]
      rw [← hg] at hgv
      have HEQ := M_ (show (l0_1[k]).f0 = (rd_T36 l0_1 (k : Int)).f0 by rw [hg])
      generalize (rd_T36 l0_1 (k : Int)).f0 = p at hx0 HX0 hgv HEQ
      have HPV := M_ (show 0 ≤ p ∧ p / 2 < (l1.length : Int) ∧ p ≤ 1000000000 by have h1 := HF.out; have h2 := HN.out; omega)
      have HX := M_ (HT.out.below (below_drew (Below.refl _ _)))
      have hml := mix_len (fun x : S36 => (⟨sgnP (builtP a0_0 l0_1 l0_2 l1).2 x.f0, x.f1⟩ : S36)) l0_1 k (Nat.le_of_lt c)
      obtain ⟨g, cg, u, z1, -⟩ := HX.out.latch k (by rw [hml]; exact c)
      rw [hml] at z1
      have HML := M_ hml
      have yc := (blk_cell HX.out.hc 1).trans (show _ = some (.slice (some ad) l0_1.length c0_1) from rfl)
      have yx := pw_cell_below HX.out.hS.hb hx0
      have p0 : (0 : Int) ≤ (k : Int) := by omega
      have p1 : (k : Int) < (l0_1.length : Int) := by omega
      clear hg hp hgv hx0 hml HGE
      go_upto_region 30 with fail
      go_region_held3 (fun w' => w'.cell? ⟨bb, 1, none⟩ = some (.slice (some ⟨g, 0, none⟩) l0_1.length cg) ∧ w'.cell? ⟨w.heap.size, 1, none⟩ = some (.slice (some ad) l0_1.length c0_1) ∧ w'.cell? (ad.add (k * 2)) = some (.int .i64 p))
       (first | exact ⟨by assumption, by assumption, by assumption⟩)
       (first
        | (go_simp; go_at_call 86; (with_reducible refine (bof_calls HX.out.ht HX.out.hT p HPV.out.1 HPV.out.2.1 HPV.out.2.2).mono ?_); rintro e w5 ⟨rfl, hb⟩; have H5 := M_ (HX.out.below hb); have z5 := pw_cell_below hb z1; obtain ⟨u5, hq1, hq2, hq3⟩ := H5.out.latchAt k (by rw [HML.out]; exact HC.out) z5; have f52 := (blk_cell H5.out.hc 1).trans (show _ = some (.slice (some ad) l0_1.length c0_1) from rfl); have f53 := pw_cell_below H5.out.hS.hb HX0.out; have H6 := M_ (hq3 (sgnP (builtP a0_0 l0_1 l0_2 l1).2 p)).1; have z6 := (hq3 (sgnP (builtP a0_0 l0_1 l0_2 l1).2 p)).2; have f62 := (blk_cell H6.out.hc 1).trans (show _ = some (.slice (some ad) l0_1.length c0_1) from rfl); have f63 := pw_cell_below H6.out.hS.hb HX0.out; clear hb hq3; dsimp only))
      go_wp2
      go_roundg (gk - 1)
      case rel =>
       refine ⟨k + 1, congrArg (Value.int .i64) (show wrap64 ((k : Int) + 1) = ((k + 1 : Nat) : Int) by have h1 := HF.out; have h2 := HC.out; unfold wrap64; omega), ⟨by have := HC.out; omega, by have := HI.out; have := HC.out; omega⟩, ⟨?_⟩⟩
       have h7 := H6.out
       rw [mixL_set _ _ _ HC.out _ HEQ.out] at h7
       exact h7
      case measure => have := HI.out; have := HC.out; omega
     ·have cb : decide (k < l0_1.length) = false := decide_eq_false c
      have HE := HT.out
      rw [show k = l0_1.length by have := HI.out; omega, List.take_length, List.drop_length, List.append_nil] at HE
      have HE := M_ HE
      clear HT
      go_wp2_with fail
      go_meet
      exact HE
   case rest =>
   clear HT
   have HT := hcut
   clear hcut
   have yb := (blk_cell HT.out.hc 3).trans (show _ = some (.slice A0_3 l0_3.length c0_3) from rfl)
   go_upto_block 7 with fail
   clear yb
   go_cut [] (fun wx => Aside0 (StT w wx bb bm w3.heap.size gt l1.length ct #[.int .i64 a0_0, .slice A0_1 l0_1.length c0_1, .slice A0_2 l0_2.length c0_2, .slice A0_3 l0_3.length c0_3, .slice A0_4 l0_4.length c0_4] a0_0 (l0_1.map (fun x : S36 => (⟨sgnP (builtP a0_0 l0_1 l0_2 l1).2 x.f0, x.f1⟩ : S36))) (builtP a0_0 l0_1 l0_2 l1).1 (l0_3.map (sgnP (builtP a0_0 l0_1 l0_2 l1).2)) l0_4 (builtP a0_0 l0_1 l0_2 l1).2))
   case first =>
    go_wp2
    go_loopg [163] (l0_3.length + 1) (fun kq v163 w' => ∃ (k : Nat), v163 = .int .i64 (k : Int) ∧ Aside0 (k ≤ l0_3.length ∧ kq + k = l0_3.length + 1) ∧ Aside0 (StT w w' bb bm w3.heap.size gt l1.length ct #[.int .i64 a0_0, .slice A0_1 l0_1.length c0_1, .slice A0_2 l0_2.length c0_2, .slice A0_3 l0_3.length c0_3, .slice A0_4 l0_4.length c0_4] a0_0 (l0_1.map (fun x : S36 => (⟨sgnP (builtP a0_0 l0_1 l0_2 l1).2 x.f0, x.f1⟩ : S36))) (builtP a0_0 l0_1 l0_2 l1).1 ((l0_3.take k).map (sgnP (builtP a0_0 l0_1 l0_2 l1).2) ++ l0_3.drop k) l0_4 (builtP a0_0 l0_1 l0_2 l1).2))
    case atStart => exact ⟨0, by simp, ⟨by omega, by omega⟩, ⟨by simpa using HT.out⟩⟩
    case round =>
     clear HT
     obtain ⟨k, rfl, HI, HT⟩ := hrel
     by_cases c : k < l0_3.length
     ·have cb : decide (k < l0_3.length) = true := decide_eq_true c
      have HC := M_ c
      obtain ⟨ad, rfl, hx0⟩ := Kd.at_int HR0_3.out (k : Int) (by omega) (by omega)
      rw [Int.toNat_natCast] at hx0
      have hx := pw_cell_below HT.out.hS.hb hx0
      have hg : rd l0_3 (k : Int) = l0_3[k] := by simp [rd, List.getD, c]
      have hgv := HBb.out _ (List.getElem_mem c)
      rw [← hg] at hgv
      have HEQ := M_ hg.symm
      generalize rd l0_3 (k : Int) = p at hx0 hx hgv HEQ
      have HPV := M_ (show 0 ≤ p ∧ p / 2 < (l1.length : Int) ∧ p ≤ 1000000000 by have h1 := HF.out; have h2 := HN.out; omega)
      have HX := M_ (HT.out.below (below_drew (Below.refl _ _)))
      have hml := mix_len (sgnP (builtP a0_0 l0_1 l0_2 l1).2) l0_3 k (Nat.le_of_lt c)
      obtain ⟨g, cg, u, z1, -⟩ := HX.out.bad k (by rw [hml]; exact c)
      rw [hml] at z1
      have HML := M_ hml
      have p0 : (0 : Int) ≤ (k : Int) := by omega
      have p1 : (k : Int) < (l0_3.length : Int) := by omega
      clear hg hgv hx0 hml
      go_upto_region 35 with fail
      go_region_held3 (fun w' => w'.cell? ⟨bb, 3, none⟩ = some (.slice (some ⟨g, 0, none⟩) l0_3.length cg))
       (first | exact z1 | assumption)
       (first
        | (go_simp; go_at_call 86; (with_reducible refine (bof_calls HX.out.ht HX.out.hT p HPV.out.1 HPV.out.2.1 HPV.out.2.2).mono ?_); rintro e w5 ⟨rfl, hb⟩; have H5 := M_ (HX.out.below hb); have z5 := pw_cell_below hb z1; obtain ⟨u5, hq1, hq2, hq3⟩ := H5.out.badAt k (by rw [HML.out]; exact HC.out) z5; have H6 := M_ (hq3 (sgnP (builtP a0_0 l0_1 l0_2 l1).2 p)).1; have z6 := (hq3 (sgnP (builtP a0_0 l0_1 l0_2 l1).2 p)).2; clear hb hq3; dsimp only))
      go_wp2
      go_roundg (gk - 1)
      case rel =>
       refine ⟨k + 1, congrArg (Value.int .i64) (show wrap64 ((k : Int) + 1) = ((k + 1 : Nat) : Int) by have h1 := HF.out; have h2 := HC.out; unfold wrap64; omega), ⟨by have := HC.out; omega, by have := HI.out; have := HC.out; omega⟩, ⟨?_⟩⟩
       have h7 := H6.out
       have h8 := mix_set (sgnP (builtP a0_0 l0_1 l0_2 l1).2) l0_3 k HC.out
       rw [HEQ.out] at h8
       rw [h8] at h7
       exact h7
      case measure => have := HI.out; have := HC.out; omega
     ·have cb : decide (k < l0_3.length) = false := decide_eq_false c
      have HE := HT.out
      rw [show k = l0_3.length by have := HI.out; omega, List.take_length, List.drop_length, List.append_nil] at HE
      have HE := M_ HE
      clear HT
      go_wp2_with fail
      go_meet
      exact HE
   case rest =>
   clear HT
   have HT := hcut
   clear hcut
   have yb := (blk_cell HT.out.hc 4).trans (show _ = some (.slice A0_4 l0_4.length c0_4) from rfl)
   go_upto_block 9 with fail
   clear yb
   go_cut [] (fun wx => Aside0 (StT w wx bb bm w3.heap.size gt l1.length ct #[.int .i64 a0_0, .slice A0_1 l0_1.length c0_1, .slice A0_2 l0_2.length c0_2, .slice A0_3 l0_3.length c0_3, .slice A0_4 l0_4.length c0_4] a0_0 (l0_1.map (fun x : S36 => (⟨sgnP (builtP a0_0 l0_1 l0_2 l1).2 x.f0, x.f1⟩ : S36))) (builtP a0_0 l0_1 l0_2 l1).1 (l0_3.map (sgnP (builtP a0_0 l0_1 l0_2 l1).2)) (l0_4.map (sgnP (builtP a0_0 l0_1 l0_2 l1).2)) (builtP a0_0 l0_1 l0_2 l1).2))
   case first =>
    go_wp2
    go_loopg [182] (l0_4.length + 1) (fun kq v182 w' => ∃ (k : Nat), v182 = .int .i64 (k : Int) ∧ Aside0 (k ≤ l0_4.length ∧ kq + k = l0_4.length + 1) ∧ Aside0 (StT w w' bb bm w3.heap.size gt l1.length ct #[.int .i64 a0_0, .slice A0_1 l0_1.length c0_1, .slice A0_2 l0_2.length c0_2, .slice A0_3 l0_3.length c0_3, .slice A0_4 l0_4.length c0_4] a0_0 (l0_1.map (fun x : S36 => (⟨sgnP (builtP a0_0 l0_1 l0_2 l1).2 x.f0, x.f1⟩ : S36))) (builtP a0_0 l0_1 l0_2 l1).1 (l0_3.map (sgnP (builtP a0_0 l0_1 l0_2 l1).2)) ((l0_4.take k).map (sgnP (builtP a0_0 l0_1 l0_2 l1).2) ++ l0_4.drop k) (builtP a0_0 l0_1 l0_2 l1).2))
    case atStart => exact ⟨0, by simp, ⟨by omega, by omega⟩, ⟨by simpa using HT.out⟩⟩
    case round =>
     clear HT
     obtain ⟨k, rfl, HI, HT⟩ := hrel
     by_cases c : k < l0_4.length
     ·have cb : decide (k < l0_4.length) = true := decide_eq_true c
      have HC := M_ c
      obtain ⟨ad, rfl, hx0⟩ := Kd.at_int HR0_4.out (k : Int) (by omega) (by omega)
      rw [Int.toNat_natCast] at hx0
      have hx := pw_cell_below HT.out.hS.hb hx0
      have hg : rd l0_4 (k : Int) = l0_4[k] := by simp [rd, List.getD, c]
      have hgv := HCb.out _ (List.getElem_mem c)
      rw [← hg] at hgv
      have HEQ := M_ hg.symm
      generalize rd l0_4 (k : Int) = p at hx0 hx hgv HEQ
      have HPV := M_ (show 0 ≤ p ∧ p / 2 < (l1.length : Int) ∧ p ≤ 1000000000 by have h1 := HF.out; have h2 := HN.out; omega)
      have HX := M_ (HT.out.below (below_drew (Below.refl _ _)))
      have hml := mix_len (sgnP (builtP a0_0 l0_1 l0_2 l1).2) l0_4 k (Nat.le_of_lt c)
      obtain ⟨g, cg, u, z1, -⟩ := HX.out.con k (by rw [hml]; exact c)
      rw [hml] at z1
      have HML := M_ hml
      have p0 : (0 : Int) ≤ (k : Int) := by omega
      have p1 : (k : Int) < (l0_4.length : Int) := by omega
      clear hg hgv hx0 hml
      go_upto_region 40 with fail
      go_region_held3 (fun w' => w'.cell? ⟨bb, 4, none⟩ = some (.slice (some ⟨g, 0, none⟩) l0_4.length cg))
       (first | exact z1 | assumption)
       (first
        | (go_simp; go_at_call 86; (with_reducible refine (bof_calls HX.out.ht HX.out.hT p HPV.out.1 HPV.out.2.1 HPV.out.2.2).mono ?_); rintro e w5 ⟨rfl, hb⟩; have H5 := M_ (HX.out.below hb); have z5 := pw_cell_below hb z1; obtain ⟨u5, hq1, hq2, hq3⟩ := H5.out.conAt k (by rw [HML.out]; exact HC.out) z5; have H6 := M_ (hq3 (sgnP (builtP a0_0 l0_1 l0_2 l1).2 p)).1; have z6 := (hq3 (sgnP (builtP a0_0 l0_1 l0_2 l1).2 p)).2; clear hb hq3; dsimp only))
      go_wp2
      go_roundg (gk - 1)
      case rel =>
       refine ⟨k + 1, congrArg (Value.int .i64) (show wrap64 ((k : Int) + 1) = ((k + 1 : Nat) : Int) by have h1 := HF.out; have h2 := HC.out; unfold wrap64; omega), ⟨by have := HC.out; omega, by have := HI.out; have := HC.out; omega⟩, ⟨?_⟩⟩
       have h7 := H6.out
       have h8 := mix_set (sgnP (builtP a0_0 l0_1 l0_2 l1).2) l0_4 k HC.out
       rw [HEQ.out] at h8
       rw [h8] at h7
       exact h7
      case measure => have := HI.out; have := HC.out; omega
     ·have cb : decide (k < l0_4.length) = false := decide_eq_false c
      have HE := HT.out
      rw [show k = l0_4.length by have := HI.out; omega, List.take_length, List.drop_length, List.append_nil] at HE
      have HE := M_ HE
      clear HT
      go_wp2_with fail
      go_meet
      exact HE
   case rest =>
   clear HT
   have HX := M_ hcut.out
   have HZ := M_ hcut.out.hz
   clear hcut
   obtain ⟨AL, cL, AA, cA, AB, cB, AC, cC, k3, k4, k5, k6, k7⟩ := HX.out.hS.cells
   simp only [List.length_map] at k3 k4 k5 k6 k7
   have K4 := M_ k4
   have K5 := M_ k5
   have K6 := M_ k6
   have K7 := M_ k7
   have hne : bb ≠ w.heap.size + 1 := blkN_ty k3 HX.out.hz (by decide)
   have hnt : w3.heap.size ≠ w.heap.size + 1 := blkN_ty HX.out.ht HX.out.hz (by decide)
   have K3 := M_ ((put5_far (.int .i64 a0_0) (.slice AL l0_1.length cL) (.slice AA (builtP a0_0 l0_1 l0_2 l1).1.length cA) (.slice AB l0_3.length cB) (.slice AC l0_4.length cC) hne).trans k3)
   have KT := M_ ((put5_far (.int .i64 a0_0) (.slice AL l0_1.length cL) (.slice AA (builtP a0_0 l0_1 l0_2 l1).1.length cA) (.slice AB l0_3.length cB) (.slice AC l0_4.length cC) hnt).trans HX.out.ht)
   have y0 := (blk_cell k3 0).trans (show _ = some (.int .i64 a0_0) from rfl)
   have y1 := (blk_cell k3 1).trans (show _ = some (.slice AL l0_1.length cL) from rfl)
   have y2 := (blk_cell k3 2).trans (show _ = some (.slice AA (builtP a0_0 l0_1 l0_2 l1).1.length cA) from rfl)
   have y3 := (blk_cell k3 3).trans (show _ = some (.slice AB l0_3.length cB) from rfl)
   have y4 := (blk_cell k3 4).trans (show _ = some (.slice AC l0_4.length cC) from rfl)
   have yt := (blk_cell HX.out.ht 0).trans (show _ = some (.slice (some ⟨gt, 0, none⟩) l1.length ct) from rfl)
   have z0 := (blk_cell HZ.out 0).trans (show _ = some (.int .i64 0) from rfl)
   have fz0 := blk_frozen HZ.out 0
   have z1 := (blk_cell HZ.out 1).trans (show _ = some (.slice none 0 0) from rfl)
   have fz1 := blk_frozen HZ.out 1
   have z2 := (blk_cell HZ.out 2).trans (show _ = some (.slice none 0 0) from rfl)
   have fz2 := blk_frozen HZ.out 2
   have z3 := (blk_cell HZ.out 3).trans (show _ = some (.slice none 0 0) from rfl)
   have fz3 := blk_frozen HZ.out 3
   have z4 := (blk_cell HZ.out 4).trans (show _ = some (.slice none 0 0) from rfl)
   have fz4 := blk_frozen HZ.out 4
   have D0 := M_ ((blk_cell (blk_drew k3) 0).trans (show _ = some (.int .i64 a0_0) from rfl))
   have E0 := M_ ((blk_cell (blk_drew K3.out) 0).trans (show _ = some (.int .i64 a0_0) from rfl))
   have D1 := M_ ((blk_cell (blk_drew k3) 1).trans (show _ = some (.slice AL l0_1.length cL) from rfl))
   have E1 := M_ ((blk_cell (blk_drew K3.out) 1).trans (show _ = some (.slice AL l0_1.length cL) from rfl))
   have D2 := M_ ((blk_cell (blk_drew k3) 2).trans (show _ = some (.slice AA (builtP a0_0 l0_1 l0_2 l1).1.length cA) from rfl))
   have E2 := M_ ((blk_cell (blk_drew K3.out) 2).trans (show _ = some (.slice AA (builtP a0_0 l0_1 l0_2 l1).1.length cA) from rfl))
   have D3 := M_ ((blk_cell (blk_drew k3) 3).trans (show _ = some (.slice AB l0_3.length cB) from rfl))
   have E3 := M_ ((blk_cell (blk_drew K3.out) 3).trans (show _ = some (.slice AB l0_3.length cB) from rfl))
   have D4 := M_ ((blk_cell (blk_drew k3) 4).trans (show _ = some (.slice AC l0_4.length cC) from rfl))
   have E4 := M_ ((blk_cell (blk_drew K3.out) 4).trans (show _ = some (.slice AC l0_4.length cC) from rfl))
   have DT := M_ ((blk_cell (blk_drew HX.out.ht) 0).trans (show _ = some (.slice (some ⟨gt, 0, none⟩) l1.length ct) from rfl))
   have ET := M_ ((blk_cell (blk_drew KT.out) 0).trans (show _ = some (.slice (some ⟨gt, 0, none⟩) l1.length ct) from rfl))
   have KR := M_ (blk_drew (put5_blk (.int .i64 a0_0) (.slice AL l0_1.length cL) (.slice AA (builtP a0_0 l0_1 l0_2 l1).1.length cA) (.slice AB l0_3.length cB) (.slice AC l0_4.length cC) HX.out.hz))
   have F4 := M_ (Kd.R_drew (put5_R (.int .i64 a0_0) (.slice AL l0_1.length cL) (.slice AA (builtP a0_0 l0_1 l0_2 l1).1.length cA) (.slice AB l0_3.length cB) (.slice AC l0_4.length cC) HX.out.hz K4.out (by decide)))
   have F5 := M_ (Kd.R_drew (put5_R (.int .i64 a0_0) (.slice AL l0_1.length cL) (.slice AA (builtP a0_0 l0_1 l0_2 l1).1.length cA) (.slice AB l0_3.length cB) (.slice AC l0_4.length cC) HX.out.hz K5.out (by decide)))
   have F6 := M_ (Kd.R_mono (ok' := fun k_ => some k_ ≠ (Value.slice AC l0_4.length cC).ownBlock ∧ some k_ ≠ (Value.slice (some ⟨gt, 0, none⟩) l1.length ct).ownBlock) (Kd.R_drew (put5_R (.int .i64 a0_0) (.slice AL l0_1.length cL) (.slice AA (builtP a0_0 l0_1 l0_2 l1).1.length cA) (.slice AB l0_3.length cB) (.slice AC l0_4.length cC) HX.out.hz K6.out (by decide))) (fun k hk => ⟨hk.1, fun e => hk.2 (by simpa [Value.ownBlock] using e)⟩))
   have F7 := M_ (Kd.R_mono (ok' := fun k_ => some k_ ≠ (Value.slice AB l0_3.length cB).ownBlock ∧ some k_ ≠ (Value.slice (some ⟨gt, 0, none⟩) l1.length ct).ownBlock) (Kd.R_drew (put5_R (.int .i64 a0_0) (.slice AL l0_1.length cL) (.slice AA (builtP a0_0 l0_1 l0_2 l1).1.length cA) (.slice AB l0_3.length cB) (.slice AC l0_4.length cC) HX.out.hz K7.out (by decide))) (fun k hk => ⟨hk.1, fun e => hk.2 (by simpa [Value.ownBlock] using e)⟩))
   have F8 := M_ (Kd.R_mono (ok' := fun k_ => some k_ ≠ (Value.slice AB l0_3.length cB).ownBlock ∧ some k_ ≠ (Value.slice AC l0_4.length cC).ownBlock) (Kd.R_drew (put5_R (.int .i64 a0_0) (.slice AL l0_1.length cL) (.slice AA (builtP a0_0 l0_1 l0_2 l1).1.length cA) (.slice AB l0_3.length cB) (.slice AC l0_4.length cC) HX.out.hz HX.out.hT (by decide))) (fun k hk => ⟨fun e => (K6.out.1 k e.symm).2 hk, fun e => (K7.out.1 k e.symm).2 hk⟩))
   have F9 := M_ (below_drew (put5_below (.int .i64 a0_0) (.slice AL l0_1.length cL) (.slice AA (builtP a0_0 l0_1 l0_2 l1).1.length cA) (.slice AB l0_3.length cB) (.slice AC l0_4.length cC) HX.out.hS.hb (Nat.le_succ _)))
   clear k3 k4 k5 k6 k7 hne hnt
   go_upto_region 42 with fail
   go_region_held3 (fun w' => w'.cell? ⟨bb, 0, none⟩ = some (.int .i64 a0_0) ∧ w'.cell? ⟨bb, 1, none⟩ = some (.slice AL l0_1.length cL) ∧ w'.cell? ⟨bb, 2, none⟩ = some (.slice AA (builtP a0_0 l0_1 l0_2 l1).1.length cA) ∧ w'.cell? ⟨bb, 3, none⟩ = some (.slice AB l0_3.length cB) ∧ w'.cell? ⟨bb, 4, none⟩ = some (.slice AC l0_4.length cC) ∧ w'.cell? ⟨w3.heap.size, 0, none⟩ = some (.slice (some ⟨gt, 0, none⟩) l1.length ct))
    (first | with_reducible exact ⟨D0.out, D1.out, D2.out, D3.out, D4.out, DT.out⟩ | with_reducible exact ⟨E0.out, E1.out, E2.out, E3.out, E4.out, ET.out⟩)
    (first | fail)
   go_wp2
   refine bodyPost_ret (results_list (rs := [.cell 4 26, .tmp 5, .tmp 6]) rfl (by simp) (.cell (w.heap.size + 1) 26 #[.int .i64 a0_0, .slice AL l0_1.length cL, .slice AA (builtP a0_0 l0_1 l0_2 l1).1.length cA, .slice AB l0_3.length cB, .slice AC l0_4.length cC] (0, 0) _ rfl KR.out Try.underlying26 rfl (by kernel_rfl) (.tmp (.tmp .nil)))) rfl ?_
   exact ⟨_, _, _, _, _, rfl, F4.out, F5.out, F6.out, F7.out, F8.out, F9.out⟩
set_option maxHeartbeats 8000000 in
set_option maxRecDepth 100000 in
theorem build_err (a0_0 : Int) (A0_1 : Option Addr) (c0_1 : Nat) (l0_1 : List S36) (A0_2 : Option Addr) (c0_2 : Nat) (l0_2 : List S69) (A0_3 : Option Addr) (c0_3 : Nat) (l0_3 : List Int) (A0_4 : Option Addr) (c0_4 : Nat) (l0_4 : List Int) (A1 : Option Addr) (c1 : Nat) (l1 : List Int) (n e0 : Int) (w : World) (hr0_1 : Kd.C k36 w A0_1 l0_1.length l0_1) (hc0_1 : l0_1.length ≤ c0_1) (hr0_2 : Kd.C k69 w A0_2 l0_2.length l0_2) (hc0_2 : l0_2.length ≤ c0_2) (hr0_3 : Kd.C (Kd.int .i64) w A0_3 l0_3.length l0_3) (hc0_3 : l0_3.length ≤ c0_3) (hr0_4 : Kd.C (Kd.int .i64) w A0_4 l0_4.length l0_4) (hc0_4 : l0_4.length ≤ c0_4) (hr1 : Kd.C (Kd.int .i64) w A1 l1.length l1) (hc1 : l1.length ≤ c1)
  (hv : gates_Vars.f a0_0 l0_1 l0_2 l0_3 l0_4 = some (n, e0)) (hne : e0 ≠ 0) :
  Calls Try.prog 56 #[.agg #[.int .i64 a0_0, .slice A0_1 l0_1.length c0_1, .slice A0_2 l0_2.length c0_2, .slice A0_3 l0_3.length c0_3, .slice A0_4 l0_4.length c0_4], .slice A1 l1.length c1] w fun e w' => ∃ v1_ v2_ v3_ v4_ v5_ : Value, e = .returned (.tuple #[.agg #[.int .i64 0, v1_, v2_, v3_, v4_], v5_, .int .i64 e0]) ∧ Kd.R k36 36 w' w.heap.size (fun _ => True) v1_ [] ∧ Kd.R k69 69 w' w.heap.size (fun _ => True) v2_ [] ∧ Kd.R (Kd.int .i64) 3 w' w.heap.size (fun k_ => some k_ ≠ (v4_ : Value).ownBlock ∧ some k_ ≠ (v5_ : Value).ownBlock) v3_ [] ∧ Kd.R (Kd.int .i64) 3 w' w.heap.size (fun k_ => some k_ ≠ (v3_ : Value).ownBlock ∧ some k_ ≠ (v5_ : Value).ownBlock) v4_ [] ∧ Kd.R (Kd.int .i64) 3 w' w.heap.size (fun k_ => some k_ ≠ (v3_ : Value).ownBlock ∧ some k_ ≠ (v4_ : Value).ownBlock) v5_ [] ∧ Below w.heap.size w w' := by
 have hu26 := Try.underlying26
 have HR0_1 := M_ hr0_1
 have HR0_2 := M_ hr0_2
 have HR0_3 := M_ hr0_3
 have HR0_4 := M_ hr0_4
 have HR1 := M_ hr1
 have HC0_1 := M_ hc0_1
 have HC0_2 := M_ hc0_2
 have HC0_3 := M_ hc0_3
 have HC0_4 := M_ hc0_4
 have HC1 := M_ hc1
 have HV := M_ hv
 have HB0 := M_ (below_alloc (below_alloc (Below.refl w.heap.size w) (.cells #[.int .i64 a0_0, .slice A0_1 l0_1.length c0_1, .slice A0_2 l0_2.length c0_2, .slice A0_3 l0_3.length c0_3, .slice A0_4 l0_4.length c0_4] 26)) (.cells #[.int .i64 0, .slice none 0 0, .slice none 0 0, .slice none 0 0, .slice none 0 0] 26))
 have BC0 := M_ (blk_alloc (heap_alloc_new w (.cells #[.int .i64 a0_0, .slice A0_1 l0_1.length c0_1, .slice A0_2 l0_2.length c0_2, .slice A0_3 l0_3.length c0_3, .slice A0_4 l0_4.length c0_4] 26)) (.cells #[.int .i64 0, .slice none 0 0, .slice none 0 0, .slice none 0 0, .slice none 0 0] 26))
 have BZ0 := M_ (zbox w #[.int .i64 a0_0, .slice A0_1 l0_1.length c0_1, .slice A0_2 l0_2.length c0_2, .slice A0_3 l0_3.length c0_3, .slice A0_4 l0_4.length c0_4])
 have b2 : (e0 != 0) = true := bne_iff_ne.mpr hne
 clear hr0_1 hr0_2 hr0_3 hr0_4 hc0_1 hc0_2 hc0_3 hc0_4 hr1 hc1
 clear hv hne
 go_enter Try.func56, Try.ntmps56
 go_wp2_with (go_at_call 47; (with_reducible refine (gates_Vars.calls a0_0 A0_1 c0_1 l0_1 A0_2 c0_2 l0_2 A0_3 c0_3 l0_3 A0_4 c0_4 l0_4 _ _ _ (Kd.C_below HR0_1.out HB0.out) HC0_1.out (Kd.C_below HR0_2.out HB0.out) HC0_2.out (Kd.C_below HR0_3.out HB0.out) HC0_3.out (Kd.C_below HR0_4.out HB0.out) HC0_4.out HV.out).mono ?_); rintro e w1 ⟨rfl, hb⟩; have HB := M_ (below_step HB0.out hb); have BC := M_ (blk_below BC0.out hb); have BZ := M_ (blk_below BZ0.out hb); clear hb; have rb0 := (blk_cell BZ.out 0).trans (show _ = some (.int .i64 0) from rfl); have frb0 := blk_frozen BZ.out 0; have rb1 := (blk_cell BZ.out 1).trans (show _ = some (.slice none 0 0) from rfl); have frb1 := blk_frozen BZ.out 1; have rb2 := (blk_cell BZ.out 2).trans (show _ = some (.slice none 0 0) from rfl); have frb2 := blk_frozen BZ.out 2; have rb3 := (blk_cell BZ.out 3).trans (show _ = some (.slice none 0 0) from rfl); have frb3 := blk_frozen BZ.out 3; have rb4 := (blk_cell BZ.out 4).trans (show _ = some (.slice none 0 0) from rfl); have frb4 := blk_frozen BZ.out 4)
 (try simp only [Exit.inBlock, Exit.then]); refine bodyPost_ret (results_list (rs := [.cell 4 26, .tmp 5, .tmp 6]) rfl (by simp) (.cell (w.heap.size + 1) 26 #[.int .i64 0, .slice none 0 0, .slice none 0 0, .slice none 0 0, .slice none 0 0] (0, 0) _ rfl (put5_blk _ _ _ _ _ BZ.out) Try.underlying26 rfl (by kernel_rfl) (.tmp (.tmp .nil)))) rfl ?_
 exact ⟨_, _, _, _, _, rfl, Kd.R_nil _ _ _ _ _, Kd.R_nil _ _ _ _ _, Kd.R_nil _ _ _ _ _, Kd.R_nil _ _ _ _ _, Kd.R_nil _ _ _ _ _, put5_below _ _ _ _ _ HB.out (Nat.le_succ _)⟩
set_option maxHeartbeats 8000000 in
set_option maxRecDepth 100000 in
theorem build_len (a0_0 : Int) (A0_1 : Option Addr) (c0_1 : Nat) (l0_1 : List S36) (A0_2 : Option Addr) (c0_2 : Nat) (l0_2 : List S69) (A0_3 : Option Addr) (c0_3 : Nat) (l0_3 : List Int) (A0_4 : Option Addr) (c0_4 : Nat) (l0_4 : List Int) (A1 : Option Addr) (c1 : Nat) (l1 : List Int) (n : Int) (w : World) (hr0_1 : Kd.C k36 w A0_1 l0_1.length l0_1) (hc0_1 : l0_1.length ≤ c0_1) (hr0_2 : Kd.C k69 w A0_2 l0_2.length l0_2) (hc0_2 : l0_2.length ≤ c0_2) (hr0_3 : Kd.C (Kd.int .i64) w A0_3 l0_3.length l0_3) (hc0_3 : l0_3.length ≤ c0_3) (hr0_4 : Kd.C (Kd.int .i64) w A0_4 l0_4.length l0_4) (hc0_4 : l0_4.length ≤ c0_4) (hr1 : Kd.C (Kd.int .i64) w A1 l1.length l1) (hc1 : l1.length ≤ c1)
  (hv : gates_Vars.f a0_0 l0_1 l0_2 l0_3 l0_4 = some (n, 0)) (hn : wrap64 (n + 1) = n + 1) (hne : ¬ (l1.length : Int) = n + 1) :
  Calls Try.prog 56 #[.agg #[.int .i64 a0_0, .slice A0_1 l0_1.length c0_1, .slice A0_2 l0_2.length c0_2, .slice A0_3 l0_3.length c0_3, .slice A0_4 l0_4.length c0_4], .slice A1 l1.length c1] w fun e w' => ∃ v1_ v2_ v3_ v4_ v5_ : Value, e = .returned (.tuple #[.agg #[.int .i64 0, v1_, v2_, v3_, v4_], v5_, .int .i64 2]) ∧ Kd.R k36 36 w' w.heap.size (fun _ => True) v1_ [] ∧ Kd.R k69 69 w' w.heap.size (fun _ => True) v2_ [] ∧ Kd.R (Kd.int .i64) 3 w' w.heap.size (fun k_ => some k_ ≠ (v4_ : Value).ownBlock ∧ some k_ ≠ (v5_ : Value).ownBlock) v3_ [] ∧ Kd.R (Kd.int .i64) 3 w' w.heap.size (fun k_ => some k_ ≠ (v3_ : Value).ownBlock ∧ some k_ ≠ (v5_ : Value).ownBlock) v4_ [] ∧ Kd.R (Kd.int .i64) 3 w' w.heap.size (fun k_ => some k_ ≠ (v3_ : Value).ownBlock ∧ some k_ ≠ (v4_ : Value).ownBlock) v5_ [] ∧ Below w.heap.size w w' := by
 have hu26 := Try.underlying26
 have HR0_1 := M_ hr0_1
 have HR0_2 := M_ hr0_2
 have HR0_3 := M_ hr0_3
 have HR0_4 := M_ hr0_4
 have HR1 := M_ hr1
 have HC0_1 := M_ hc0_1
 have HC0_2 := M_ hc0_2
 have HC0_3 := M_ hc0_3
 have HC0_4 := M_ hc0_4
 have HC1 := M_ hc1
 have HV := M_ hv
 have HB0 := M_ (below_alloc (below_alloc (Below.refl w.heap.size w) (.cells #[.int .i64 a0_0, .slice A0_1 l0_1.length c0_1, .slice A0_2 l0_2.length c0_2, .slice A0_3 l0_3.length c0_3, .slice A0_4 l0_4.length c0_4] 26)) (.cells #[.int .i64 0, .slice none 0 0, .slice none 0 0, .slice none 0 0, .slice none 0 0] 26))
 have BC0 := M_ (blk_alloc (heap_alloc_new w (.cells #[.int .i64 a0_0, .slice A0_1 l0_1.length c0_1, .slice A0_2 l0_2.length c0_2, .slice A0_3 l0_3.length c0_3, .slice A0_4 l0_4.length c0_4] 26)) (.cells #[.int .i64 0, .slice none 0 0, .slice none 0 0, .slice none 0 0, .slice none 0 0] 26))
 have BZ0 := M_ (zbox w #[.int .i64 a0_0, .slice A0_1 l0_1.length c0_1, .slice A0_2 l0_2.length c0_2, .slice A0_3 l0_3.length c0_3, .slice A0_4 l0_4.length c0_4])
 have b2 : ((l1.length : Int) != n + 1) = true := bne_iff_ne.mpr hne
 clear hr0_1 hr0_2 hr0_3 hr0_4 hc0_1 hc0_2 hc0_3 hc0_4 hr1 hc1
 clear hv hne
 go_enter Try.func56, Try.ntmps56
 go_wp2_with (go_at_call 47; (with_reducible refine (gates_Vars.calls a0_0 A0_1 c0_1 l0_1 A0_2 c0_2 l0_2 A0_3 c0_3 l0_3 A0_4 c0_4 l0_4 _ _ _ (Kd.C_below HR0_1.out HB0.out) HC0_1.out (Kd.C_below HR0_2.out HB0.out) HC0_2.out (Kd.C_below HR0_3.out HB0.out) HC0_3.out (Kd.C_below HR0_4.out HB0.out) HC0_4.out HV.out).mono ?_); rintro e w1 ⟨rfl, hb⟩; have HB := M_ (below_step HB0.out hb); have BC := M_ (blk_below BC0.out hb); have BZ := M_ (blk_below BZ0.out hb); clear hb; have rb0 := (blk_cell BZ.out 0).trans (show _ = some (.int .i64 0) from rfl); have frb0 := blk_frozen BZ.out 0; have rb1 := (blk_cell BZ.out 1).trans (show _ = some (.slice none 0 0) from rfl); have frb1 := blk_frozen BZ.out 1; have rb2 := (blk_cell BZ.out 2).trans (show _ = some (.slice none 0 0) from rfl); have frb2 := blk_frozen BZ.out 2; have rb3 := (blk_cell BZ.out 3).trans (show _ = some (.slice none 0 0) from rfl); have frb3 := blk_frozen BZ.out 3; have rb4 := (blk_cell BZ.out 4).trans (show _ = some (.slice none 0 0) from rfl); have frb4 := blk_frozen BZ.out 4)
 (try simp only [Exit.inBlock, Exit.then]); refine bodyPost_ret (results_list (rs := [.cell 4 26, .tmp 5, .tmp 6]) rfl (by simp) (.cell (w.heap.size + 1) 26 #[.int .i64 0, .slice none 0 0, .slice none 0 0, .slice none 0 0, .slice none 0 0] (0, 0) _ rfl (put5_blk _ _ _ _ _ BZ.out) Try.underlying26 rfl (by kernel_rfl) (.tmp (.tmp .nil)))) rfl ?_
 exact ⟨_, _, _, _, _, rfl, Kd.R_nil _ _ _ _ _, Kd.R_nil _ _ _ _ _, Kd.R_nil _ _ _ _ _, Kd.R_nil _ _ _ _ _, Kd.R_nil _ _ _ _ _, put5_below _ _ _ _ _ HB.out (Nat.le_succ _)⟩
set_option maxHeartbeats 8000000 in
set_option maxRecDepth 100000 in
theorem build_bad (a0_0 : Int) (A0_1 : Option Addr) (c0_1 : Nat) (l0_1 : List S36) (A0_2 : Option Addr) (c0_2 : Nat) (l0_2 : List S69) (A0_3 : Option Addr) (c0_3 : Nat) (l0_3 : List Int) (A0_4 : Option Addr) (c0_4 : Nat) (l0_4 : List Int) (A1 : Option Addr) (c1 : Nat) (l1 : List Int) (n : Int) (w : World) (hr0_1 : Kd.C k36 w A0_1 l0_1.length l0_1) (hc0_1 : l0_1.length ≤ c0_1) (hr0_2 : Kd.C k69 w A0_2 l0_2.length l0_2) (hc0_2 : l0_2.length ≤ c0_2) (hr0_3 : Kd.C (Kd.int .i64) w A0_3 l0_3.length l0_3) (hc0_3 : l0_3.length ≤ c0_3) (hr0_4 : Kd.C (Kd.int .i64) w A0_4 l0_4.length l0_4) (hc0_4 : l0_4.length ≤ c0_4) (hr1 : Kd.C (Kd.int .i64) w A1 l1.length l1) (hc1 : l1.length ≤ c1)
  (hv : gates_Vars.f a0_0 l0_1 l0_2 l0_3 l0_4 = some (n, 0)) (hn : wrap64 (n + 1) = n + 1) (hl : (l1.length : Int) = n + 1) (hlen : l1.length ≤ 60000) (hbad : (List.range l1.length).any (badG a0_0 l1) = true) :
  Calls Try.prog 56 #[.agg #[.int .i64 a0_0, .slice A0_1 l0_1.length c0_1, .slice A0_2 l0_2.length c0_2, .slice A0_3 l0_3.length c0_3, .slice A0_4 l0_4.length c0_4], .slice A1 l1.length c1] w fun e w' => ∃ v1_ v2_ v3_ v4_ v5_ : Value, e = .returned (.tuple #[.agg #[.int .i64 0, v1_, v2_, v3_, v4_], v5_, .int .i64 2]) ∧ Kd.R k36 36 w' w.heap.size (fun _ => True) v1_ [] ∧ Kd.R k69 69 w' w.heap.size (fun _ => True) v2_ [] ∧ Kd.R (Kd.int .i64) 3 w' w.heap.size (fun k_ => some k_ ≠ (v4_ : Value).ownBlock ∧ some k_ ≠ (v5_ : Value).ownBlock) v3_ [] ∧ Kd.R (Kd.int .i64) 3 w' w.heap.size (fun k_ => some k_ ≠ (v3_ : Value).ownBlock ∧ some k_ ≠ (v5_ : Value).ownBlock) v4_ [] ∧ Kd.R (Kd.int .i64) 3 w' w.heap.size (fun k_ => some k_ ≠ (v3_ : Value).ownBlock ∧ some k_ ≠ (v4_ : Value).ownBlock) v5_ [] ∧ Below w.heap.size w w' := by
 have hu26 := Try.underlying26
 have HR0_1 := M_ hr0_1
 have HR0_2 := M_ hr0_2
 have HR0_3 := M_ hr0_3
 have HR0_4 := M_ hr0_4
 have HR1 := M_ hr1
 have HC0_1 := M_ hc0_1
 have HC0_2 := M_ hc0_2
 have HC0_3 := M_ hc0_3
 have HC0_4 := M_ hc0_4
 have HC1 := M_ hc1
 have HV := M_ hv
 have HB0 := M_ (below_alloc (below_alloc (Below.refl w.heap.size w) (.cells #[.int .i64 a0_0, .slice A0_1 l0_1.length c0_1, .slice A0_2 l0_2.length c0_2, .slice A0_3 l0_3.length c0_3, .slice A0_4 l0_4.length c0_4] 26)) (.cells #[.int .i64 0, .slice none 0 0, .slice none 0 0, .slice none 0 0, .slice none 0 0] 26))
 have BC0 := M_ (blk_alloc (heap_alloc_new w (.cells #[.int .i64 a0_0, .slice A0_1 l0_1.length c0_1, .slice A0_2 l0_2.length c0_2, .slice A0_3 l0_3.length c0_3, .slice A0_4 l0_4.length c0_4] 26)) (.cells #[.int .i64 0, .slice none 0 0, .slice none 0 0, .slice none 0 0, .slice none 0 0] 26))
 have BZ0 := M_ (zbox w #[.int .i64 a0_0, .slice A0_1 l0_1.length c0_1, .slice A0_2 l0_2.length c0_2, .slice A0_3 l0_3.length c0_3, .slice A0_4 l0_4.length c0_4])
 have b2 : ((l1.length : Int) != n + 1) = false := bne_eq_false_iff_eq.mpr hl
 have HBAD := M_ hbad
 have HLEN := M_ hlen
 have HLN := M_ hl
 have e1 : wrap64 (n + 1) = (l1.length : Int) := by rw [hn, hl]
 have b3 : ((l1.length : Int) != (l1.length : Int)) = false := by simp
 clear hr0_1 hr0_2 hr0_3 hr0_4 hc0_1 hc0_2 hc0_3 hc0_4 hr1 hc1
 clear hv hbad hlen hl hn b2
 go_enter Try.func56, Try.ntmps56
 go_wp2_with (go_at_call 47; (with_reducible refine (gates_Vars.calls a0_0 A0_1 c0_1 l0_1 A0_2 c0_2 l0_2 A0_3 c0_3 l0_3 A0_4 c0_4 l0_4 _ _ _ (Kd.C_below HR0_1.out HB0.out) HC0_1.out (Kd.C_below HR0_2.out HB0.out) HC0_2.out (Kd.C_below HR0_3.out HB0.out) HC0_3.out (Kd.C_below HR0_4.out HB0.out) HC0_4.out HV.out).mono ?_); rintro e w1 ⟨rfl, hb⟩; have HB := M_ (below_step HB0.out hb); have BC := M_ (blk_below BC0.out hb); have BZ := M_ (blk_below BZ0.out hb); clear hb; have rb0 := (blk_cell BZ.out 0).trans (show _ = some (.int .i64 0) from rfl); have frb0 := blk_frozen BZ.out 0; have rb1 := (blk_cell BZ.out 1).trans (show _ = some (.slice none 0 0) from rfl); have frb1 := blk_frozen BZ.out 1; have rb2 := (blk_cell BZ.out 2).trans (show _ = some (.slice none 0 0) from rfl); have frb2 := blk_frozen BZ.out 2; have rb3 := (blk_cell BZ.out 3).trans (show _ = some (.slice none 0 0) from rfl); have frb3 := blk_frozen BZ.out 3; have rb4 := (blk_cell BZ.out 4).trans (show _ = some (.slice none 0 0) from rfl); have frb4 := blk_frozen BZ.out 4)
 clear b3
 go_loopg [39] (l1.length + 1) (fun kq v39 w' => ∃ (i : Nat), v39 = .int .i64 (i : Int) ∧ Aside0 (i ≤ l1.length ∧ kq + i = l1.length + 1) ∧ Aside0 (∀ v, v < i → badG a0_0 l1 v = false) ∧ w' = w1)
 case atStart => exact ⟨0, by simp, ⟨by omega, by omega⟩, ⟨fun v h => absurd h (by omega)⟩, rfl⟩
 case round =>
  obtain ⟨i, rfl, HI, HG, rfl⟩ := hrel
  by_cases c : i < l1.length
  ·have cb : decide (i < l1.length) = true := decide_eq_true c
   obtain ⟨ad, rfl, hx⟩ := Kd.at_int (Kd.C_below HR1.out HB.out) (i : Int) (by omega) (by omega)
   rw [Int.toNat_natCast] at hx
   have hz0 := (blk_cell BC.out 0).trans (show _ = some (.int .i64 a0_0) from rfl)
   have e3 : wrap64 (2 * (i : Int)) = 2 * (i : Int) := by have h1 := HLEN.out; unfold wrap64; omega
   have p0 : (0 : Int) ≤ (i : Int) := by omega
   have p1 : (i : Int) < (l1.length : Int) := by omega
   have HC := M_ c
   cases hb : badG a0_0 l1 i with
   | false =>
    have HBI := M_ hb
    unfold badG at hb
    rw [Bool.or_eq_false_iff, Bool.or_eq_false_iff] at hb
    obtain ⟨⟨d1, d2⟩, d3⟩ := hb
    cases g0 : decide (0 ≤ rd l1 (i : Int)) with
    | false =>
     clear d3
     go_wp2
     go_roundg (gk - 1)
     case rel => exact ⟨i + 1, congrArg (Value.int .i64) (show wrap64 ((i : Int) + 1) = ((i + 1 : Nat) : Int) by have h1 := HLEN.out; have h2 := HC.out; unfold wrap64; omega), ⟨by have := HC.out; omega, by have := HI.out; have := HC.out; omega⟩, ⟨fun v hv => by
      rcases Nat.lt_succ_iff_lt_or_eq.1 hv with h | h
      ·exact HG.out v h
      ·rw [h]; exact HBI.out⟩, rfl⟩
     case measure => have := HI.out; have := HC.out; omega
    | true =>
     rw [g0, Bool.true_and] at d3
     go_wp2
     go_roundg (gk - 1)
     case rel => exact ⟨i + 1, congrArg (Value.int .i64) (show wrap64 ((i : Int) + 1) = ((i + 1 : Nat) : Int) by have h1 := HLEN.out; have h2 := HC.out; unfold wrap64; omega), ⟨by have := HC.out; omega, by have := HI.out; have := HC.out; omega⟩, ⟨fun v hv => by
      rcases Nat.lt_succ_iff_lt_or_eq.1 hv with h | h
      ·exact HG.out v h
      ·rw [h]; exact HBI.out⟩, rfl⟩
     case measure => have := HI.out; have := HC.out; omega
   | true =>
    unfold badG at hb
    clear HG HI
    cases d1 : decide (rd l1 (i : Int) < -1) with
    | true =>
     clear hb
     go_wp2
     (try simp only [Exit.inBlock, Exit.then]); refine bodyPost_ret (results_list (rs := [.cell 4 26, .tmp 5, .tmp 6]) rfl (by simp) (.cell (w.heap.size + 1) 26 #[.int .i64 0, .slice none 0 0, .slice none 0 0, .slice none 0 0, .slice none 0 0] (0, 0) _ rfl (put5_blk _ _ _ _ _ BZ.out) Try.underlying26 rfl (by kernel_rfl) (.tmp (.tmp .nil)))) rfl ?_
     exact ⟨_, _, _, _, _, rfl, Kd.R_nil _ _ _ _ _, Kd.R_nil _ _ _ _ _, Kd.R_nil _ _ _ _ _, Kd.R_nil _ _ _ _ _, Kd.R_nil _ _ _ _ _, put5_below _ _ _ _ _ HB.out (Nat.le_succ _)⟩
    | false =>
     rw [d1, Bool.false_or] at hb
     cases d2 : decide (2 * (i : Int) ≤ rd l1 (i : Int)) with
     | true =>
      clear hb
      go_wp2
      (try simp only [Exit.inBlock, Exit.then]); refine bodyPost_ret (results_list (rs := [.cell 4 26, .tmp 5, .tmp 6]) rfl (by simp) (.cell (w.heap.size + 1) 26 #[.int .i64 0, .slice none 0 0, .slice none 0 0, .slice none 0 0, .slice none 0 0] (0, 0) _ rfl (put5_blk _ _ _ _ _ BZ.out) Try.underlying26 rfl (by kernel_rfl) (.tmp (.tmp .nil)))) rfl ?_
      exact ⟨_, _, _, _, _, rfl, Kd.R_nil _ _ _ _ _, Kd.R_nil _ _ _ _ _, Kd.R_nil _ _ _ _ _, Kd.R_nil _ _ _ _ _, Kd.R_nil _ _ _ _ _, put5_below _ _ _ _ _ HB.out (Nat.le_succ _)⟩
     | false =>
      rw [d2, Bool.false_or, Bool.and_eq_true] at hb
      obtain ⟨g0, d3⟩ := hb
      go_wp2
      (try simp only [Exit.inBlock, Exit.then]); refine bodyPost_ret (results_list (rs := [.cell 4 26, .tmp 5, .tmp 6]) rfl (by simp) (.cell (w.heap.size + 1) 26 #[.int .i64 0, .slice none 0 0, .slice none 0 0, .slice none 0 0, .slice none 0 0] (0, 0) _ rfl (put5_blk _ _ _ _ _ BZ.out) Try.underlying26 rfl (by kernel_rfl) (.tmp (.tmp .nil)))) rfl ?_
      exact ⟨_, _, _, _, _, rfl, Kd.R_nil _ _ _ _ _, Kd.R_nil _ _ _ _ _, Kd.R_nil _ _ _ _ _, Kd.R_nil _ _ _ _ _, Kd.R_nil _ _ _ _ _, put5_below _ _ _ _ _ HB.out (Nat.le_succ _)⟩
  ·exfalso
   obtain ⟨v, hv1, hv2⟩ := List.any_eq_true.1 HBAD.out
   rw [HG.out v (by have := List.mem_range.1 hv1; have := HI.out; omega)] at hv2
   exact absurd hv2 (by decide)
theorem hash_Build.calls (a0_0 : Int) (A0_1 : Option Addr) (c0_1 : Nat) (l0_1 : List S36) (A0_2 : Option Addr) (c0_2 : Nat) (l0_2 : List S69) (A0_3 : Option Addr) (c0_3 : Nat) (l0_3 : List Int) (A0_4 : Option Addr) (c0_4 : Nat) (l0_4 : List Int) (A1 : Option Addr) (c1 : Nat) (l1 : List Int) (r1 : Int) (r2 : List (S36)) (r3 : List (S69)) (r4 : List Int) (r5 : List Int) (r6 : List Int) (r7 : Int) (w : World) (hr0_1 : Kd.C k36 w A0_1 l0_1.length l0_1) (hc0_1 : l0_1.length ≤ c0_1) (hr0_2 : Kd.C k69 w A0_2 l0_2.length l0_2) (hc0_2 : l0_2.length ≤ c0_2) (hr0_3 : Kd.C (Kd.int .i64) w A0_3 l0_3.length l0_3) (hc0_3 : l0_3.length ≤ c0_3) (hr0_4 : Kd.C (Kd.int .i64) w A0_4 l0_4.length l0_4) (hc0_4 : l0_4.length ≤ c0_4) (hr1 : Kd.C (Kd.int .i64) w A1 l1.length l1) (hc1 : l1.length ≤ c1) (h : hash_Build.f a0_0 l0_1 l0_2 l0_3 l0_4 l1 = some (r1, r2, r3, r4, r5, r6, r7)) :
  Calls Try.prog 56 #[.agg #[.int .i64 a0_0, .slice A0_1 l0_1.length c0_1, .slice A0_2 l0_2.length c0_2, .slice A0_3 l0_3.length c0_3, .slice A0_4 l0_4.length c0_4], .slice A1 l1.length c1] w fun e w' => ∃ v1_ v2_ v3_ v4_ v5_ : Value, e = .returned (.tuple #[.agg #[.int .i64 r1, v1_, v2_, v3_, v4_], v5_, .int .i64 r7]) ∧ Kd.R k36 36 w' w.heap.size (fun _ => True) v1_ r2 ∧ Kd.R k69 69 w' w.heap.size (fun _ => True) v2_ r3 ∧ Kd.R (Kd.int .i64) 3 w' w.heap.size (fun k_ => some k_ ≠ (v4_ : Value).ownBlock ∧ some k_ ≠ (v5_ : Value).ownBlock) v3_ r4 ∧ Kd.R (Kd.int .i64) 3 w' w.heap.size (fun k_ => some k_ ≠ (v3_ : Value).ownBlock ∧ some k_ ≠ (v5_ : Value).ownBlock) v4_ r5 ∧ Kd.R (Kd.int .i64) 3 w' w.heap.size (fun k_ => some k_ ≠ (v3_ : Value).ownBlock ∧ some k_ ≠ (v4_ : Value).ownBlock) v5_ r6 ∧ Below w.heap.size w w' := by
 unfold hash_Build.f at h
 obtain ⟨⟨n, e0⟩, hv, h⟩ := Option.bind_eq_some_iff.mp h
 simp only at h
 by_cases c : e0 = 0
 ·rw [if_pos c] at h
  subst c
  by_cases c2 : okC a0_0 l0_1 l0_2 l0_3 l0_4 l1 = true ∧ n = a0_0 + (l0_1.length : Int) + (l0_2.length : Int)
  ·rw [if_pos c2] at h
   obtain ⟨ok, rfl⟩ := c2
   have ok2 := ok
   unfold okC okH at ok2
   simp only [Bool.and_eq_true, decide_eq_true_eq, List.all_eq_true] at ok2
   obtain ⟨⟨⟨⟨⟨⟨⟨k0, k1, k2, k3, k4, k5⟩, kg⟩, kA⟩, kN⟩, kL⟩, kB⟩, kC⟩ := ok2
   have hw1 : wrap64 (a0_0 + (l0_1.length : Int) + (l0_2.length : Int) + 1) = a0_0 + (l0_1.length : Int) + (l0_2.length : Int) + 1 := by unfold wrap64; omega
   by_cases c3 : (l1.length : Int) ≠ a0_0 + (l0_1.length : Int) + (l0_2.length : Int) + 1 ∨ (List.range l1.length).any (badG a0_0 l1) = true
   ·rw [if_pos c3] at h
    simp only [Option.some.injEq, Prod.mk.injEq] at h
    obtain ⟨rfl, rfl, rfl, rfl, rfl, rfl, rfl⟩ := h
    by_cases c4 : (l1.length : Int) = a0_0 + (l0_1.length : Int) + (l0_2.length : Int) + 1
    ·exact build_bad a0_0 A0_1 c0_1 l0_1 A0_2 c0_2 l0_2 A0_3 c0_3 l0_3 A0_4 c0_4 l0_4 A1 c1 l1 _ w hr0_1 hc0_1 hr0_2 hc0_2 hr0_3 hc0_3 hr0_4 hc0_4 hr1 hc1 hv hw1 c4 kN (c3.resolve_left (fun hh => hh c4))
    ·exact build_len a0_0 A0_1 c0_1 l0_1 A0_2 c0_2 l0_2 A0_3 c0_3 l0_3 A0_4 c0_4 l0_4 A1 c1 l1 _ w hr0_1 hc0_1 hr0_2 hc0_2 hr0_3 hc0_3 hr0_4 hc0_4 hr1 hc1 hv hw1 c4
   ·rw [if_neg c3] at h
    simp only [Option.some.injEq, Prod.mk.injEq] at h
    obtain ⟨rfl, rfl, rfl, rfl, rfl, rfl, rfl⟩ := h
    have c4 : (l1.length : Int) = a0_0 + (l0_1.length : Int) + (l0_2.length : Int) + 1 := Classical.byContradiction fun hh => c3 (Or.inl hh)
    refine build_main a0_0 A0_1 c0_1 l0_1 A0_2 c0_2 l0_2 A0_3 c0_3 l0_3 A0_4 c0_4 l0_4 A1 c1 l1 l1.length w hr0_1 hc0_1 hr0_2 hc0_2 hr0_3 hc0_3 hr0_4 hc0_4 hr1 hc1 hv ok c4 rfl (fun v hv => ?_)
    cases e : badG a0_0 l1 v with
    | false => rfl
    | true => exact absurd (List.any_eq_true.2 ⟨v, List.mem_range.2 hv, e⟩) (fun hh => c3 (Or.inr hh))
  ·rw [if_neg c2] at h
   exact absurd h (by simp)
 ·rw [if_neg c] at h
  simp only [Option.some.injEq, Prod.mk.injEq] at h
  obtain ⟨rfl, rfl, rfl, rfl, rfl, rfl, rfl⟩ := h
  exact build_err a0_0 A0_1 c0_1 l0_1 A0_2 c0_2 l0_2 A0_3 c0_3 l0_3 A0_4 c0_4 l0_4 A1 c1 l1 n _ w hr0_1 hc0_1 hr0_2 hc0_2 hr0_3 hc0_3 hr0_4 hc0_4 hr1 hc1 hv c

end Go.Proofs.Ytmcdanpecajklaa.QTernsimValues
