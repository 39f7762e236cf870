-- Made by wip/myprint.sh (a patched print): a text of this session's own.
import Derived.Test.YtnllcdihmpdhhaaQGatesDepthx0
import Derived.Test.YtnllcdihmpdhhaaQGatesDepthx1
import Derived.Test.YtnllcdihmpdhhaaQGatesDepthx3
namespace Go.Proofs.Ytnllcdihmpdhhaa.QGatesDepth
open Go.RowKit Go.Proofs.YtnllcdihmpdhhaaW.PrintWords Go.Proofs.YtnllcdihmpdhhaaW.PrintLast Go.Proofs.YtnllcdihmpdhhaaW.PrintMore
attribute [local go_sem] max2_int min2_int max_two min_two max_three min_three max_four min_four   -- for this text's walks alone
set_option linter.unusedVariables false
set_option linter.unusedSimpArgs false

/-! ### gates_Depth: function 21, by hand -/
/-- The greater one. -/
def gtr (a b : Int) : Int := if a < b then b else a
set_option maxHeartbeats 4000000 in
set_option maxRecDepth 100000 in
theorem depth1_calls (v p N cap gd bd bv : Nat) (ds : List Int) (W : World) (hN : ds.length = N) (hp : p < N) (hv : v < N)
    (hd : W.cell? ⟨bd, 0, none⟩ = some (.slice (some ⟨gd, 0, none⟩) N cap)) (hb : W.cell? ⟨bv, 0, none⟩ = some (.int .i64 (v : Int))) (hx : W.cell? ⟨gd, v, none⟩ = some (.int .i64 (rd ds (v : Int)))) (hy : W.cell? ⟨gd, p, none⟩ = some (.int .i64 (rd ds (p : Int)))) (hf : W.frozen? ⟨gd, v, none⟩ = false) :
    Calls Try.prog 40 #[.int .i64 (p : Int), .pointer (some ⟨bd, 0, none⟩), .pointer (some ⟨bv, 0, none⟩)] W fun e W' => e = .returned (.tuple #[]) ∧ W' = (W.setCell ⟨gd, v, none⟩ (.int .i64 (gtr (rd ds (v : Int)) (wrap64 (rd ds (p : Int) + 1))))).drew := by
  have p0 : (0 : Int) ≤ (p : Int) := by omega
  have p1 : (p : Int) < (N : Int) := by omega
  have q0 : (0 : Int) ≤ (v : Int) := by omega
  have q1 : (v : Int) < (N : Int) := by omega
  clear hN hp hv
  go_enter Try.func40, Try.ntmps40
  go_wp2
  go_region
  go_end0
  exact ⟨rfl, rfl⟩
theorem arrTwoD0 (x0 x1 : Value) (w : World) : (Instr.index 74 (.agg #[x0, x1]) (.int .i64 0)).run Try.prog w = .ok x0 w := by kernel_rfl
theorem arrTwoD1 (x0 x1 : Value) (w : World) : (Instr.index 74 (.agg #[x0, x1]) (.int .i64 1)).run Try.prog w = .ok x1 w := by kernel_rfl
theorem varLD (x : Int) (h0 : 0 ≤ x) (h1 : x ≤ 2001) : ∃ b, lits_Var.f 3 x = some (x / 2, b, 0) := by
  unfold lits_Var.f lits_check.f
  have e : lits_check.l0 3 [x] ((([x] : List Int).length : Nat) : Int) 0 = some 0 := by
    have e1 : wrap64 (0 + 1) = 1 := by unfold wrap64; omega
    have hr : rd [x] 0 = x := rfl
    simp only [lits_check.l0, List.length_singleton, hr, e1]
    rw [if_pos (by decide), if_pos (by decide), if_pos (by decide), if_neg (by omega), if_neg (by omega), if_neg (by decide)]
  rw [e, Option.bind_some, if_pos rfl]
  exact ⟨_, rfl⟩
set_option maxHeartbeats 4000000 in
set_option maxRecDepth 100000 in
theorem partsND_calls (a0_0 : Int) (A0_1 : Option Addr) (n1 c0_1 : Nat) (A0_2 : Option Addr) (c0_2 : Nat) (l0_2 : List S50) (A0_3 : Option Addr) (n3 c0_3 : Nat) (A0_4 : Option Addr) (n4 c0_4 : Nat) (v : Int) (fv : Value) (w : World) (hv : v < st2 a0_0 n1) :
    Calls Try.prog 37 #[.agg #[.int .i64 a0_0, .slice A0_1 n1 c0_1, .slice A0_2 l0_2.length c0_2, .slice A0_3 n3 c0_3, .slice A0_4 n4 c0_4], .int .i64 v, fv] w fun e w' => e = .returned (.tuple #[]) ∧ Below w.heap.size w w' := by
  have b1 : decide (st2 a0_0 n1 ≤ v) = false := decide_eq_false (by omega)
  clear hv
  have ar := fun (x0 x1 x2 x3 : Value) (w : World) => arr2 x0 x1 x2 x3 w
  go_enter Try.func37, Try.ntmps37
  go_wp2_with (go_at_call 29; (with_reducible refine (starts_calls a0_0 A0_1 n1 c0_1 A0_2 l0_2.length c0_2 A0_3 n3 c0_3 A0_4 n4 c0_4 _).mono ?_); rintro e w1 ⟨rfl, hb1⟩; have HB := Aside0.mk (below_step (below_alloc (Below.refl _ _) _) hb1); clear hb1)
  go_end0
  exact ⟨rfl, HB.out⟩
set_option maxHeartbeats 4000000 in
set_option maxRecDepth 100000 in
theorem partsZ_calls (a0_0 : Int) (A0_1 : Option Addr) (n1 c0_1 : Nat) (A0_2 : Option Addr) (c0_2 : Nat) (l0_2 : List S50) (A0_3 : Option Addr) (n3 c0_3 : Nat) (A0_4 : Option Addr) (n4 c0_4 : Nat) (v : Int) (i : Nat) (b1 b2 : Nat) (w : World) (Q0 Q1 Q2 : World → Prop)
    (hi : i < l0_2.length) (hv : v = st2 a0_0 n1 + i) (hlo : 0 ≤ st2 a0_0 n1) (hhi : st2 a0_0 n1 ≤ 1000000) (hr : Kd.C k50 w A0_2 l0_2.length l0_2)
    (hx0 : 0 ≤ (rd_T50 l0_2 (i : Int)).f0) (hx1 : (rd_T50 l0_2 (i : Int)).f0 ≤ 2001) (hy0 : 0 ≤ (rd_T50 l0_2 (i : Int)).f1) (hy1 : (rd_T50 l0_2 (i : Int)).f1 ≤ 2001)
    (hl : l0_2.length ≤ 1000000) (q0 : Q0 w) (st0 : ∀ W W', Q0 W → Below W.heap.size W W' → Q0 W') (st1_ : ∀ W W', Q1 W → Below W.heap.size W W' → Q1 W')
    (c1 : ∀ W, Q0 W → Calls Try.prog 40 #[.int .i64 ((rd_T50 l0_2 (i : Int)).f0 / 2), .pointer (some ⟨b1, 0, none⟩), .pointer (some ⟨b2, 0, none⟩)] W fun e W' => e = .returned (.tuple #[]) ∧ Q1 W')
    (c2 : ∀ W, Q1 W → Calls Try.prog 40 #[.int .i64 ((rd_T50 l0_2 (i : Int)).f1 / 2), .pointer (some ⟨b1, 0, none⟩), .pointer (some ⟨b2, 0, none⟩)] W fun e W' => e = .returned (.tuple #[]) ∧ Q2 W') :
    Calls Try.prog 37 #[.agg #[.int .i64 a0_0, .slice A0_1 n1 c0_1, .slice A0_2 l0_2.length c0_2, .slice A0_3 n3 c0_3, .slice A0_4 n4 c0_4], .int .i64 v, .func (.func 40) #[] #[.pointer (some ⟨b1, 0, none⟩), .pointer (some ⟨b2, 0, none⟩)]] w fun e w' => e = .returned (.tuple #[]) ∧ Q2 w' := by
  have e1 : decide (st2 a0_0 n1 ≤ v) = true := decide_eq_true (by omega)
  have e2 : wrap64 (v - st2 a0_0 n1) = (i : Int) := by unfold wrap64; omega
  have p0 : (0 : Int) ≤ (i : Int) := by omega
  have p1 : (i : Int) < (l0_2.length : Int) := by omega
  obtain ⟨bA, hA⟩ := varLD _ hx0 hx1
  obtain ⟨bB, hB⟩ := varLD _ hy0 hy1
  have HR := Aside0.mk hr
  have HQ := Aside0.mk q0
  have HA := Aside0.mk hA
  have HBv := Aside0.mk hB
  have S0 := Aside0.mk st0
  have S1 := Aside0.mk st1_
  have C1 := Aside0.mk c1
  have C2 := Aside0.mk c2
  clear hr q0 hA hB st0 st1_ c1 c2 hv hlo hhi hx0 hx1 hy0 hy1 hl hi
  have hu26 := Try.underlying26
  have hu50 := Try.underlying50
  have ar := fun (x0 x1 x2 x3 : Value) (w : World) => arr2 x0 x1 x2 x3 w
  have ar0 := fun (x0 x1 : Value) (w : World) => arrTwoD0 x0 x1 w
  have ar1 := fun (x0 x1 : Value) (w : World) => arrTwoD1 x0 x1 w
  go_enter Try.func37, Try.ntmps37
  go_wp2_with (first
    | ((with_reducible refine gate_dst (N := 3) rfl ?_); refine box_event ?hg (N := 3) ?hd (cs := #[.int .i64 a0_0, .slice A0_1 n1 c0_1, .slice A0_2 l0_2.length c0_2, .slice A0_3 n3 c0_3, .slice A0_4 n4 c0_4]) (t := 26) ?hr ?_; (case hd => rfl); (case hg => rfl); (case hr => first | (go_simp; done) | (go_simp; rfl)); intro gb hg w12 hbox hb; have HB := Aside0.mk (below_step (Below.refl _ w) hb); have BK := Aside0.mk hbox; clear hb hbox hg; have hz0 : w12.cell? ⟨gb, 0, none⟩ = some (.int .i64 a0_0) := (blk_cell BK.out 0).trans rfl; have hz1 : w12.cell? ⟨gb, 1, none⟩ = some (.slice A0_1 n1 c0_1) := (blk_cell BK.out 1).trans rfl; have hz2 : w12.cell? ⟨gb, 2, none⟩ = some (.slice A0_2 l0_2.length c0_2) := (blk_cell BK.out 2).trans rfl; have hz3 : w12.cell? ⟨gb, 3, none⟩ = some (.slice A0_3 n3 c0_3) := (blk_cell BK.out 3).trans rfl; have hz4 : w12.cell? ⟨gb, 4, none⟩ = some (.slice A0_4 n4 c0_4) := (blk_cell BK.out 4).trans rfl)
    | (go_at_call 29; (with_reducible refine (starts_calls a0_0 A0_1 n1 c0_1 A0_2 l0_2.length c0_2 A0_3 n3 c0_3 A0_4 n4 c0_4 _).mono ?_); rintro e w1 ⟨rfl, hb1⟩; have n0_ := Aside0.mk (below_step HB.out hb1); have n1_ := Aside0.mk (blk_below BK.out hb1); clear HB BK hb1 hz0 hz1 hz2 hz3 hz4; have HB := n0_; have BK := n1_; clear n0_ n1_; have hz2 : w1.cell? ⟨gb, 2, none⟩ = some (.slice A0_2 l0_2.length c0_2) := (blk_cell BK.out 2).trans rfl; obtain ⟨ad, rfl, hx, hy⟩ := at_T50n (Kd.C_below HR.out HB.out) i (by omega)))
  simp only [e2]
  clear e2
  go_loopg [31] 3 (fun kq v31 w' => ∃ (t : Nat), v31 = .int .i64 (t : Int) ∧ Aside0 (kq + t = 3 ∧ t ≤ 2) ∧ Aside0 ((t = 0 → Q0 w') ∧ (t = 1 → Q1 w') ∧ (t = 2 → Q2 w')))
  case atStart => exact ⟨0, by simp, ⟨by omega, by omega⟩, ⟨fun _ => S0.out _ _ HQ.out (below_alloc HB.out _), fun h => absurd h (by decide), fun h => absurd h (by decide)⟩⟩
  case round =>
    obtain ⟨t, rfl, HT, HS⟩ := hrel
    have hT := HT.out.2
    have ht3 : t = 0 ∨ t = 1 ∨ t = 2 := by omega
    clear hT HB BK hz2 hx hy
    rcases ht3 with rfl | rfl | rfl
    · have HQ0 := Aside0.mk (HS.out.1 rfl)
      go_wp2_with (first
        | (go_at_call 35; (with_reducible refine (lits_Var.calls 3 _ _ bA 0 _ HA.out).mono ?_); rintro e w2 ⟨rfl, hb2⟩; have HQ1 := Aside0.mk (S0.out _ _ HQ0.out hb2); clear hb2)
        | (go_at_call 40; (with_reducible refine (C1.out _ HQ1.out).mono ?_); rintro e w3 ⟨rfl, hq⟩; have HQ2 := Aside0.mk hq; clear hq))
      go_roundg (gk - 1)
      case rel => exact ⟨1, rfl, ⟨by have := HT.out; omega, by omega⟩, ⟨fun h => absurd h (by decide), fun _ => HQ2.out, fun h => absurd h (by decide)⟩⟩
      case measure => have := HT.out; omega
    · have HQ0 := Aside0.mk (HS.out.2.1 rfl)
      go_wp2_with (first
        | (go_at_call 35; (with_reducible refine (lits_Var.calls 3 _ _ bB 0 _ HBv.out).mono ?_); rintro e w2 ⟨rfl, hb2⟩; have HQ1 := Aside0.mk (S1.out _ _ HQ0.out hb2); clear hb2)
        | (go_at_call 40; (with_reducible refine (C2.out _ HQ1.out).mono ?_); rintro e w3 ⟨rfl, hq⟩; have HQ2 := Aside0.mk hq; clear hq))
      go_roundg (gk - 1)
      case rel => exact ⟨2, rfl, ⟨by have := HT.out; omega, by omega⟩, ⟨fun h => absurd h (by decide), fun h => absurd h (by decide), fun _ => HQ2.out⟩⟩
      case measure => have := HT.out; omega
    · have HQ0 := Aside0.mk (HS.out.2.2 rfl)
      go_wp2
      go_end0
      exact ⟨rfl, HQ0.out⟩
/-- The world of the depths: the circuit, the depths, in blocks of their own. -/
structure StD (w W : World) (bc bd gd cap N : Nat) (cells : Array Value) (ds : List Int) : Prop where
  hb : Below w.heap.size w W
  lc : w.heap.size ≤ bc
  ld : w.heap.size ≤ bd
  hc : W.heap[bc]? = some (.cells cells 26 (0, 0))
  hd : W.heap[bd]? = some (.cells #[.slice (some ⟨gd, 0, none⟩) N cap] 24 (0, 0))
  hR : Kd.R (Kd.int .i64) 3 W w.heap.size (fun _ => True) (.slice (some ⟨gd, 0, none⟩) N cap) ds
  hN : ds.length = N
theorem blkD_ty {W : World} {a b t t' : Nat} {c c' : Array Value} (h : W.heap[a]? = some (.cells c t (0, 0))) (h' : W.heap[b]? = some (.cells c' t' (0, 0))) (ne : t ≠ t') : a ≠ b := by
  rintro rfl
  rw [h] at h'
  injection h' with h'
  injection h' with _ h'
  exact ne h'
section
variable {w W : World} {bc bd gd cap N : Nat} {cl : Array Value} {ds : List Int}
theorem StD.row (h : StD w W bc bd gd cap N cl ds) : w.heap.size ≤ gd ∧ (∃ cur, W.heap[gd]? = some (.cells cur 3 (0, 0))) ∧ gd < W.heap.size := by
  have ho := Kd.own_of_R h.hR
  rcases ho.2 with ⟨e, hz⟩ | ⟨g, cap', cur, e, hg, hh, q1, q2, q3, q4⟩
  · cases e
  · cases e
    exact ⟨hg, ⟨cur, hh⟩, (Array.getElem?_eq_some_iff.1 hh).1⟩
theorem StD.below (h : StD w W bc bd gd cap N cl ds) {W' : World} (hb : Below W.heap.size W W') : StD w W' bc bd gd cap N cl ds := by
  obtain ⟨h0, h1, h2, hc, hd, hR, hN⟩ := h
  have lt : ∀ {k : Nat} {x : Obj}, W.heap[k]? = some x → W'.heap[k]? = some x := fun hk => (hb.block _ (Array.getElem?_eq_some_iff.1 hk).1).trans hk
  exact ⟨below_step h0 hb, h1, h2, lt hc, lt hd, Kd.R_below hR hb, hN⟩
theorem StD.set (h : StD w W bc bd gd cap N cl ds) (v : Nat) (x : Int) : StD w ((W.setCell ⟨gd, v, none⟩ (.int .i64 x)).drew) bc bd gd cap N cl (ds.set v x) := by
  obtain ⟨hg, ⟨cur, hcur⟩, -⟩ := h.row
  obtain ⟨h0, h1, h2, hc, hd, hR, hN⟩ := h
  refine ⟨(show Below w.heap.size w (W.setCell ⟨gd, v, none⟩ (.int .i64 x)) from h0.setCell hg _).drew, h1, h2, blk_far hc (blkD_ty hc hcur (by decide)) _, blk_far hd (blkD_ty hd hcur (by decide)) _, ?_, by rw [List.length_set]; exact hN⟩
  have := Kd.R_putn hR (v : Int) x
  rw [Int.toNat_natCast] at this
  exact this
theorem StD.at_ (h : StD w W bc bd gd cap N cl ds) (v : Nat) (hv : v < N) : W.cell? ⟨gd, v, none⟩ = some (.int .i64 (rd ds (v : Int))) ∧ W.frozen? ⟨gd, v, none⟩ = false := by
  have hR := h.hR
  have hN := h.hN
  subst hN
  have := Kd.R_cell 0 hR (v : Int) (by omega) (by omega)
  exact this
end
/-- One variable's depth. -/
def depthStep (first : Int) (gs : List S50) (ds : List Int) (v : Nat) : List Int :=
  if first ≤ (v : Int) then
    let d1 := ds.set v (gtr (rd ds (v : Int)) (wrap64 (rd ds ((rd_T50 gs ((v : Int) - first)).f0 / 2) + 1)))
    d1.set v (gtr (rd d1 (v : Int)) (wrap64 (rd d1 ((rd_T50 gs ((v : Int) - first)).f1 / 2) + 1)))
  else ds
/-- The depths of the variables before n. -/
def depthsV (first : Int) (gs : List S50) (N : Nat) : Nat → List Int
  | 0 => List.replicate N 0
  | n + 1 => depthStep first gs (depthsV first gs N n) n
set_option maxHeartbeats 4000000 in
set_option maxRecDepth 100000 in
theorem step_calls (a0_0 : Int) (A0_1 : Option Addr) (n1 c0_1 : Nat) (A0_2 : Option Addr) (c0_2 : Nat) (l0_2 : List S50) (A0_3 : Option Addr) (n3 c0_3 : Nat) (A0_4 : Option Addr) (n4 c0_4 : Nat) (w : World) (bc bd bv gd cap N v : Nat) (ds : List Int) (W : World)
    (hr : Kd.C k50 w A0_2 l0_2.length l0_2) (hlo : 0 ≤ st2 a0_0 n1) (hhi : st2 a0_0 n1 ≤ 1000000) (hl2 : l0_2.length ≤ 1000000) (hN : (N : Int) = st2 a0_0 n1 + l0_2.length)
    (hg : ∀ i : Nat, i < l0_2.length → 0 ≤ (rd_T50 l0_2 (i : Int)).f0 ∧ (rd_T50 l0_2 (i : Int)).f0 ≤ 2001 ∧ 0 ≤ (rd_T50 l0_2 (i : Int)).f1 ∧ (rd_T50 l0_2 (i : Int)).f1 ≤ 2001 ∧ (rd_T50 l0_2 (i : Int)).f0 / 2 < st2 a0_0 n1 + i ∧ (rd_T50 l0_2 (i : Int)).f1 / 2 < st2 a0_0 n1 + i)
    (hv : v < N) (h : StD w W bc bd gd cap N #[.int .i64 a0_0, .slice A0_1 n1 c0_1, .slice A0_2 l0_2.length c0_2, .slice A0_3 n3 c0_3, .slice A0_4 n4 c0_4] ds) (hb : W.heap[bv]? = some (.cells #[.int .i64 (v : Int)] 3 (0, 0))) (hne : bv ≠ gd) :
    Calls Try.prog 37 #[.agg #[.int .i64 a0_0, .slice A0_1 n1 c0_1, .slice A0_2 l0_2.length c0_2, .slice A0_3 n3 c0_3, .slice A0_4 n4 c0_4], .int .i64 (v : Int), .func (.func 40) #[] #[.pointer (some ⟨bd, 0, none⟩), .pointer (some ⟨bv, 0, none⟩)]] W fun e W' => e = .returned (.tuple #[]) ∧ StD w W' bc bd gd cap N #[.int .i64 a0_0, .slice A0_1 n1 c0_1, .slice A0_2 l0_2.length c0_2, .slice A0_3 n3 c0_3, .slice A0_4 n4 c0_4] (depthStep (st2 a0_0 n1) l0_2 ds v) := by
  by_cases cF : (v : Int) < st2 a0_0 n1
  · refine (partsND_calls a0_0 A0_1 n1 c0_1 A0_2 c0_2 l0_2 A0_3 n3 c0_3 A0_4 n4 c0_4 (v : Int) _ W cF).mono ?_
    rintro e w3 ⟨rfl, hb3⟩
    refine ⟨rfl, ?_⟩
    unfold depthStep
    rw [if_neg (by omega)]
    exact h.below hb3
  · obtain ⟨i, hi⟩ : ∃ i : Nat, (v : Int) = st2 a0_0 n1 + (i : Int) := ⟨((v : Int) - st2 a0_0 n1).toNat, by omega⟩
    have hil : i < l0_2.length := by omega
    obtain ⟨g0, g1, g2, g3, g4, g5⟩ := hg i hil
    have eA : (rd_T50 l0_2 (i : Int)).f0 / 2 = (((rd_T50 l0_2 (i : Int)).f0 / 2).toNat : Int) := by omega
    have eB : (rd_T50 l0_2 (i : Int)).f1 / 2 = (((rd_T50 l0_2 (i : Int)).f1 / 2).toNat : Int) := by omega
    have one : ∀ (W' : World) (ds' : List Int) (p : Nat), p < N → StD w W' bc bd gd cap N #[.int .i64 a0_0, .slice A0_1 n1 c0_1, .slice A0_2 l0_2.length c0_2, .slice A0_3 n3 c0_3, .slice A0_4 n4 c0_4] ds' → W'.heap[bv]? = some (.cells #[.int .i64 (v : Int)] 3 (0, 0)) →
        Calls Try.prog 40 #[.int .i64 (p : Int), .pointer (some ⟨bd, 0, none⟩), .pointer (some ⟨bv, 0, none⟩)] W' fun e W'' => e = .returned (.tuple #[]) ∧ StD w W'' bc bd gd cap N #[.int .i64 a0_0, .slice A0_1 n1 c0_1, .slice A0_2 l0_2.length c0_2, .slice A0_3 n3 c0_3, .slice A0_4 n4 c0_4] (ds'.set v (gtr (rd ds' (v : Int)) (wrap64 (rd ds' (p : Int) + 1)))) ∧ W''.heap[bv]? = some (.cells #[.int .i64 (v : Int)] 3 (0, 0)) := by
      intro W' ds' p hp hs hbv
      refine (depth1_calls v p N cap gd bd bv ds' W' hs.hN hp hv ((blk_cell hs.hd 0).trans rfl) ((blk_cell hbv 0).trans rfl) (hs.at_ v hv).1 (hs.at_ p hp).1 (hs.at_ v hv).2).mono ?_
      rintro e W'' ⟨rfl, rfl⟩
      exact ⟨rfl, hs.set v _, blk_far hbv hne _⟩
    have estep : depthStep (st2 a0_0 n1) l0_2 ds v = (ds.set v (gtr (rd ds (v : Int)) (wrap64 (rd ds ((rd_T50 l0_2 (i : Int)).f0 / 2) + 1)))).set v (gtr (rd (ds.set v (gtr (rd ds (v : Int)) (wrap64 (rd ds ((rd_T50 l0_2 (i : Int)).f0 / 2) + 1)))) (v : Int)) (wrap64 (rd (ds.set v (gtr (rd ds (v : Int)) (wrap64 (rd ds ((rd_T50 l0_2 (i : Int)).f0 / 2) + 1)))) ((rd_T50 l0_2 (i : Int)).f1 / 2) + 1))) := by
      unfold depthStep
      rw [if_pos (by omega), show (v : Int) - st2 a0_0 n1 = (i : Int) by omega]
    rw [estep]
    refine (partsZ_calls a0_0 A0_1 n1 c0_1 A0_2 c0_2 l0_2 A0_3 n3 c0_3 A0_4 n4 c0_4 (v : Int) i bd bv W (fun W' => StD w W' bc bd gd cap N #[.int .i64 a0_0, .slice A0_1 n1 c0_1, .slice A0_2 l0_2.length c0_2, .slice A0_3 n3 c0_3, .slice A0_4 n4 c0_4] ds ∧ W'.heap[bv]? = some (.cells #[.int .i64 (v : Int)] 3 (0, 0)))
      (fun W' => StD w W' bc bd gd cap N #[.int .i64 a0_0, .slice A0_1 n1 c0_1, .slice A0_2 l0_2.length c0_2, .slice A0_3 n3 c0_3, .slice A0_4 n4 c0_4] (ds.set v (gtr (rd ds (v : Int)) (wrap64 (rd ds ((rd_T50 l0_2 (i : Int)).f0 / 2) + 1)))) ∧ W'.heap[bv]? = some (.cells #[.int .i64 (v : Int)] 3 (0, 0)))
      (fun W' => StD w W' bc bd gd cap N #[.int .i64 a0_0, .slice A0_1 n1 c0_1, .slice A0_2 l0_2.length c0_2, .slice A0_3 n3 c0_3, .slice A0_4 n4 c0_4] ((ds.set v (gtr (rd ds (v : Int)) (wrap64 (rd ds ((rd_T50 l0_2 (i : Int)).f0 / 2) + 1)))).set v (gtr (rd (ds.set v (gtr (rd ds (v : Int)) (wrap64 (rd ds ((rd_T50 l0_2 (i : Int)).f0 / 2) + 1)))) (v : Int)) (wrap64 (rd (ds.set v (gtr (rd ds (v : Int)) (wrap64 (rd ds ((rd_T50 l0_2 (i : Int)).f0 / 2) + 1)))) ((rd_T50 l0_2 (i : Int)).f1 / 2) + 1)))) ∧ W'.heap[bv]? = some (.cells #[.int .i64 (v : Int)] 3 (0, 0)))
      hil hi hlo hhi (Kd.C_below hr h.hb) g0 g1 g2 g3 hl2 ⟨h, hb⟩ (fun W1 W2 q b => ⟨q.1.below b, (b.block _ (Array.getElem?_eq_some_iff.1 q.2).1).trans q.2⟩) (fun W1 W2 q b => ⟨q.1.below b, (b.block _ (Array.getElem?_eq_some_iff.1 q.2).1).trans q.2⟩) ?_ ?_).mono ?_
    · intro W' hq
      rw [eA]
      exact one W' ds _ (by omega) hq.1 hq.2
    · intro W' hq
      rw [eB]
      exact one W' _ _ (by omega) hq.1 hq.2
    · rintro e w3 ⟨rfl, hq⟩
      exact ⟨rfl, hq.1⟩
/-- The gates are in order, and few. -/
def depthOk (a0_0 : Int) (n1 : Nat) (gs : List S50) : Bool := decide (0 ≤ a0_0 ∧ a0_0 ≤ 100000 ∧ n1 ≤ 100000 ∧ gs.length ≤ 100000) && (List.range gs.length).all fun i => decide (0 ≤ (rd_T50 gs (i : Int)).f0 ∧ (rd_T50 gs (i : Int)).f0 ≤ 2001 ∧ 0 ≤ (rd_T50 gs (i : Int)).f1 ∧ (rd_T50 gs (i : Int)).f1 ≤ 2001 ∧ (rd_T50 gs (i : Int)).f0 / 2 < 1 + a0_0 + n1 + i ∧ (rd_T50 gs (i : Int)).f1 / 2 < 1 + a0_0 + n1 + i)
def gates_Depth.f (k : Nat) (a0_0 : Int) (l0_1 : List S53) (l0_2 : List S50) (l0_3 : List Int) (l0_4 : List Int) : Option (Int × Int) :=
  (gates_Vars.f a0_0 l0_1 l0_2 l0_3 l0_4).bind fun p => if p.2 = 0 then
    (if depthOk a0_0 l0_1.length l0_2 = true ∧ p.1 = a0_0 + l0_1.length + l0_2.length then (slices_Max_int_int.f k (depthsV (1 + a0_0 + l0_1.length) l0_2 (p.1 + 1).toNat (p.1 + 1).toNat)).bind fun m => some (m, 0) else none) else some (0, p.2)
theorem gates_Depth.mono : ∀ a0 a1 a2 a3 a4 k, LeO (gates_Depth.f k a0 a1 a2 a3 a4) (gates_Depth.f (k + 1) a0 a1 a2 a3 a4) := by
  intro a0 a1 a2 a3 a4 k
  unfold gates_Depth.f
  repeat' first
    | (with_reducible exact slices_Max_int_int.mono _ _)
    | (with_reducible exact LeO.refl _)
    | (with_reducible exact LeO.none _)
    | (with_reducible refine LeO.ite ?_ ?_)
    | (with_reducible refine LeO.bind ?_ (fun _ => ?_))
theorem infoIVD : (Try.prog.info? 3).map (fun i => (i.zero, i.size, i.bytes)) = some (some (.int .i64 0), 1, 8) := by kernel_rfl
theorem wrapJ (j : Nat) (h : j ≤ 1000000) : wrap64 ((j : Int) + 1) = ((j + 1 : Nat) : Int) := by unfold wrap64; omega
set_option maxHeartbeats 4000000 in
set_option maxRecDepth 100000 in
theorem gates_Depth.calls (k : Nat) (a0_0 : Int) (A0_1 : Option Addr) (c0_1 : Nat) (l0_1 : List S53) (A0_2 : Option Addr) (c0_2 : Nat) (l0_2 : List S50) (A0_3 : Option Addr) (c0_3 : Nat) (l0_3 : List Int) (A0_4 : Option Addr) (c0_4 : Nat) (l0_4 : List Int) (r1 : Int) (r2 : Int) (w : World) (hr0_1 : Kd.C k53 w A0_1 l0_1.length l0_1) (hc0_1 : l0_1.length ≤ c0_1) (hr0_2 : Kd.C k50 w A0_2 l0_2.length l0_2) (hc0_2 : l0_2.length ≤ c0_2) (hr0_3 : Kd.C (Kd.int .i64) w A0_3 l0_3.length l0_3) (hc0_3 : l0_3.length ≤ c0_3) (hr0_4 : Kd.C (Kd.int .i64) w A0_4 l0_4.length l0_4) (hc0_4 : l0_4.length ≤ c0_4) (h : gates_Depth.f k a0_0 l0_1 l0_2 l0_3 l0_4 = some (r1, r2)) :
    Calls Try.prog 21 #[.agg #[.int .i64 a0_0, .slice A0_1 l0_1.length c0_1, .slice A0_2 l0_2.length c0_2, .slice A0_3 l0_3.length c0_3, .slice A0_4 l0_4.length c0_4]] w fun e w' => e = .returned (.tuple #[.int .i64 r1, .int .i64 r2]) ∧ Below w.heap.size w w' := by
  have hu26 := Try.underlying26
  have hu24 := Try.underlying24
  have HR0_1 := Aside0.mk hr0_1
  have HR0_2 := Aside0.mk hr0_2
  have HR0_3 := Aside0.mk hr0_3
  have HR0_4 := Aside0.mk hr0_4
  have HC0_1 := Aside0.mk hc0_1
  have HC0_2 := Aside0.mk hc0_2
  have HC0_3 := Aside0.mk hc0_3
  have HC0_4 := Aside0.mk hc0_4
  clear hr0_1 hr0_2 hr0_3 hr0_4 hc0_1 hc0_2 hc0_3 hc0_4
  unfold gates_Depth.f at h
  obtain ⟨⟨n, e0⟩, hv, h⟩ := Option.bind_eq_some_iff.mp h
  have HV := Aside0.mk hv
  clear hv
  simp only at h
  by_cases c : e0 = 0
  · rw [if_pos c] at h
    subst c
    by_cases c : depthOk a0_0 l0_1.length l0_2 = true ∧ n = a0_0 + l0_1.length + l0_2.length
    · rw [if_pos c] at h
      obtain ⟨m, hm, h⟩ := Option.bind_eq_some_iff.mp h
      simp only [Option.some.injEq, Prod.mk.injEq] at h
      obtain ⟨rfl, rfl⟩ := h
      obtain ⟨cok, hn⟩ := c
      unfold depthOk at cok
      rw [Bool.and_eq_true, decide_eq_true_eq, List.all_eq_true] at cok
      obtain ⟨⟨a0, a1', n1', n2'⟩, hgs⟩ := cok
      have hst : st2 a0_0 l0_1.length = 1 + a0_0 + (l0_1.length : Int) := by unfold st2 st1 wrap64; omega
      have hgs' : ∀ i : Nat, i < l0_2.length → 0 ≤ (rd_T50 l0_2 (i : Int)).f0 ∧ (rd_T50 l0_2 (i : Int)).f0 ≤ 2001 ∧ 0 ≤ (rd_T50 l0_2 (i : Int)).f1 ∧ (rd_T50 l0_2 (i : Int)).f1 ≤ 2001 ∧ (rd_T50 l0_2 (i : Int)).f0 / 2 < st2 a0_0 l0_1.length + i ∧ (rd_T50 l0_2 (i : Int)).f1 / 2 < st2 a0_0 l0_1.length + i := fun i hi => by
        have := of_decide_eq_true (hgs i (List.mem_range.2 hi))
        rw [hst]
        exact this
      obtain ⟨N, hN⟩ : ∃ N : Nat, n + 1 = (N : Int) := ⟨(n + 1).toNat, by omega⟩
      have hNt : (n + 1).toNat = N := by omega
      have w1 : wrap64 (n + 1) = (N : Int) := by unfold wrap64; omega
      have hNN : (N : Int) = st2 a0_0 l0_1.length + l0_2.length := by rw [hst]; omega
      have HH := Aside0.mk (And.intro (show 0 ≤ st2 a0_0 l0_1.length by omega) (And.intro (show st2 a0_0 l0_1.length ≤ 1000000 by omega) (And.intro (show l0_2.length ≤ 1000000 by omega) hNN)))
      have HG := Aside0.mk hgs'
      have HLT := Aside0.mk (And.intro (show 0 < N by omega) (show N ≤ 1000000 by omega))
      have HW1 := Aside0.mk w1
      rw [hNt, ← hst] at hm
      have HM := Aside0.mk hm
      clear hgs hgs' a0 a1' n1' n2' hst hn hN hNt hNN w1 hm
      go_enter Try.func21, Try.ntmps21
      go_wp2_with (first | ((with_reducible refine gate_dst (N := 1) rfl ?_); refine box_event ?hg (N := 1) ?hd (cs := #[.int .i64 a0_0, .slice A0_1 l0_1.length c0_1, .slice A0_2 l0_2.length c0_2, .slice A0_3 l0_3.length c0_3, .slice A0_4 l0_4.length c0_4]) (t := 26) ?hr ?_; (case hd => rfl); (case hg => rfl); (case hr => first | (go_simp; done) | (go_simp; rfl)); intro gb hg w12 hbox hb; have HB := Aside0.mk (below_step (Below.refl _ w) hb); have BK := Aside0.mk hbox; have GE := Aside0.mk (show w.heap.size ≤ gb by rw [hg]; exact Nat.le_refl _); clear hb hbox hg; have hz0 : w12.cell? ⟨gb, 0, none⟩ = some (.int .i64 a0_0) := (blk_cell BK.out 0).trans rfl; have hz1 : w12.cell? ⟨gb, 1, none⟩ = some (.slice A0_1 l0_1.length c0_1) := (blk_cell BK.out 1).trans rfl; have hz2 : w12.cell? ⟨gb, 2, none⟩ = some (.slice A0_2 l0_2.length c0_2) := (blk_cell BK.out 2).trans rfl; have hz3 : w12.cell? ⟨gb, 3, none⟩ = some (.slice A0_3 l0_3.length c0_3) := (blk_cell BK.out 3).trans rfl; have hz4 : w12.cell? ⟨gb, 4, none⟩ = some (.slice A0_4 l0_4.length c0_4) := (blk_cell BK.out 4).trans rfl) | (go_at_call 12; (with_reducible refine (gates_Vars.calls a0_0 A0_1 c0_1 l0_1 A0_2 c0_2 l0_2 A0_3 c0_3 l0_3 A0_4 c0_4 l0_4 _ _ _ ?s1 ?s2 ?s3 ?s4 ?s5 ?s6 ?s7 ?s8 HV.out).mono ?_); (case s1 => exact Kd.C_below HR0_1.out HB.out); (case s2 => exact HC0_1.out); (case s3 => exact Kd.C_below HR0_2.out HB.out); (case s4 => exact HC0_2.out); (case s5 => exact Kd.C_below HR0_3.out HB.out); (case s6 => exact HC0_3.out); (case s7 => exact Kd.C_below HR0_4.out HB.out); (case s8 => exact HC0_4.out); rintro e w13 ⟨rfl, hb⟩; have n1_ := Aside0.mk (blk_below BK.out hb); have n2_ := Aside0.mk (below_step HB.out hb); clear BK HB hb hz0 hz1 hz2 hz3 hz4; have BK := n1_; have HB := n2_; clear n1_ n2_; have hz0 : w13.cell? ⟨gb, 0, none⟩ = some (.int .i64 a0_0) := (blk_cell BK.out 0).trans rfl; have hz1 : w13.cell? ⟨gb, 1, none⟩ = some (.slice A0_1 l0_1.length c0_1) := (blk_cell BK.out 1).trans rfl; have hz2 : w13.cell? ⟨gb, 2, none⟩ = some (.slice A0_2 l0_2.length c0_2) := (blk_cell BK.out 2).trans rfl; have hz3 : w13.cell? ⟨gb, 3, none⟩ = some (.slice A0_3 l0_3.length c0_3) := (blk_cell BK.out 3).trans rfl; have hz4 : w13.cell? ⟨gb, 4, none⟩ = some (.slice A0_4 l0_4.length c0_4) := (blk_cell BK.out 4).trans rfl) | ((with_reducible refine gate_dst (N := 18) rfl ?_); refine Kd.R_make (Kd.int .i64) _ 3 rfl (N := 18) rfl 24 _ _ rfl (wrap64 (n + 1)) rfl rfl Try.underlying24 (.int .i64 0) 8 infoIVD rfl (by decide) (by omega) 0 (ok := fun _ => True) (okp := fun _ => True) rfl (fun _ hk => hk) trivial (by rw [HW1.out]; omega) (by rw [HW1.out]; have := HLT.out.2; omega) (Below.refl _ _) (Nat.le_refl _) ?_; intro v5 w5 ho hb hg_ hnew_; clear hg_ hnew_; rw [HW1.out, Int.toNat_natCast] at ho; have HR5 := Aside0.mk (Kd.R_lower ho (below_size HB.out)); have n1_ := Aside0.mk (blk_below BK.out hb); have n2_ := Aside0.mk (below_step HB.out hb); clear BK HB ho hb hz0 hz1 hz2 hz3 hz4; have BK := n1_; have HB := n2_; clear n1_ n2_; obtain ⟨gd, cap, e5, q1, q2, q3, q4⟩ := Kd.R_form HR5.out (by simpa using HLT.out.1); clear q1 q2 q3 q4; rw [List.length_replicate] at e5; subst e5; have HSD := Aside0.mk (show StD w (w5.alloc (.cells #[.slice (some ⟨gd, 0, none⟩) N cap] 24)) gb w5.heap.size gd cap N #[.int .i64 a0_0, .slice A0_1 l0_1.length c0_1, .slice A0_2 l0_2.length c0_2, .slice A0_3 l0_3.length c0_3, .slice A0_4 l0_4.length c0_4] (List.replicate N 0) from ⟨below_alloc HB.out _, GE.out, HB.out.size, blk_alloc BK.out _, heap_alloc_new _ _, Kd.R_alloc HR5.out _, by simp⟩)))
      go_loopg [21] (N + 1) (fun kq v21 w' => ∃ (j : Nat), v21 = .int .i64 (j : Int) ∧ Aside0 (kq + j = N + 1 ∧ j ≤ N) ∧ Aside0 (StD w w' gb w5.heap.size gd cap N #[.int .i64 a0_0, .slice A0_1 l0_1.length c0_1, .slice A0_2 l0_2.length c0_2, .slice A0_3 l0_3.length c0_3, .slice A0_4 l0_4.length c0_4] (depthsV (st2 a0_0 l0_1.length) l0_2 N j)))
      case atStart => exact ⟨0, by simp, ⟨by omega, by omega⟩, HSD⟩
      case round =>
        clear HSD HB BK HR5
        obtain ⟨j, rfl, HJ, HS⟩ := hrel
        by_cases c : j < N
        · have cb : decide (j < N) = true := decide_eq_true c
          have hk0 : (wr.alloc (.cells #[.int .i64 (j : Int)] 3)).cell? ⟨gb, 0, none⟩ = some (.int .i64 a0_0) := Lib.cell?_alloc_some _ ((blk_cell HS.out.hc 0).trans rfl)
          have hk1 : (wr.alloc (.cells #[.int .i64 (j : Int)] 3)).cell? ⟨gb, 1, none⟩ = some (.slice A0_1 l0_1.length c0_1) := Lib.cell?_alloc_some _ ((blk_cell HS.out.hc 1).trans rfl)
          have hk2 : (wr.alloc (.cells #[.int .i64 (j : Int)] 3)).cell? ⟨gb, 2, none⟩ = some (.slice A0_2 l0_2.length c0_2) := Lib.cell?_alloc_some _ ((blk_cell HS.out.hc 2).trans rfl)
          have hk3 : (wr.alloc (.cells #[.int .i64 (j : Int)] 3)).cell? ⟨gb, 3, none⟩ = some (.slice A0_3 l0_3.length c0_3) := Lib.cell?_alloc_some _ ((blk_cell HS.out.hc 3).trans rfl)
          have hk4 : (wr.alloc (.cells #[.int .i64 (j : Int)] 3)).cell? ⟨gb, 4, none⟩ = some (.slice A0_4 l0_4.length c0_4) := Lib.cell?_alloc_some _ ((blk_cell HS.out.hc 4).trans rfl)
          have WJ := Aside0.mk (wrapJ j (by have := HLT.out.2; omega))
          have HSA := Aside0.mk (HS.out.below (below_alloc (Below.refl _ wr) (.cells #[.int .i64 (j : Int)] 3)))
          have HC := Aside0.mk c
          have HNE := Aside0.mk (show wr.heap.size ≠ gd by have := HS.out.row.2.2; omega)
          clear c
          go_wp2_with (go_at_call 37; go_loud ((with_reducible refine (step_calls a0_0 A0_1 l0_1.length c0_1 A0_2 c0_2 l0_2 A0_3 l0_3.length c0_3 A0_4 l0_4.length c0_4 w gb w5.heap.size wr.heap.size gd cap N j (depthsV (st2 a0_0 l0_1.length) l0_2 N j) _ ?s1 ?s2 ?s3 ?s4 ?s5 ?s6 ?s7 ?s8 ?s9 ?s10).mono ?_); (case s1 => exact HR0_2.out); (case s2 => exact HH.out.1); (case s3 => exact HH.out.2.1); (case s4 => exact HH.out.2.2.1); (case s5 => exact HH.out.2.2.2); (case s6 => exact HG.out); (case s7 => exact HC.out); (case s8 => exact HSA.out); (case s9 => exact heap_alloc_new _ _); (case s10 => exact HNE.out); rintro e w8 ⟨rfl, hq⟩; have HS8 := Aside0.mk hq; clear hq))
          go_roundg (gk - 1)
          case rel => exact ⟨j + 1, by rw [WJ.out], ⟨by have := HJ.out; omega, HC.out⟩, HS8⟩
          case measure => have := HJ.out; omega
        · have cb : decide (j < N) = false := decide_eq_false c
          have hj : j = N := by have := HJ.out.2; omega
          have HMX := Aside0.mk (show Calls Try.prog 41 #[.slice (some ⟨gd, 0, none⟩) N cap] wr fun e w'' => e = .returned (.int .i64 m) ∧ Below wr.heap.size wr w'' by
            subst hj
            obtain ⟨e1, e2, e3⟩ := Kd.R_reads' HS.out.hR
            have := slices_Max_int_int.calls k (some ⟨gd, 0, none⟩) cap _ m wr e3 (by rw [HS.out.hN]; exact e2) HM.out
            rw [HS.out.hN] at this
            exact this)
          have hzd : wr.cell? ⟨w5.heap.size, 0, none⟩ = some (.slice (some ⟨gd, 0, none⟩) N cap) := (blk_cell HS.out.hd 0).trans rfl
          clear hj c
          go_wp2_with (go_at_call 41; go_loud ((with_reducible refine (HMX.out).mono ?_); rintro e w9 ⟨rfl, hb9⟩; have HB9 := Aside0.mk (below_step HS.out.hb hb9); clear hb9))
          go_ret2
          exact ⟨rfl, HB9.out⟩
    · rw [if_neg c] at h
      simp at h
  · rw [if_neg c] at h
    simp only [Option.some.injEq, Prod.mk.injEq] at h
    obtain ⟨rfl, rfl⟩ := h
    have b1 : (e0 != 0) = true := bne_iff_ne.mpr c
    clear c
    go_enter Try.func21, Try.ntmps21
    go_wp2_with (first | ((with_reducible refine gate_dst (N := 1) rfl ?_); refine box_event ?hg (N := 1) ?hd (cs := #[.int .i64 a0_0, .slice A0_1 l0_1.length c0_1, .slice A0_2 l0_2.length c0_2, .slice A0_3 l0_3.length c0_3, .slice A0_4 l0_4.length c0_4]) (t := 26) ?hr ?_; (case hd => rfl); (case hg => rfl); (case hr => first | (go_simp; done) | (go_simp; rfl)); intro gb hg w12 hbox hb; have HB := Aside0.mk (below_step (Below.refl _ w) hb); have BK := Aside0.mk hbox; have GE := Aside0.mk (show w.heap.size ≤ gb by rw [hg]; exact Nat.le_refl _); clear hb hbox hg; have hz0 : w12.cell? ⟨gb, 0, none⟩ = some (.int .i64 a0_0) := (blk_cell BK.out 0).trans rfl; have hz1 : w12.cell? ⟨gb, 1, none⟩ = some (.slice A0_1 l0_1.length c0_1) := (blk_cell BK.out 1).trans rfl; have hz2 : w12.cell? ⟨gb, 2, none⟩ = some (.slice A0_2 l0_2.length c0_2) := (blk_cell BK.out 2).trans rfl; have hz3 : w12.cell? ⟨gb, 3, none⟩ = some (.slice A0_3 l0_3.length c0_3) := (blk_cell BK.out 3).trans rfl; have hz4 : w12.cell? ⟨gb, 4, none⟩ = some (.slice A0_4 l0_4.length c0_4) := (blk_cell BK.out 4).trans rfl) | (go_at_call 12; (with_reducible refine (gates_Vars.calls a0_0 A0_1 c0_1 l0_1 A0_2 c0_2 l0_2 A0_3 c0_3 l0_3 A0_4 c0_4 l0_4 _ _ _ ?s1 ?s2 ?s3 ?s4 ?s5 ?s6 ?s7 ?s8 HV.out).mono ?_); (case s1 => exact Kd.C_below HR0_1.out HB.out); (case s2 => exact HC0_1.out); (case s3 => exact Kd.C_below HR0_2.out HB.out); (case s4 => exact HC0_2.out); (case s5 => exact Kd.C_below HR0_3.out HB.out); (case s6 => exact HC0_3.out); (case s7 => exact Kd.C_below HR0_4.out HB.out); (case s8 => exact HC0_4.out); rintro e w13 ⟨rfl, hb⟩; have n1_ := Aside0.mk (blk_below BK.out hb); have n2_ := Aside0.mk (below_step HB.out hb); clear BK HB hb hz0 hz1 hz2 hz3 hz4; have BK := n1_; have HB := n2_; clear n1_ n2_; have hz0 : w13.cell? ⟨gb, 0, none⟩ = some (.int .i64 a0_0) := (blk_cell BK.out 0).trans rfl; have hz1 : w13.cell? ⟨gb, 1, none⟩ = some (.slice A0_1 l0_1.length c0_1) := (blk_cell BK.out 1).trans rfl; have hz2 : w13.cell? ⟨gb, 2, none⟩ = some (.slice A0_2 l0_2.length c0_2) := (blk_cell BK.out 2).trans rfl; have hz3 : w13.cell? ⟨gb, 3, none⟩ = some (.slice A0_3 l0_3.length c0_3) := (blk_cell BK.out 3).trans rfl; have hz4 : w13.cell? ⟨gb, 4, none⟩ = some (.slice A0_4 l0_4.length c0_4) := (blk_cell BK.out 4).trans rfl))
    go_ret2
    exact ⟨rfl, HB.out⟩

/-! ### spiritlevelref02_SameInts: function 23 -/
def spiritlevelref02_SameInts.l0 : Nat → List Int → List Int → Int → Option (Bool)
  | 0, _, _, _ => none
  | k + 1, x0, x1, x5 => if x5 < (x0.length : Int) then (if 0 ≤ x5 then (if x5 < (x1.length : Int) then (if (rd x0 x5) = (rd x1 x5) then (spiritlevelref02_SameInts.l0 k x0 x1 (wrap64 (x5 + 1))) else (some false)) else (none)) else (none)) else (some true)
def spiritlevelref02_SameInts.f (k : Nat) (l0 : List Int) (l1 : List Int) : Option (Bool) := if (l0.length : Int) = (l1.length : Int) then (spiritlevelref02_SameInts.l0 k l0 l1 0) else (some false)
theorem spiritlevelref02_SameInts.mono_l : ∀ k, (∀ y0 y1 y2, LeO (spiritlevelref02_SameInts.l0 k y0 y1 y2) (spiritlevelref02_SameInts.l0 (k + 1) y0 y1 y2))
  | 0 => fun _ _ _ r h => by simp [spiritlevelref02_SameInts.l0] at h
  | k + 1 => by
    have ih0 := spiritlevelref02_SameInts.mono_l k
    · intro y0 y1 y2
      unfold spiritlevelref02_SameInts.l0
      repeat' first
      | (with_reducible exact ih0 _ _ _)
      | (with_reducible exact LeO.refl _)
      | (with_reducible exact LeO.none _)
      | (with_reducible refine LeO.ite ?_ ?_)
      | (with_reducible refine LeO.bind ?_ (fun _ => ?_))
      | exact ih0 _ _ _
      | exact LeO.none _
      | refine LeO.ite ?_ ?_
      | refine LeO.bind ?_ (fun _ => ?_)
theorem spiritlevelref02_SameInts.mono : ∀ a0 a1 k, LeO (spiritlevelref02_SameInts.f k a0 a1) (spiritlevelref02_SameInts.f (k + 1) a0 a1) := by
  intro a0 a1 k
  have ih0 := spiritlevelref02_SameInts.mono_l k
  unfold spiritlevelref02_SameInts.f
  repeat' first
      | (with_reducible exact ih0 _ _ _)
      | (with_reducible exact LeO.refl _)
      | (with_reducible exact LeO.none _)
      | (with_reducible refine LeO.ite ?_ ?_)
      | (with_reducible refine LeO.bind ?_ (fun _ => ?_))
      | exact ih0 _ _ _
      | exact LeO.none _
      | refine LeO.ite ?_ ?_
      | refine LeO.bind ?_ (fun _ => ?_)
set_option maxHeartbeats 8000000 in
set_option maxRecDepth 100000 in
theorem spiritlevelref02_SameInts.calls (k : Nat) (A0 : Option Addr) (c0 : Nat) (l0 : List Int) (A1 : Option Addr) (c1 : Nat) (l1 : List Int) (r : Bool) (w : World) (hr0 : Kd.C (Kd.int .i64) w A0 l0.length l0) (hc0 : l0.length ≤ c0) (hr1 : Kd.C (Kd.int .i64) w A1 l1.length l1) (hc1 : l1.length ≤ c1) (h : spiritlevelref02_SameInts.f k l0 l1 = some r) :
    Calls Try.prog 23 #[.slice A0 l0.length c0, .slice A1 l1.length c1] w fun e w' => e = .returned (.bool r) ∧ Drawn0 w w' := by
  have HR0 := Aside0.mk hr0
  have HC0 := Aside0.mk hc0
  clear hr0 hc0
  have HR1 := Aside0.mk hr1
  have HC1 := Aside0.mk hc1
  clear hr1 hc1
  have H : (if (l0.length : Int) = (l1.length : Int) then (spiritlevelref02_SameInts.l0 k l0 l1 0) else (some false)) = some r := h
  clear h
  by_cases c3 : (l0.length : Int) = (l1.length : Int)
  · rw [if_pos c3] at H
    have c3b0 : ((l0.length : Int) == (l1.length : Int)) = true := beq_iff_eq.mpr c3
    have c3b1 : ((l0.length : Int) != (l1.length : Int)) = false := bne_eq_false_iff_eq.mpr c3
    have c3b2 : (l0.length == l1.length) = true := by first | simpa using c3 | (simp at c3 ⊢; omega)
    clear c3
    have H' := Aside0.mk H
    clear H
    go_enter Try.func23, Try.ntmps23
    go_wp2
    repeat (go_quiet (fail); try go_wp2)
    go_loopg [5] k (fun kq v5 w' => ∃ (x5_1 : Int), v5 = .int .i64 x5_1 ∧ Aside0 (spiritlevelref02_SameInts.l0 kq l0 l1 x5_1 = some r) ∧ Aside0 (kq ≤ k) ∧ Drawn0 w w')
    case atStart => exact ⟨(0), (by first | rfl | (simp; done) | (simp [*]; done)), H', ⟨Nat.le_refl _⟩, by repeat (first | exact Drawn0.refl _ | apply Drawn0.step)⟩
    case round =>
      clear H'
      try clear c1
      try clear c2
      try clear p2
      try clear c3
      try clear c3b0
      try clear c3b1
      try clear c3b2
      obtain ⟨x5_1, rfl, HA, HK1, ⟨m1, rfl⟩⟩ := hrel
      cases gk with
      | zero => exact absurd HA.out (by simp [spiritlevelref02_SameInts.l0])
      | succ k1 =>
        have H := HA.out
        clear HA
        simp only [spiritlevelref02_SameInts.l0] at H
        by_cases c4 : x5_1 < (l0.length : Int)
        · rw [if_pos c4] at H
          have c4b0 : decide (x5_1 < (l0.length : Int)) = true := decide_eq_true c4
          clear c4
          by_cases c5 : 0 ≤ x5_1
          · rw [if_pos c5] at H
            have c5b0 : decide (0 ≤ x5_1) = true := decide_eq_true c5
            clear c5
            by_cases c6 : x5_1 < (l1.length : Int)
            · rw [if_pos c6] at H
              have c6b0 : decide (x5_1 < (l1.length : Int)) = true := decide_eq_true c6
              clear c6
              by_cases c7 : (rd l0 x5_1) = (rd l1 x5_1)
              · rw [if_pos c7] at H
                have c7b0 : ((rd l0 x5_1) == (rd l1 x5_1)) = true := beq_iff_eq.mpr c7
                have c7b1 : ((rd l0 x5_1) != (rd l1 x5_1)) = false := bne_eq_false_iff_eq.mpr c7
                clear c7
                have H' := Aside0.mk H
                clear H
                have p152 : 0 ≤ (x5_1 : Int) := of_decide_eq_true (by first | (with_reducible assumption) | assumption)
                have q152 : x5_1 < (l0.length : Int) := of_decide_eq_true (by first | (with_reducible assumption) | assumption)
                obtain ⟨ad152, e152, hx152_0⟩ := Kd.at_int HR0.out x5_1 p152 q152
                cases e152
                replace p152 := eq_true p152
                replace q152 := eq_true q152
                have p153 : 0 ≤ (x5_1 : Int) := of_decide_eq_true (by first | (with_reducible assumption) | assumption)
                have q153 : x5_1 < (l1.length : Int) := of_decide_eq_true (by first | (with_reducible assumption) | assumption)
                obtain ⟨ad153, e153, hx153_0⟩ := Kd.at_int HR1.out x5_1 p153 q153
                cases e153
                replace p153 := eq_true p153
                replace q153 := eq_true q153
                go_wp2
                repeat (go_quiet (fail); try go_wp2)
                go_roundg k1
                case measure => have := HK1.out; omega
                case rel => exact ⟨(wrap64 (x5_1 + 1)), (by first | rfl | (simp; done) | (simp [*]; done)), H', ⟨by have := HK1.out; omega⟩, by repeat (first | exact Drawn0.refl _ | apply Drawn0.step)⟩
              · rw [if_neg c7] at H
                have c7b0 : ((rd l0 x5_1) == (rd l1 x5_1)) = false := beq_eq_false_iff_ne.mpr c7
                have c7b1 : ((rd l0 x5_1) != (rd l1 x5_1)) = true := bne_iff_ne.mpr c7
                obtain rfl := Option.some.inj H
                have p152 : 0 ≤ (x5_1 : Int) := of_decide_eq_true (by first | (with_reducible assumption) | assumption)
                have q152 : x5_1 < (l0.length : Int) := of_decide_eq_true (by first | (with_reducible assumption) | assumption)
                obtain ⟨ad152, e152, hx152_0⟩ := Kd.at_int HR0.out x5_1 p152 q152
                cases e152
                replace p152 := eq_true p152
                replace q152 := eq_true q152
                have p153 : 0 ≤ (x5_1 : Int) := of_decide_eq_true (by first | (with_reducible assumption) | assumption)
                have q153 : x5_1 < (l1.length : Int) := of_decide_eq_true (by first | (with_reducible assumption) | assumption)
                obtain ⟨ad153, e153, hx153_0⟩ := Kd.at_int HR1.out x5_1 p153 q153
                cases e153
                replace p153 := eq_true p153
                replace q153 := eq_true q153
                go_wp2
                repeat (go_quiet (fail); try go_wp2)
                go_ret
                exact ⟨by first | rfl | (simp; done) | (simp [*]; done), by repeat (first | exact Drawn0.refl _ | apply Drawn0.step)⟩
            · rw [if_neg c6] at H
              exact absurd H (by simp)
          · rw [if_neg c5] at H
            exact absurd H (by simp)
        · rw [if_neg c4] at H
          have c4b0 : decide (x5_1 < (l0.length : Int)) = false := decide_eq_false c4
          clear c4
          obtain rfl := Option.some.inj H
          go_wp2
          repeat (go_quiet (fail); try go_wp2)
          go_ret
          exact ⟨by first | rfl | (simp; done) | (simp [*]; done), by repeat (first | exact Drawn0.refl _ | apply Drawn0.step)⟩
  · rw [if_neg c3] at H
    have c3b0 : ((l0.length : Int) == (l1.length : Int)) = false := beq_eq_false_iff_ne.mpr c3
    have c3b1 : ((l0.length : Int) != (l1.length : Int)) = true := bne_iff_ne.mpr c3
    have c3b2 : (l0.length == l1.length) = false := by first | simpa using c3 | (simp at c3 ⊢; omega)
    obtain rfl := Option.some.inj H
    go_enter Try.func23, Try.ntmps23
    go_wp2
    repeat (go_quiet (fail); try go_wp2)
    go_ret
    exact ⟨by first | rfl | (simp; done) | (simp [*]; done), by repeat (first | exact Drawn0.refl _ | apply Drawn0.step)⟩

/-! ### spiritlevellaw02_example: function 28 -/
def spiritlevellaw02_example.f  : Option (Int × (List (S53)) × (List (S50)) × List Int × List Int) := some (2, (([(⟨10, 2⟩ : S53)] : List (S53))), (([(⟨4, 2⟩ : S50), (⟨8, 7⟩ : S50)] : List (S50))), (([11] : List Int)), ([] : List Int))
set_option maxHeartbeats 8000000 in
set_option maxRecDepth 100000 in
theorem spiritlevellaw02_example.calls  (r1 : Int) (r2 : List (S53)) (r3 : List (S50)) (r4 : List Int) (r5 : List Int) (w : World) (h : spiritlevellaw02_example.f  = some (r1, r2, r3, r4, r5)) :
    Calls Try.prog 28 #[] w fun e w' => ∃ v1_ v2_ v3_ v4_ : Value, e = .returned (.agg #[.int .i64 r1, v1_, v2_, v3_, v4_]) ∧ Kd.R k53 53 w' w.heap.size (fun _ => True) v1_ r2 ∧ Kd.R k50 50 w' w.heap.size (fun _ => True) v2_ r3 ∧ Kd.R (Kd.int .i64) 3 w' w.heap.size (fun k_ => some k_ ≠ (v4_ : Value).ownBlock) v3_ r4 ∧ Kd.R (Kd.int .i64) 3 w' w.heap.size (fun k_ => some k_ ≠ (v3_ : Value).ownBlock) v4_ r5 ∧ Below w.heap.size w w' := by
  have hu26 := Try.underlying26
  have hu53 := Try.underlying53
  have hu50 := Try.underlying50
  have HB := Aside0.mk (Below.refl w.heap.size w)
  have H : (some (2, (([(⟨10, 2⟩ : S53)] : List (S53))), (([(⟨4, 2⟩ : S50), (⟨8, 7⟩ : S50)] : List (S50))), (([11] : List Int)), ([] : List Int))) = some (r1, r2, r3, r4, r5) := h
  clear h
  obtain ⟨y155, hy155⟩ : ∃ y_ : List (S53), y_ = (([(⟨10, 2⟩ : S53)] : List (S53))) := ⟨_, rfl⟩
  replace H : (some (2, y155, (([(⟨4, 2⟩ : S50), (⟨8, 7⟩ : S50)] : List (S50))), (([11] : List Int)), ([] : List Int))) = some (r1, r2, r3, r4, r5) := by first | (rw [hy155]; with_reducible exact H) | (have H2_ := (Option.bind_some _ _).symm.trans H; rw [hy155]; with_reducible exact H2_) | (have H2_ := (Option.bind_some _ _).symm.trans H; with_reducible exact H2_) | with_reducible exact H | (rw [hy155]; exact H) | exact H
  have Ny155 := Aside0.mk hy155
  clear hy155
  obtain ⟨y158, hy158⟩ : ∃ y_ : List (S50), y_ = (([(⟨4, 2⟩ : S50), (⟨8, 7⟩ : S50)] : List (S50))) := ⟨_, rfl⟩
  replace H : (some (2, y155, y158, (([11] : List Int)), ([] : List Int))) = some (r1, r2, r3, r4, r5) := by first | (rw [hy158]; with_reducible exact H) | (have H2_ := (Option.bind_some _ _).symm.trans H; rw [hy158]; with_reducible exact H2_) | (have H2_ := (Option.bind_some _ _).symm.trans H; with_reducible exact H2_) | with_reducible exact H | (rw [hy158]; exact H) | exact H
  have Ny158 := Aside0.mk hy158
  clear hy158
  obtain ⟨y161, hy161⟩ : ∃ y_ : List Int, y_ = (([11] : List Int)) := ⟨_, rfl⟩
  replace H : (some (2, y155, y158, y161, ([] : List Int))) = some (r1, r2, r3, r4, r5) := by first | (rw [hy161]; with_reducible exact H) | (have H2_ := (Option.bind_some _ _).symm.trans H; rw [hy161]; with_reducible exact H2_) | (have H2_ := (Option.bind_some _ _).symm.trans H; with_reducible exact H2_) | with_reducible exact H | (rw [hy161]; exact H) | exact H
  have Ny161 := Aside0.mk hy161
  clear hy161
  simp only [Option.some.injEq, Prod.mk.injEq] at H
  obtain ⟨rfl, rfl, rfl, rfl, rfl⟩ := H
  go_enter Try.func28, Try.ntmps28
  go_wp2_with (first | ((with_reducible refine gate_dst (N := 0) rfl ?_); refine box_event ?hg (N := 0) ?hd (cs := #[.int .i64 0, .slice none 0 0, .slice none 0 0, .slice none 0 0, .slice none 0 0]) (t := 26) ?hr ?_; (case hd => rfl); (case hg => rfl); (case hr => first | (go_simp; done) | (go_simp; rfl)); intro gb154 hg w1 hbox hb; have n0_ := Aside0.mk (below_step (by repeat (first | (with_reducible first | exact HB.out | apply below_alloc | apply pw_below_drewN | apply below_drew1) | exact HB.out)) hb); have n1_ := Aside0.mk (hbox); have n2_ := Aside0.mk ((by rw [hg]; exact (below_size (by repeat (first | (with_reducible first | exact HB.out | apply below_alloc | apply pw_below_drewN | apply below_drew1) | exact HB.out))) : w.heap.size ≤ gb154)); have n3_ := Aside0.mk ((by rw [hg]; exact (below_size (by repeat (first | (with_reducible first | exact HB.out | apply below_alloc | apply pw_below_drewN | apply below_drew1) | exact HB.out))) : w.heap.size ≤ gb154)); clear HB; have HB := n0_; have BK154 := n1_; have GW154 := n2_; have GE154 := n3_; clear n0_ n1_ n2_ n3_; clear hb hbox hg) | ((with_reducible refine gate_dst (N := 2) rfl ?_); refine Kd.R_lit k53 _ 53 ?hg (N := 2) ?hd (xs := ([(⟨10, 2⟩ : S53)] : List (S53))) (inner := [.int .i64 10, .int .i64 2]) (ok := fun _ => True) (okp := fun _ => True) ?hr ?hp (fun _ hk => hk) trivial (Below.refl _ _) (Nat.le_refl _) (by simp) ?_; (case hd => rfl); (case hg => rfl); (case hr => first | (go_simp; done) | (go_simp; rfl)); (case hp => exact (Reps.c2 (show Kd.M k53 _ _ _ (⟨10, 2⟩ : S53) [.int .i64 10, .int .i64 2] from (k53_mkM _ _ _ (⟨10, 2⟩ : S53) )) (Reps.none _ _))); intro v156 w2 ho3 hb hg_ hnew_; clear hg_ hnew_; (first | rw [← Ny155.out] at ho3 | (simp only [Int.reduceToNat] at ho3; rw [← Ny155.out] at ho3)); have n0_ := Aside0.mk (Kd.R_lower ho3 (below_size (by repeat (first | (with_reducible first | exact HB.out | apply below_alloc | apply pw_below_drewN | apply below_drew1 | refine below_set ?_ GE154.out) | exact HB.out)))); have n1_ := Aside0.mk (blk_below (g := gb154) (o := .cells #[.int .i64 0, .slice none 0 0, .slice none 0 0, .slice none 0 0, .slice none 0 0] 26 (0, 0)) (by (with_reducible repeat (first | refine blk_drewN ?_ _ | refine blk_drew ?_ | refine blk_alloc ?_ _)); exact BK154.out) hb); have n2_ := Aside0.mk (below_step (by repeat (first | (with_reducible first | exact HB.out | apply below_alloc | apply pw_below_drewN | apply below_drew1 | refine below_set ?_ GE154.out) | exact HB.out)) hb); clear BK154; clear HB; have HO157 := n0_; have BK154 := n1_; have HB := n2_; clear n0_ n1_ n2_; clear hb ho3) | ((with_reducible refine gate_dst (N := 5) rfl ?_); refine Kd.R_lit k50 _ 50 ?hg (N := 5) ?hd (xs := ([(⟨4, 2⟩ : S50), (⟨8, 7⟩ : S50)] : List (S50))) (inner := [.int .i64 4, .int .i64 2, .int .i64 8, .int .i64 7]) (ok := fun _ => True) (okp := fun _ => True) ?hr ?hp (fun _ hk => hk) trivial (Below.refl _ _) (Nat.le_refl _) (by simp) ?_; (case hd => rfl); (case hg => rfl); (case hr => first | (go_simp; done) | (go_simp; rfl)); (case hp => exact (Reps.c2 (show Kd.M k50 _ _ _ (⟨4, 2⟩ : S50) [.int .i64 4, .int .i64 2] from (k50_mkM _ _ _ (⟨4, 2⟩ : S50) )) (Reps.c2 (show Kd.M k50 _ _ _ (⟨8, 7⟩ : S50) [.int .i64 8, .int .i64 7] from (k50_mkM _ _ _ (⟨8, 7⟩ : S50) )) (Reps.none _ _)))); intro v159 w4 ho5 hb hg_ hnew_; clear hg_ hnew_; (first | rw [← Ny158.out] at ho5 | (simp only [Int.reduceToNat] at ho5; rw [← Ny158.out] at ho5)); have n0_ := Aside0.mk (Kd.R_below (by (with_reducible repeat (first | apply Kd.R_alloc | apply Kd.R_drewN | apply Kd.R_drew)); exact HO157.out) hb); have n1_ := Aside0.mk (Kd.R_lower ho5 (below_size (by repeat (first | (with_reducible first | exact HB.out | apply below_alloc | apply pw_below_drewN | apply below_drew1 | refine below_set ?_ GE154.out) | exact HB.out)))); have n2_ := Aside0.mk (blk_below (g := gb154) (o := .cells #[.int .i64 0, .slice none 0 0, .slice none 0 0, .slice none 0 0, .slice none 0 0] 26 (0, 0)) (by (with_reducible repeat (first | refine blk_drewN ?_ _ | refine blk_drew ?_ | refine blk_alloc ?_ _)); exact BK154.out) hb); have n3_ := Aside0.mk (below_step (by repeat (first | (with_reducible first | exact HB.out | apply below_alloc | apply pw_below_drewN | apply below_drew1 | refine below_set ?_ GE154.out) | exact HB.out)) hb); clear HO157; clear BK154; clear HB; have HO157 := n0_; have HO160 := n1_; have BK154 := n2_; have HB := n3_; clear n0_ n1_ n2_ n3_; clear hb ho5) | ((with_reducible refine gate_dst (N := 6) rfl ?_); refine Kd.R_lit (Kd.int .i64) _ 3 ?hg (N := 6) ?hd (xs := ([11] : List Int)) (inner := [.int .i64 11]) (ok := fun _ => True) (okp := fun _ => True) ?hr ?hp (fun _ hk => hk) trivial (Below.refl _ _) (Nat.le_refl _) (by simp) ?_; (case hd => rfl); (case hg => rfl); (case hr => first | (go_simp; done) | (go_simp; rfl)); (case hp => exact (Reps.one (show Kd.M (Kd.int .i64) _ _ _ 11 [.int .i64 11] from rfl) (Reps.none _ _))); intro v162 w6 ho7 hb hg_ hnew_; clear hg_ hnew_; (first | rw [← Ny161.out] at ho7 | (simp only [Int.reduceToNat] at ho7; rw [← Ny161.out] at ho7)); have n0_ := Aside0.mk (Kd.R_below (by (with_reducible repeat (first | apply Kd.R_alloc | apply Kd.R_drewN | apply Kd.R_drew)); exact HO157.out) hb); have n1_ := Aside0.mk (Kd.R_below (by (with_reducible repeat (first | apply Kd.R_alloc | apply Kd.R_drewN | apply Kd.R_drew)); exact HO160.out) hb); have n2_ := Aside0.mk (Kd.R_lower ho7 (below_size (by repeat (first | (with_reducible first | exact HB.out | apply below_alloc | apply pw_below_drewN | apply below_drew1 | refine below_set ?_ GE154.out) | exact HB.out)))); have n3_ := Aside0.mk (blk_below (g := gb154) (o := .cells #[.int .i64 0, .slice none 0 0, .slice none 0 0, .slice none 0 0, .slice none 0 0] 26 (0, 0)) (by (with_reducible repeat (first | refine blk_drewN ?_ _ | refine blk_drew ?_ | refine blk_alloc ?_ _)); exact BK154.out) hb); have n4_ := Aside0.mk (below_step (by repeat (first | (with_reducible first | exact HB.out | apply below_alloc | apply pw_below_drewN | apply below_drew1 | refine below_set ?_ GE154.out) | exact HB.out)) hb); clear HO157; clear HO160; clear BK154; clear HB; have HO157 := n0_; have HO160 := n1_; have HO163 := n2_; have BK154 := n3_; have HB := n4_; clear n0_ n1_ n2_ n3_ n4_; clear hb ho7; obtain ⟨Ao8, co8, eo8⟩ := Kd.R_slice HO163.out; subst eo8; obtain ⟨Ao9, co9, eo9⟩ := Kd.R_slice HO160.out; subst eo9; obtain ⟨Ao10, co10, eo10⟩ := Kd.R_slice HO157.out; subst eo10; have hcz11_0 : w6.cell? ⟨gb154, 0, none⟩ = some (.int .i64 0) := (blk_cell BK154.out 0).trans rfl; have hcz11_1 : w6.cell? ⟨gb154, 1, none⟩ = some (.slice none 0 0) := (blk_cell BK154.out 1).trans rfl; have hcz11_2 : w6.cell? ⟨gb154, 2, none⟩ = some (.slice none 0 0) := (blk_cell BK154.out 2).trans rfl; have hcz11_3 : w6.cell? ⟨gb154, 3, none⟩ = some (.slice none 0 0) := (blk_cell BK154.out 3).trans rfl; have hcz11_4 : w6.cell? ⟨gb154, 4, none⟩ = some (.slice none 0 0) := (blk_cell BK154.out 4).trans rfl; have hfz11_0 := blk_frozen BK154.out 0; have hfz11_1 := blk_frozen BK154.out 1; have hfz11_2 := blk_frozen BK154.out 2; have hfz11_3 := blk_frozen BK154.out 3; have hfz11_4 := blk_frozen BK154.out 4))
  refine bodyPost_ret (results_cell_row rfl _ _ gb154 26 #[.int .i64 2, .slice Ao10 y155.length co10, .slice Ao9 y158.length co9, .slice Ao8 y161.length co8, .slice none 0 0] (0, 0) _ rfl (by (with_reducible repeat (first | refine blk_drewN ?_ _ | refine blk_drew ?_ | refine blk_alloc ?_ _)); refine blk_put (cs := #[.int .i64 2, .slice Ao10 y155.length co10, .slice Ao9 y158.length co9, .slice Ao8 y161.length co8, .slice none 0 0]) ?_ 4 _ rfl; (with_reducible repeat (first | refine blk_drewN ?_ _ | refine blk_drew ?_ | refine blk_alloc ?_ _)); refine blk_put (cs := #[.int .i64 2, .slice Ao10 y155.length co10, .slice Ao9 y158.length co9, .slice none 0 0, .slice none 0 0]) ?_ 3 _ rfl; (with_reducible repeat (first | refine blk_drewN ?_ _ | refine blk_drew ?_ | refine blk_alloc ?_ _)); refine blk_put (cs := #[.int .i64 2, .slice Ao10 y155.length co10, .slice none 0 0, .slice none 0 0, .slice none 0 0]) ?_ 2 _ rfl; (with_reducible repeat (first | refine blk_drewN ?_ _ | refine blk_drew ?_ | refine blk_alloc ?_ _)); refine blk_put (cs := #[.int .i64 2, .slice none 0 0, .slice none 0 0, .slice none 0 0, .slice none 0 0]) ?_ 1 _ rfl; (with_reducible repeat (first | refine blk_drewN ?_ _ | refine blk_drew ?_ | refine blk_alloc ?_ _)); refine blk_put (cs := #[.int .i64 0, .slice none 0 0, .slice none 0 0, .slice none 0 0, .slice none 0 0]) ?_ 0 _ rfl; (with_reducible repeat (first | refine blk_drewN ?_ _ | refine blk_drew ?_ | refine blk_alloc ?_ _)); exact BK154.out) Try.underlying26 rfl (by kernel_rfl)) rfl ?_
  exact ⟨_, _, _, _, by first | rfl | (simp [errW_none, errW_some] <;> rfl) | (simp [*, errW_none, errW_some] <;> rfl), by (with_reducible repeat (first | apply Kd.R_alloc | apply Kd.R_drewN | apply Kd.R_drew)); exact Kd.R_mono (Kd.R_far (p := ⟨gb154, 4, none⟩) (Kd.R_far (p := ⟨gb154, 3, none⟩) (Kd.R_far (p := ⟨gb154, 2, none⟩) (Kd.R_far (p := ⟨gb154, 1, none⟩) (Kd.R_far (p := ⟨gb154, 0, none⟩) (Kd.R_types HO157.out BK154.out (by decide)) (fun _ hk => hk.2) (.int .i64 2)) (fun _ hk => hk.2) (.slice Ao10 y155.length co10)) (fun _ hk => hk.2) (.slice Ao9 y158.length co9)) (fun _ hk => hk.2) (.slice Ao8 y161.length co8)) (fun _ hk => hk.2) (.slice none 0 0)) (fun _ hk => trivial), by (with_reducible repeat (first | apply Kd.R_alloc | apply Kd.R_drewN | apply Kd.R_drew)); exact Kd.R_mono (Kd.R_far (p := ⟨gb154, 4, none⟩) (Kd.R_far (p := ⟨gb154, 3, none⟩) (Kd.R_far (p := ⟨gb154, 2, none⟩) (Kd.R_far (p := ⟨gb154, 1, none⟩) (Kd.R_far (p := ⟨gb154, 0, none⟩) (Kd.R_types HO160.out BK154.out (by decide)) (fun _ hk => hk.2) (.int .i64 2)) (fun _ hk => hk.2) (.slice Ao10 y155.length co10)) (fun _ hk => hk.2) (.slice Ao9 y158.length co9)) (fun _ hk => hk.2) (.slice Ao8 y161.length co8)) (fun _ hk => hk.2) (.slice none 0 0)) (fun _ hk => trivial), by (with_reducible repeat (first | apply Kd.R_alloc | apply Kd.R_drewN | apply Kd.R_drew)); exact Kd.R_mono (Kd.R_far (p := ⟨gb154, 4, none⟩) (Kd.R_far (p := ⟨gb154, 3, none⟩) (Kd.R_far (p := ⟨gb154, 2, none⟩) (Kd.R_far (p := ⟨gb154, 1, none⟩) (Kd.R_far (p := ⟨gb154, 0, none⟩) (Kd.R_types HO163.out BK154.out (by decide)) (fun _ hk => hk.2) (.int .i64 2)) (fun _ hk => hk.2) (.slice Ao10 y155.length co10)) (fun _ hk => hk.2) (.slice Ao9 y158.length co9)) (fun _ hk => hk.2) (.slice Ao8 y161.length co8)) (fun _ hk => hk.2) (.slice none 0 0)) (fun _ hk => (by simp [Value.ownBlock])), by first | exact Kd.R_nil _ _ _ _ _ | exact Kd.N_nil _ _ _ _ _ | exact Kd.V_nil _ _ _ _ _ | exact Kd.Q_nil _ _ _ _ _ | exact Kd.S_nil _ _ _ _ _, by repeat (first | (with_reducible first | exact HB.out | apply below_alloc | apply pw_below_drewN | apply below_drew1 | refine below_set ?_ GE154.out) | exact HB.out)⟩

/-! ### spiritlevellaw02_alive_t: function 25 -/
def spiritlevellaw02_alive_t.f (k : Nat)  : Option (Bool) := (spiritlevellaw02_example.f).bind fun bt164 => ((gates_Vars.f bt164.1 bt164.2.1 bt164.2.2.1 bt164.2.2.2.1 bt164.2.2.2.2).bind fun bt177 => ((spiritlevellaw02_example.f).bind fun bt179 => ((gates_Cone.f k bt179.1 bt179.2.1 bt179.2.2.1 bt179.2.2.2.1 bt179.2.2.2.2 10).bind fun bt192 => ((spiritlevellaw02_example.f).bind fun bt196 => ((gates_Depth.f k bt196.1 bt196.2.1 bt196.2.2.1 bt196.2.2.2.1 bt196.2.2.2.2).bind fun bt209 => ((spiritlevellaw02_example.f).bind fun bt211 => (if 0 < (bt211.2.2.1.length : Int) then (if bt177.2 = 0 then (if bt177.1 = 5 then (if bt192.2 = 0 then ((spiritlevelref02_SameInts.f k bt192.1 (([1, 2, 3, 4, 5] : List Int))).bind fun t229 => (if t229 = true then (if bt209.2 = 0 then (if bt209.1 = 2 then ((gates_Check.f bt211.1 bt211.2.1 (bt211.2.2.1.set (0 : Int).toNat (⟨2, 4⟩ : S50)) bt211.2.2.2.1 bt211.2.2.2.2).bind fun t230 => (some (t230 == 8))) else (some false)) else (some false)) else (some false))) else (some false)) else (some false)) else (some false)) else (none))))))))
theorem spiritlevellaw02_alive_t.mono : ∀ k, LeO (spiritlevellaw02_alive_t.f k ) (spiritlevellaw02_alive_t.f (k + 1) ) := by
  intro  k
  unfold spiritlevellaw02_alive_t.f
  repeat' first
      | (with_reducible exact gates_Cone.mono _ _ _ _ _ _ _)
      | (with_reducible exact gates_Depth.mono _ _ _ _ _ _)
      | (with_reducible exact spiritlevelref02_SameInts.mono _ _ _)
      | (with_reducible exact LeO.refl _)
      | (with_reducible exact LeO.none _)
      | (with_reducible refine LeO.ite ?_ ?_)
      | (with_reducible refine LeO.bind ?_ (fun _ => ?_))
      | exact gates_Cone.mono _ _ _ _ _ _ _
      | exact gates_Depth.mono _ _ _ _ _ _
      | exact spiritlevelref02_SameInts.mono _ _ _
      | exact LeO.none _
      | refine LeO.ite ?_ ?_
      | refine LeO.bind ?_ (fun _ => ?_)
set_option maxHeartbeats 8000000 in
set_option maxRecDepth 100000 in
theorem spiritlevellaw02_alive_t.calls (k : Nat)  (r : Bool) (w : World) (ht_ : r = true) (h : spiritlevellaw02_alive_t.f k  = some r) :
    Calls Try.prog 25 #[] w fun e w' => e = .returned (.bool r) ∧ Below w.heap.size w w' := by
  have HT_ := Aside0.mk ht_
  clear ht_
  have hu26 := Try.underlying26
  have hu50 := Try.underlying50
  have HB := Aside0.mk (Below.refl w.heap.size w)
  have H : ((spiritlevellaw02_example.f).bind fun bt164 => ((gates_Vars.f bt164.1 bt164.2.1 bt164.2.2.1 bt164.2.2.2.1 bt164.2.2.2.2).bind fun bt177 => ((spiritlevellaw02_example.f).bind fun bt179 => ((gates_Cone.f k bt179.1 bt179.2.1 bt179.2.2.1 bt179.2.2.2.1 bt179.2.2.2.2 10).bind fun bt192 => ((spiritlevellaw02_example.f).bind fun bt196 => ((gates_Depth.f k bt196.1 bt196.2.1 bt196.2.2.1 bt196.2.2.2.1 bt196.2.2.2.2).bind fun bt209 => ((spiritlevellaw02_example.f).bind fun bt211 => (if 0 < (bt211.2.2.1.length : Int) then (if bt177.2 = 0 then (if bt177.1 = 5 then (if bt192.2 = 0 then ((spiritlevelref02_SameInts.f k bt192.1 (([1, 2, 3, 4, 5] : List Int))).bind fun t229 => (if t229 = true then (if bt209.2 = 0 then (if bt209.1 = 2 then ((gates_Check.f bt211.1 bt211.2.1 (bt211.2.2.1.set (0 : Int).toNat (⟨2, 4⟩ : S50)) bt211.2.2.2.1 bt211.2.2.2.2).bind fun t230 => (some (t230 == 8))) else (some false)) else (some false)) else (some false))) else (some false)) else (some false)) else (some false)) else (none))))))))) = some r := h
  clear h
  replace H := Option.bind_eq_some_iff.mp H
  obtain ⟨⟨t164, t165, t168, t171, t174⟩, A10, H⟩ := H
  replace H : ((gates_Vars.f t164 t165 t168 t171 t174).bind fun bt177 => ((spiritlevellaw02_example.f).bind fun bt179 => ((gates_Cone.f k bt179.1 bt179.2.1 bt179.2.2.1 bt179.2.2.2.1 bt179.2.2.2.2 10).bind fun bt192 => ((spiritlevellaw02_example.f).bind fun bt196 => ((gates_Depth.f k bt196.1 bt196.2.1 bt196.2.2.1 bt196.2.2.2.1 bt196.2.2.2.2).bind fun bt209 => ((spiritlevellaw02_example.f).bind fun bt211 => (if 0 < (bt211.2.2.1.length : Int) then (if bt177.2 = 0 then (if bt177.1 = 5 then (if bt192.2 = 0 then ((spiritlevelref02_SameInts.f k bt192.1 (([1, 2, 3, 4, 5] : List Int))).bind fun t229 => (if t229 = true then (if bt209.2 = 0 then (if bt209.1 = 2 then ((gates_Check.f bt211.1 bt211.2.1 (bt211.2.2.1.set (0 : Int).toNat (⟨2, 4⟩ : S50)) bt211.2.2.2.1 bt211.2.2.2.2).bind fun t230 => (some (t230 == 8))) else (some false)) else (some false)) else (some false))) else (some false)) else (some false)) else (some false)) else (none)))))))) = some r := H
  have A1 := Aside0.mk A10
  clear A10
  replace H := Option.bind_eq_some_iff.mp H
  obtain ⟨⟨t177, t178⟩, A20, H⟩ := H
  replace H : ((spiritlevellaw02_example.f).bind fun bt179 => ((gates_Cone.f k bt179.1 bt179.2.1 bt179.2.2.1 bt179.2.2.2.1 bt179.2.2.2.2 10).bind fun bt192 => ((spiritlevellaw02_example.f).bind fun bt196 => ((gates_Depth.f k bt196.1 bt196.2.1 bt196.2.2.1 bt196.2.2.2.1 bt196.2.2.2.2).bind fun bt209 => ((spiritlevellaw02_example.f).bind fun bt211 => (if 0 < (bt211.2.2.1.length : Int) then (if t178 = 0 then (if t177 = 5 then (if bt192.2 = 0 then ((spiritlevelref02_SameInts.f k bt192.1 (([1, 2, 3, 4, 5] : List Int))).bind fun t229 => (if t229 = true then (if bt209.2 = 0 then (if bt209.1 = 2 then ((gates_Check.f bt211.1 bt211.2.1 (bt211.2.2.1.set (0 : Int).toNat (⟨2, 4⟩ : S50)) bt211.2.2.2.1 bt211.2.2.2.2).bind fun t230 => (some (t230 == 8))) else (some false)) else (some false)) else (some false))) else (some false)) else (some false)) else (some false)) else (none))))))) = some r := H
  have A2 := Aside0.mk A20
  clear A20
  replace H := Option.bind_eq_some_iff.mp H
  obtain ⟨⟨t179, t180, t183, t186, t189⟩, A30, H⟩ := H
  replace H : ((gates_Cone.f k t179 t180 t183 t186 t189 10).bind fun bt192 => ((spiritlevellaw02_example.f).bind fun bt196 => ((gates_Depth.f k bt196.1 bt196.2.1 bt196.2.2.1 bt196.2.2.2.1 bt196.2.2.2.2).bind fun bt209 => ((spiritlevellaw02_example.f).bind fun bt211 => (if 0 < (bt211.2.2.1.length : Int) then (if t178 = 0 then (if t177 = 5 then (if bt192.2 = 0 then ((spiritlevelref02_SameInts.f k bt192.1 (([1, 2, 3, 4, 5] : List Int))).bind fun t229 => (if t229 = true then (if bt209.2 = 0 then (if bt209.1 = 2 then ((gates_Check.f bt211.1 bt211.2.1 (bt211.2.2.1.set (0 : Int).toNat (⟨2, 4⟩ : S50)) bt211.2.2.2.1 bt211.2.2.2.2).bind fun t230 => (some (t230 == 8))) else (some false)) else (some false)) else (some false))) else (some false)) else (some false)) else (some false)) else (none)))))) = some r := H
  have A3 := Aside0.mk A30
  clear A30
  replace H := Option.bind_eq_some_iff.mp H
  obtain ⟨⟨t192, t195⟩, A40, H⟩ := H
  replace H : ((spiritlevellaw02_example.f).bind fun bt196 => ((gates_Depth.f k bt196.1 bt196.2.1 bt196.2.2.1 bt196.2.2.2.1 bt196.2.2.2.2).bind fun bt209 => ((spiritlevellaw02_example.f).bind fun bt211 => (if 0 < (bt211.2.2.1.length : Int) then (if t178 = 0 then (if t177 = 5 then (if t195 = 0 then ((spiritlevelref02_SameInts.f k t192 (([1, 2, 3, 4, 5] : List Int))).bind fun t229 => (if t229 = true then (if bt209.2 = 0 then (if bt209.1 = 2 then ((gates_Check.f bt211.1 bt211.2.1 (bt211.2.2.1.set (0 : Int).toNat (⟨2, 4⟩ : S50)) bt211.2.2.2.1 bt211.2.2.2.2).bind fun t230 => (some (t230 == 8))) else (some false)) else (some false)) else (some false))) else (some false)) else (some false)) else (some false)) else (none))))) = some r := H
  have A4 := Aside0.mk A40
  clear A40
  replace H := Option.bind_eq_some_iff.mp H
  obtain ⟨⟨t196, t197, t200, t203, t206⟩, A50, H⟩ := H
  replace H : ((gates_Depth.f k t196 t197 t200 t203 t206).bind fun bt209 => ((spiritlevellaw02_example.f).bind fun bt211 => (if 0 < (bt211.2.2.1.length : Int) then (if t178 = 0 then (if t177 = 5 then (if t195 = 0 then ((spiritlevelref02_SameInts.f k t192 (([1, 2, 3, 4, 5] : List Int))).bind fun t229 => (if t229 = true then (if bt209.2 = 0 then (if bt209.1 = 2 then ((gates_Check.f bt211.1 bt211.2.1 (bt211.2.2.1.set (0 : Int).toNat (⟨2, 4⟩ : S50)) bt211.2.2.2.1 bt211.2.2.2.2).bind fun t230 => (some (t230 == 8))) else (some false)) else (some false)) else (some false))) else (some false)) else (some false)) else (some false)) else (none)))) = some r := H
  have A5 := Aside0.mk A50
  clear A50
  replace H := Option.bind_eq_some_iff.mp H
  obtain ⟨⟨t209, t210⟩, A60, H⟩ := H
  replace H : ((spiritlevellaw02_example.f).bind fun bt211 => (if 0 < (bt211.2.2.1.length : Int) then (if t178 = 0 then (if t177 = 5 then (if t195 = 0 then ((spiritlevelref02_SameInts.f k t192 (([1, 2, 3, 4, 5] : List Int))).bind fun t229 => (if t229 = true then (if t210 = 0 then (if t209 = 2 then ((gates_Check.f bt211.1 bt211.2.1 (bt211.2.2.1.set (0 : Int).toNat (⟨2, 4⟩ : S50)) bt211.2.2.2.1 bt211.2.2.2.2).bind fun t230 => (some (t230 == 8))) else (some false)) else (some false)) else (some false))) else (some false)) else (some false)) else (some false)) else (none))) = some r := H
  have A6 := Aside0.mk A60
  clear A60
  replace H := Option.bind_eq_some_iff.mp H
  obtain ⟨⟨t211, t212, t215, t218, t221⟩, A70, H⟩ := H
  replace H : (if 0 < (t215.length : Int) then (if t178 = 0 then (if t177 = 5 then (if t195 = 0 then ((spiritlevelref02_SameInts.f k t192 (([1, 2, 3, 4, 5] : List Int))).bind fun t229 => (if t229 = true then (if t210 = 0 then (if t209 = 2 then ((gates_Check.f t211 t212 (t215.set (0 : Int).toNat (⟨2, 4⟩ : S50)) t218 t221).bind fun t230 => (some (t230 == 8))) else (some false)) else (some false)) else (some false))) else (some false)) else (some false)) else (some false)) else (none)) = some r := H
  have A7 := Aside0.mk A70
  clear A70
  by_cases c8 : 0 < (t215.length : Int)
  · rw [if_pos c8] at H
    have c8b0 : decide (0 < (t215.length : Int)) = true := decide_eq_true c8
    have c8b1 : decide (0 < t215.length) = true := decide_eq_true (by omega)
    clear c8
    obtain ⟨y225, hy225⟩ : ∃ y_ : List (S50), y_ = (t215.set (0 : Int).toNat (⟨2, 4⟩ : S50)) := ⟨_, rfl⟩
    replace H : (if t178 = 0 then (if t177 = 5 then (if t195 = 0 then ((spiritlevelref02_SameInts.f k t192 (([1, 2, 3, 4, 5] : List Int))).bind fun t229 => (if t229 = true then (if t210 = 0 then (if t209 = 2 then ((gates_Check.f t211 t212 y225 t218 t221).bind fun t230 => (some (t230 == 8))) else (some false)) else (some false)) else (some false))) else (some false)) else (some false)) else (some false)) = some r := by first | (rw [hy225]; with_reducible exact H) | (have H2_ := (Option.bind_some _ _).symm.trans H; rw [hy225]; with_reducible exact H2_) | (have H2_ := (Option.bind_some _ _).symm.trans H; with_reducible exact H2_) | with_reducible exact H | (rw [hy225]; exact H) | exact H
    have Ny225 := Aside0.mk hy225
    clear hy225
    by_cases c10 : t178 = 0
    · rw [if_pos c10] at H
      have c10b0 : (t178 == 0) = true := beq_iff_eq.mpr c10
      have c10b1 : (t178 != 0) = false := bne_eq_false_iff_eq.mpr c10
      clear c10
      by_cases c11 : t177 = 5
      · rw [if_pos c11] at H
        have c11b0 : (t177 == 5) = true := beq_iff_eq.mpr c11
        have c11b1 : (t177 != 5) = false := bne_eq_false_iff_eq.mpr c11
        clear c11
        by_cases c12 : t195 = 0
        · rw [if_pos c12] at H
          have c12b0 : (t195 == 0) = true := beq_iff_eq.mpr c12
          have c12b1 : (t195 != 0) = false := bne_eq_false_iff_eq.mpr c12
          clear c12
          obtain ⟨y226, hy226⟩ : ∃ y_ : List Int, y_ = (([1, 2, 3, 4, 5] : List Int)) := ⟨_, rfl⟩
          replace H : ((spiritlevelref02_SameInts.f k t192 y226).bind fun t229 => (if t229 = true then (if t210 = 0 then (if t209 = 2 then ((gates_Check.f t211 t212 y225 t218 t221).bind fun t230 => (some (t230 == 8))) else (some false)) else (some false)) else (some false))) = some r := by first | (rw [hy226]; with_reducible exact H) | (have H2_ := (Option.bind_some _ _).symm.trans H; rw [hy226]; with_reducible exact H2_) | (have H2_ := (Option.bind_some _ _).symm.trans H; with_reducible exact H2_) | with_reducible exact H | (rw [hy226]; exact H) | exact H
          have Ny226 := Aside0.mk hy226
          clear hy226
          replace H := Option.bind_eq_some_iff.mp H
          obtain ⟨t229, A130, H⟩ := H
          replace H : (if t229 = true then (if t210 = 0 then (if t209 = 2 then ((gates_Check.f t211 t212 y225 t218 t221).bind fun t230 => (some (t230 == 8))) else (some false)) else (some false)) else (some false)) = some r := H
          have A13 := Aside0.mk A130
          clear A130
          by_cases c14 : t229 = true
          · subst c14
            have H1 : (if t210 = 0 then (if t209 = 2 then ((gates_Check.f t211 t212 y225 t218 t221).bind fun t230 => (some (t230 == 8))) else (some false)) else (some false)) = some r := by rw [if_pos rfl] at H; exact H
            clear H
            have H := H1
            clear H1
            by_cases c15 : t210 = 0
            · rw [if_pos c15] at H
              have c15b0 : (t210 == 0) = true := beq_iff_eq.mpr c15
              have c15b1 : (t210 != 0) = false := bne_eq_false_iff_eq.mpr c15
              clear c15
              by_cases c16 : t209 = 2
              · rw [if_pos c16] at H
                have c16b0 : (t209 == 2) = true := beq_iff_eq.mpr c16
                have c16b1 : (t209 != 2) = false := bne_eq_false_iff_eq.mpr c16
                clear c16
                replace H := Option.bind_eq_some_iff.mp H
                obtain ⟨t230, A170, H⟩ := H
                replace H : (some (t230 == 8)) = some r := H
                have A17 := Aside0.mk A170
                clear A170
                obtain rfl := Option.some.inj H
                go_enter Try.func25, Try.ntmps25
                go_wp2_with (first | ((with_reducible refine gate_callee (f := 28) rfl ?_); refine goesL_ (some 9) rfl rfl Try.func28 (by kernel_rfl) rfl #[] rfl (by (try simp only [List.map_toArray, List.map_cons, List.map_nil]); first | done | rfl | (simp only [List.length_drop, List.length_take]; rfl)) ?_; (with_reducible refine (spiritlevellaw02_example.calls  t164 t165 t168 t171 t174 _ A1.out).mono ?_); rintro e w18 ⟨v166, v169, v172, v175, rfl, ho0, ho1, ho2, ho3, hb⟩; refine ⟨_, rfl, ?_⟩; have n0_ := Aside0.mk (Kd.R_lower ho0 (below_size (by repeat (first | (with_reducible first | exact HB.out | apply below_alloc | apply pw_below_drewN | apply below_drew1) | exact HB.out)))); have n1_ := Aside0.mk (Kd.R_lower ho1 (below_size (by repeat (first | (with_reducible first | exact HB.out | apply below_alloc | apply pw_below_drewN | apply below_drew1) | exact HB.out)))); have n2_ := Aside0.mk (Kd.R_lower ho2 (below_size (by repeat (first | (with_reducible first | exact HB.out | apply below_alloc | apply pw_below_drewN | apply below_drew1) | exact HB.out)))); have n3_ := Aside0.mk (Kd.R_lower ho3 (below_size (by repeat (first | (with_reducible first | exact HB.out | apply below_alloc | apply pw_below_drewN | apply below_drew1) | exact HB.out)))); have n4_ := Aside0.mk (below_step (by repeat (first | (with_reducible first | exact HB.out | apply below_alloc | apply pw_below_drewN | apply below_drew1) | exact HB.out)) hb); clear HB; have HO167 := n0_; have HO170 := n1_; have HO173 := n2_; have HO176 := n3_; have HB := n4_; clear n0_ n1_ n2_ n3_ n4_; (try clear hb); (try clear hb2); (try clear hk); (try clear hi); (try clear ho0); (try clear ho1); (try clear ho2); (try clear ho3); obtain ⟨Ao19, co19, eo19⟩ := Kd.R_slice HO167.out; subst eo19; obtain ⟨Ao20, co20, eo20⟩ := Kd.R_slice HO170.out; subst eo20; obtain ⟨Ao21, co21, eo21⟩ := Kd.R_slice HO173.out; subst eo21; obtain ⟨Ao22, co22, eo22⟩ := Kd.R_slice HO176.out; subst eo22) | ((with_reducible refine gate_callee (f := 12) rfl ?_); refine goesL_ (some 10) rfl rfl Try.func12 (by kernel_rfl) rfl #[.agg #[.int .i64 t164, .slice Ao19 t165.length co19, .slice Ao20 t168.length co20, .slice Ao21 t171.length co21, .slice Ao22 t174.length co22]] rfl (by (try simp only [List.map_toArray, List.map_cons, List.map_nil]); first | done | rfl | (simp only [List.length_drop, List.length_take]; rfl)) ?_; (with_reducible refine (gates_Vars.calls t164 _ _ t165 _ _ t168 _ _ t171 _ _ t174 t177 t178 _ ?side1 ?side2 ?side3 ?side4 ?side5 ?side6 ?side7 ?side8 A2.out).mono ?_); (case side1 => repeat (first | exact (Kd.R_reads' HO167.out).2.2 | (with_reducible refine Kd.C_alloc ?_ _) | (with_reducible refine Kd.C_drewN ?_ _) | (with_reducible refine Kd.C_drew ?_))); (case side2 => exact (Kd.R_reads' HO167.out).2.1); (case side3 => repeat (first | exact (Kd.R_reads' HO170.out).2.2 | (with_reducible refine Kd.C_alloc ?_ _) | (with_reducible refine Kd.C_drewN ?_ _) | (with_reducible refine Kd.C_drew ?_))); (case side4 => exact (Kd.R_reads' HO170.out).2.1); (case side5 => repeat (first | exact (Kd.R_reads' HO173.out).2.2 | (with_reducible refine Kd.C_alloc ?_ _) | (with_reducible refine Kd.C_drewN ?_ _) | (with_reducible refine Kd.C_drew ?_))); (case side6 => exact (Kd.R_reads' HO173.out).2.1); (case side7 => repeat (first | exact (Kd.R_reads' HO176.out).2.2 | (with_reducible refine Kd.C_alloc ?_ _) | (with_reducible refine Kd.C_drewN ?_ _) | (with_reducible refine Kd.C_drew ?_))); (case side8 => exact (Kd.R_reads' HO176.out).2.1); rintro e w23 ⟨rfl, hb⟩; refine ⟨_, rfl, ?_⟩; have n0_ := Aside0.mk (Kd.R_below (by (with_reducible repeat (first | apply Kd.R_alloc | apply Kd.R_drewN | apply Kd.R_drew)); exact HO167.out) hb); have n1_ := Aside0.mk (Kd.R_below (by (with_reducible repeat (first | apply Kd.R_alloc | apply Kd.R_drewN | apply Kd.R_drew)); exact HO170.out) hb); have n2_ := Aside0.mk (Kd.R_below (by (with_reducible repeat (first | apply Kd.R_alloc | apply Kd.R_drewN | apply Kd.R_drew)); exact HO173.out) hb); have n3_ := Aside0.mk (Kd.R_below (by (with_reducible repeat (first | apply Kd.R_alloc | apply Kd.R_drewN | apply Kd.R_drew)); exact HO176.out) hb); have n4_ := Aside0.mk (below_step (by repeat (first | (with_reducible first | exact HB.out | apply below_alloc | apply pw_below_drewN | apply below_drew1) | exact HB.out)) hb); clear HO167; clear HO170; clear HO173; clear HO176; clear HB; have HO167 := n0_; have HO170 := n1_; have HO173 := n2_; have HO176 := n3_; have HB := n4_; clear n0_ n1_ n2_ n3_ n4_; (try clear hb); (try clear hb2); (try clear hk); (try clear hi)) | ((with_reducible refine gate_callee (f := 28) rfl ?_); refine goesL_ (some 14) rfl rfl Try.func28 (by kernel_rfl) rfl #[] rfl (by (try simp only [List.map_toArray, List.map_cons, List.map_nil]); first | done | rfl | (simp only [List.length_drop, List.length_take]; rfl)) ?_; (with_reducible refine (spiritlevellaw02_example.calls  t179 t180 t183 t186 t189 _ A3.out).mono ?_); rintro e w24 ⟨v181, v184, v187, v190, rfl, ho0, ho1, ho2, ho3, hb⟩; refine ⟨_, rfl, ?_⟩; have n0_ := Aside0.mk (Kd.R_elder' (by (with_reducible repeat (first | apply Kd.R_alloc | apply Kd.R_drewN | apply Kd.R_drew)); exact HO167.out) (Kd.R_base ho0) hb); have n1_ := Aside0.mk (Kd.R_elder' (by (with_reducible repeat (first | apply Kd.R_alloc | apply Kd.R_drewN | apply Kd.R_drew)); exact HO170.out) (Kd.R_base ho1) hb); have n2_ := Aside0.mk (Kd.R_mono (Kd.R_told (Kd.R_told (Kd.R_old (by (with_reducible repeat (first | apply Kd.R_alloc | apply Kd.R_drewN | apply Kd.R_drew)); exact HO173.out) hb) (Kd.R_base ho2)) (Kd.R_base ho3)) (fun _ h_ => h_.1)); have n3_ := Aside0.mk (Kd.R_mono (Kd.R_told (Kd.R_told (Kd.R_old (by (with_reducible repeat (first | apply Kd.R_alloc | apply Kd.R_drewN | apply Kd.R_drew)); exact HO176.out) hb) (Kd.R_base ho2)) (Kd.R_base ho3)) (fun _ h_ => h_.1)); have n4_ := Aside0.mk (Kd.R_lower (Kd.R_new' ho0 (Kd.R_lt (by (with_reducible repeat (first | apply Kd.R_alloc | apply Kd.R_drewN | apply Kd.R_drew)); exact HO167.out))) (below_size (by repeat (first | (with_reducible first | exact HB.out | apply below_alloc | apply pw_below_drewN | apply below_drew1) | exact HB.out)))); have n5_ := Aside0.mk (Kd.R_lower (Kd.R_new' ho1 (Kd.R_lt (by (with_reducible repeat (first | apply Kd.R_alloc | apply Kd.R_drewN | apply Kd.R_drew)); exact HO170.out))) (below_size (by repeat (first | (with_reducible first | exact HB.out | apply below_alloc | apply pw_below_drewN | apply below_drew1) | exact HB.out)))); have n6_ := Aside0.mk (Kd.R_lower (Kd.R_new' (Kd.R_new' ho2 (Kd.R_lt (by (with_reducible repeat (first | apply Kd.R_alloc | apply Kd.R_drewN | apply Kd.R_drew)); exact HO173.out))) (Kd.R_lt (by (with_reducible repeat (first | apply Kd.R_alloc | apply Kd.R_drewN | apply Kd.R_drew)); exact HO176.out))) (below_size (by repeat (first | (with_reducible first | exact HB.out | apply below_alloc | apply pw_below_drewN | apply below_drew1) | exact HB.out)))); have n7_ := Aside0.mk (Kd.R_lower (Kd.R_new' (Kd.R_new' ho3 (Kd.R_lt (by (with_reducible repeat (first | apply Kd.R_alloc | apply Kd.R_drewN | apply Kd.R_drew)); exact HO173.out))) (Kd.R_lt (by (with_reducible repeat (first | apply Kd.R_alloc | apply Kd.R_drewN | apply Kd.R_drew)); exact HO176.out))) (below_size (by repeat (first | (with_reducible first | exact HB.out | apply below_alloc | apply pw_below_drewN | apply below_drew1) | exact HB.out)))); have n8_ := Aside0.mk (below_step (by repeat (first | (with_reducible first | exact HB.out | apply below_alloc | apply pw_below_drewN | apply below_drew1) | exact HB.out)) hb); clear HO167; clear HO170; clear HO173; clear HO176; clear HB; have HO167 := n0_; have HO170 := n1_; have HO173 := n2_; have HO176 := n3_; have HO182 := n4_; have HO185 := n5_; have HO188 := n6_; have HO191 := n7_; have HB := n8_; clear n0_ n1_ n2_ n3_ n4_ n5_ n6_ n7_ n8_; (try clear hb); (try clear hb2); (try clear hk); (try clear hi); (try clear ho0); (try clear ho1); (try clear ho2); (try clear ho3); obtain ⟨Ao25, co25, eo25⟩ := Kd.R_slice HO182.out; subst eo25; obtain ⟨Ao26, co26, eo26⟩ := Kd.R_slice HO185.out; subst eo26; obtain ⟨Ao27, co27, eo27⟩ := Kd.R_slice HO188.out; subst eo27; obtain ⟨Ao28, co28, eo28⟩ := Kd.R_slice HO191.out; subst eo28) | ((with_reducible refine gate_callee (f := 19) rfl ?_); refine goesL_ (some 15) rfl rfl Try.func19 (by kernel_rfl) rfl #[.agg #[.int .i64 t179, .slice Ao25 t180.length co25, .slice Ao26 t183.length co26, .slice Ao27 t186.length co27, .slice Ao28 t189.length co28], .int .i64 10] rfl (by (try simp only [List.map_toArray, List.map_cons, List.map_nil]); first | done | rfl | (simp only [List.length_drop, List.length_take]; rfl)) ?_; (with_reducible refine (gates_Cone.calls k t179 _ _ t180 _ _ t183 _ _ t186 _ _ t189 10 t192 t195 _ ?side1 ?side2 ?side3 ?side4 ?side5 ?side6 ?side7 ?side8 A4.out).mono ?_); (case side1 => repeat (first | exact (Kd.R_reads' HO182.out).2.2 | (with_reducible refine Kd.C_alloc ?_ _) | (with_reducible refine Kd.C_drewN ?_ _) | (with_reducible refine Kd.C_drew ?_))); (case side2 => exact (Kd.R_reads' HO182.out).2.1); (case side3 => repeat (first | exact (Kd.R_reads' HO185.out).2.2 | (with_reducible refine Kd.C_alloc ?_ _) | (with_reducible refine Kd.C_drewN ?_ _) | (with_reducible refine Kd.C_drew ?_))); (case side4 => exact (Kd.R_reads' HO185.out).2.1); (case side5 => repeat (first | exact (Kd.R_reads' HO188.out).2.2 | (with_reducible refine Kd.C_alloc ?_ _) | (with_reducible refine Kd.C_drewN ?_ _) | (with_reducible refine Kd.C_drew ?_))); (case side6 => exact (Kd.R_reads' HO188.out).2.1); (case side7 => repeat (first | exact (Kd.R_reads' HO191.out).2.2 | (with_reducible refine Kd.C_alloc ?_ _) | (with_reducible refine Kd.C_drewN ?_ _) | (with_reducible refine Kd.C_drew ?_))); (case side8 => exact (Kd.R_reads' HO191.out).2.1); rintro e w29 ⟨v193, rfl, ho0, hb⟩; refine ⟨_, rfl, ?_⟩; have n0_ := Aside0.mk (Kd.R_below (by (with_reducible repeat (first | apply Kd.R_alloc | apply Kd.R_drewN | apply Kd.R_drew)); exact HO167.out) hb); have n1_ := Aside0.mk (Kd.R_below (by (with_reducible repeat (first | apply Kd.R_alloc | apply Kd.R_drewN | apply Kd.R_drew)); exact HO170.out) hb); have n2_ := Aside0.mk (Kd.R_elder' (by (with_reducible repeat (first | apply Kd.R_alloc | apply Kd.R_drewN | apply Kd.R_drew)); exact HO173.out) (Kd.R_base ho0) hb); have n3_ := Aside0.mk (Kd.R_elder' (by (with_reducible repeat (first | apply Kd.R_alloc | apply Kd.R_drewN | apply Kd.R_drew)); exact HO176.out) (Kd.R_base ho0) hb); have n4_ := Aside0.mk (Kd.R_below (by (with_reducible repeat (first | apply Kd.R_alloc | apply Kd.R_drewN | apply Kd.R_drew)); exact HO182.out) hb); have n5_ := Aside0.mk (Kd.R_below (by (with_reducible repeat (first | apply Kd.R_alloc | apply Kd.R_drewN | apply Kd.R_drew)); exact HO185.out) hb); have n6_ := Aside0.mk (Kd.R_elder' (by (with_reducible repeat (first | apply Kd.R_alloc | apply Kd.R_drewN | apply Kd.R_drew)); exact HO188.out) (Kd.R_base ho0) hb); have n7_ := Aside0.mk (Kd.R_elder' (by (with_reducible repeat (first | apply Kd.R_alloc | apply Kd.R_drewN | apply Kd.R_drew)); exact HO191.out) (Kd.R_base ho0) hb); have n8_ := Aside0.mk (Kd.R_lower (Kd.R_new' (Kd.R_new' (Kd.R_new' (Kd.R_new' ho0 (Kd.R_lt (by (with_reducible repeat (first | apply Kd.R_alloc | apply Kd.R_drewN | apply Kd.R_drew)); exact HO173.out))) (Kd.R_lt (by (with_reducible repeat (first | apply Kd.R_alloc | apply Kd.R_drewN | apply Kd.R_drew)); exact HO176.out))) (Kd.R_lt (by (with_reducible repeat (first | apply Kd.R_alloc | apply Kd.R_drewN | apply Kd.R_drew)); exact HO188.out))) (Kd.R_lt (by (with_reducible repeat (first | apply Kd.R_alloc | apply Kd.R_drewN | apply Kd.R_drew)); exact HO191.out))) (below_size (by repeat (first | (with_reducible first | exact HB.out | apply below_alloc | apply pw_below_drewN | apply below_drew1) | exact HB.out)))); have n9_ := Aside0.mk (below_step (by repeat (first | (with_reducible first | exact HB.out | apply below_alloc | apply pw_below_drewN | apply below_drew1) | exact HB.out)) hb); clear HO167; clear HO170; clear HO173; clear HO176; clear HO182; clear HO185; clear HO188; clear HO191; clear HB; have HO167 := n0_; have HO170 := n1_; have HO173 := n2_; have HO176 := n3_; have HO182 := n4_; have HO185 := n5_; have HO188 := n6_; have HO191 := n7_; have HO194 := n8_; have HB := n9_; clear n0_ n1_ n2_ n3_ n4_ n5_ n6_ n7_ n8_ n9_; (try clear hb); (try clear hb2); (try clear hk); (try clear hi); (try clear ho0)) | ((with_reducible refine gate_callee (f := 28) rfl ?_); refine goesL_ (some 19) rfl rfl Try.func28 (by kernel_rfl) rfl #[] rfl (by (try simp only [List.map_toArray, List.map_cons, List.map_nil]); first | done | rfl | (simp only [List.length_drop, List.length_take]; rfl)) ?_; (with_reducible refine (spiritlevellaw02_example.calls  t196 t197 t200 t203 t206 _ A5.out).mono ?_); rintro e w30 ⟨v198, v201, v204, v207, rfl, ho0, ho1, ho2, ho3, hb⟩; refine ⟨_, rfl, ?_⟩; have n0_ := Aside0.mk (Kd.R_elder' (by (with_reducible repeat (first | apply Kd.R_alloc | apply Kd.R_drewN | apply Kd.R_drew)); exact HO167.out) (Kd.R_base ho0) hb); have n1_ := Aside0.mk (Kd.R_elder' (by (with_reducible repeat (first | apply Kd.R_alloc | apply Kd.R_drewN | apply Kd.R_drew)); exact HO170.out) (Kd.R_base ho1) hb); have n2_ := Aside0.mk (Kd.R_mono (Kd.R_told (Kd.R_told (Kd.R_old (by (with_reducible repeat (first | apply Kd.R_alloc | apply Kd.R_drewN | apply Kd.R_drew)); exact HO173.out) hb) (Kd.R_base ho2)) (Kd.R_base ho3)) (fun _ h_ => h_.1)); have n3_ := Aside0.mk (Kd.R_mono (Kd.R_told (Kd.R_told (Kd.R_old (by (with_reducible repeat (first | apply Kd.R_alloc | apply Kd.R_drewN | apply Kd.R_drew)); exact HO176.out) hb) (Kd.R_base ho2)) (Kd.R_base ho3)) (fun _ h_ => h_.1)); have n4_ := Aside0.mk (Kd.R_elder' (by (with_reducible repeat (first | apply Kd.R_alloc | apply Kd.R_drewN | apply Kd.R_drew)); exact HO182.out) (Kd.R_base ho0) hb); have n5_ := Aside0.mk (Kd.R_elder' (by (with_reducible repeat (first | apply Kd.R_alloc | apply Kd.R_drewN | apply Kd.R_drew)); exact HO185.out) (Kd.R_base ho1) hb); have n6_ := Aside0.mk (Kd.R_mono (Kd.R_told (Kd.R_told (Kd.R_old (by (with_reducible repeat (first | apply Kd.R_alloc | apply Kd.R_drewN | apply Kd.R_drew)); exact HO188.out) hb) (Kd.R_base ho2)) (Kd.R_base ho3)) (fun _ h_ => h_.1)); have n7_ := Aside0.mk (Kd.R_mono (Kd.R_told (Kd.R_told (Kd.R_old (by (with_reducible repeat (first | apply Kd.R_alloc | apply Kd.R_drewN | apply Kd.R_drew)); exact HO191.out) hb) (Kd.R_base ho2)) (Kd.R_base ho3)) (fun _ h_ => h_.1)); have n8_ := Aside0.mk (Kd.R_mono (Kd.R_told (Kd.R_told (Kd.R_old (by (with_reducible repeat (first | apply Kd.R_alloc | apply Kd.R_drewN | apply Kd.R_drew)); exact HO194.out) hb) (Kd.R_base ho2)) (Kd.R_base ho3)) (fun _ h_ => h_.1)); have n9_ := Aside0.mk (Kd.R_lower (Kd.R_new' (Kd.R_new' ho0 (Kd.R_lt (by (with_reducible repeat (first | apply Kd.R_alloc | apply Kd.R_drewN | apply Kd.R_drew)); exact HO167.out))) (Kd.R_lt (by (with_reducible repeat (first | apply Kd.R_alloc | apply Kd.R_drewN | apply Kd.R_drew)); exact HO182.out))) (below_size (by repeat (first | (with_reducible first | exact HB.out | apply below_alloc | apply pw_below_drewN | apply below_drew1) | exact HB.out)))); have n10_ := Aside0.mk (Kd.R_lower (Kd.R_new' (Kd.R_new' ho1 (Kd.R_lt (by (with_reducible repeat (first | apply Kd.R_alloc | apply Kd.R_drewN | apply Kd.R_drew)); exact HO170.out))) (Kd.R_lt (by (with_reducible repeat (first | apply Kd.R_alloc | apply Kd.R_drewN | apply Kd.R_drew)); exact HO185.out))) (below_size (by repeat (first | (with_reducible first | exact HB.out | apply below_alloc | apply pw_below_drewN | apply below_drew1) | exact HB.out)))); have n11_ := Aside0.mk (Kd.R_lower (Kd.R_new' (Kd.R_new' (Kd.R_new' (Kd.R_new' (Kd.R_new' ho2 (Kd.R_lt (by (with_reducible repeat (first | apply Kd.R_alloc | apply Kd.R_drewN | apply Kd.R_drew)); exact HO173.out))) (Kd.R_lt (by (with_reducible repeat (first | apply Kd.R_alloc | apply Kd.R_drewN | apply Kd.R_drew)); exact HO176.out))) (Kd.R_lt (by (with_reducible repeat (first | apply Kd.R_alloc | apply Kd.R_drewN | apply Kd.R_drew)); exact HO188.out))) (Kd.R_lt (by (with_reducible repeat (first | apply Kd.R_alloc | apply Kd.R_drewN | apply Kd.R_drew)); exact HO191.out))) (Kd.R_lt (by (with_reducible repeat (first | apply Kd.R_alloc | apply Kd.R_drewN | apply Kd.R_drew)); exact HO194.out))) (below_size (by repeat (first | (with_reducible first | exact HB.out | apply below_alloc | apply pw_below_drewN | apply below_drew1) | exact HB.out)))); have n12_ := Aside0.mk (Kd.R_lower (Kd.R_new' (Kd.R_new' (Kd.R_new' (Kd.R_new' (Kd.R_new' ho3 (Kd.R_lt (by (with_reducible repeat (first | apply Kd.R_alloc | apply Kd.R_drewN | apply Kd.R_drew)); exact HO173.out))) (Kd.R_lt (by (with_reducible repeat (first | apply Kd.R_alloc | apply Kd.R_drewN | apply Kd.R_drew)); exact HO176.out))) (Kd.R_lt (by (with_reducible repeat (first | apply Kd.R_alloc | apply Kd.R_drewN | apply Kd.R_drew)); exact HO188.out))) (Kd.R_lt (by (with_reducible repeat (first | apply Kd.R_alloc | apply Kd.R_drewN | apply Kd.R_drew)); exact HO191.out))) (Kd.R_lt (by (with_reducible repeat (first | apply Kd.R_alloc | apply Kd.R_drewN | apply Kd.R_drew)); exact HO194.out))) (below_size (by repeat (first | (with_reducible first | exact HB.out | apply below_alloc | apply pw_below_drewN | apply below_drew1) | exact HB.out)))); have n13_ := Aside0.mk (below_step (by repeat (first | (with_reducible first | exact HB.out | apply below_alloc | apply pw_below_drewN | apply below_drew1) | exact HB.out)) hb); clear HO167; clear HO170; clear HO173; clear HO176; clear HO182; clear HO185; clear HO188; clear HO191; clear HO194; clear HB; have HO167 := n0_; have HO170 := n1_; have HO173 := n2_; have HO176 := n3_; have HO182 := n4_; have HO185 := n5_; have HO188 := n6_; have HO191 := n7_; have HO194 := n8_; have HO199 := n9_; have HO202 := n10_; have HO205 := n11_; have HO208 := n12_; have HB := n13_; clear n0_ n1_ n2_ n3_ n4_ n5_ n6_ n7_ n8_ n9_ n10_ n11_ n12_ n13_; (try clear hb); (try clear hb2); (try clear hk); (try clear hi); (try clear ho0); (try clear ho1); (try clear ho2); (try clear ho3); obtain ⟨Ao31, co31, eo31⟩ := Kd.R_slice HO199.out; subst eo31; obtain ⟨Ao32, co32, eo32⟩ := Kd.R_slice HO202.out; subst eo32; obtain ⟨Ao33, co33, eo33⟩ := Kd.R_slice HO205.out; subst eo33; obtain ⟨Ao34, co34, eo34⟩ := Kd.R_slice HO208.out; subst eo34) | ((with_reducible refine gate_callee (f := 21) rfl ?_); refine goesL_ (some 20) rfl rfl Try.func21 (by kernel_rfl) rfl #[.agg #[.int .i64 t196, .slice Ao31 t197.length co31, .slice Ao32 t200.length co32, .slice Ao33 t203.length co33, .slice Ao34 t206.length co34]] rfl (by (try simp only [List.map_toArray, List.map_cons, List.map_nil]); first | done | rfl | (simp only [List.length_drop, List.length_take]; rfl)) ?_; (with_reducible refine (gates_Depth.calls k t196 _ _ t197 _ _ t200 _ _ t203 _ _ t206 t209 t210 _ ?side1 ?side2 ?side3 ?side4 ?side5 ?side6 ?side7 ?side8 A6.out).mono ?_); (case side1 => repeat (first | exact (Kd.R_reads' HO199.out).2.2 | (with_reducible refine Kd.C_alloc ?_ _) | (with_reducible refine Kd.C_drewN ?_ _) | (with_reducible refine Kd.C_drew ?_))); (case side2 => exact (Kd.R_reads' HO199.out).2.1); (case side3 => repeat (first | exact (Kd.R_reads' HO202.out).2.2 | (with_reducible refine Kd.C_alloc ?_ _) | (with_reducible refine Kd.C_drewN ?_ _) | (with_reducible refine Kd.C_drew ?_))); (case side4 => exact (Kd.R_reads' HO202.out).2.1); (case side5 => repeat (first | exact (Kd.R_reads' HO205.out).2.2 | (with_reducible refine Kd.C_alloc ?_ _) | (with_reducible refine Kd.C_drewN ?_ _) | (with_reducible refine Kd.C_drew ?_))); (case side6 => exact (Kd.R_reads' HO205.out).2.1); (case side7 => repeat (first | exact (Kd.R_reads' HO208.out).2.2 | (with_reducible refine Kd.C_alloc ?_ _) | (with_reducible refine Kd.C_drewN ?_ _) | (with_reducible refine Kd.C_drew ?_))); (case side8 => exact (Kd.R_reads' HO208.out).2.1); rintro e w35 ⟨rfl, hb⟩; refine ⟨_, rfl, ?_⟩; have n0_ := Aside0.mk (Kd.R_below (by (with_reducible repeat (first | apply Kd.R_alloc | apply Kd.R_drewN | apply Kd.R_drew)); exact HO167.out) hb); have n1_ := Aside0.mk (Kd.R_below (by (with_reducible repeat (first | apply Kd.R_alloc | apply Kd.R_drewN | apply Kd.R_drew)); exact HO170.out) hb); have n2_ := Aside0.mk (Kd.R_below (by (with_reducible repeat (first | apply Kd.R_alloc | apply Kd.R_drewN | apply Kd.R_drew)); exact HO173.out) hb); have n3_ := Aside0.mk (Kd.R_below (by (with_reducible repeat (first | apply Kd.R_alloc | apply Kd.R_drewN | apply Kd.R_drew)); exact HO176.out) hb); have n4_ := Aside0.mk (Kd.R_below (by (with_reducible repeat (first | apply Kd.R_alloc | apply Kd.R_drewN | apply Kd.R_drew)); exact HO182.out) hb); have n5_ := Aside0.mk (Kd.R_below (by (with_reducible repeat (first | apply Kd.R_alloc | apply Kd.R_drewN | apply Kd.R_drew)); exact HO185.out) hb); have n6_ := Aside0.mk (Kd.R_below (by (with_reducible repeat (first | apply Kd.R_alloc | apply Kd.R_drewN | apply Kd.R_drew)); exact HO188.out) hb); have n7_ := Aside0.mk (Kd.R_below (by (with_reducible repeat (first | apply Kd.R_alloc | apply Kd.R_drewN | apply Kd.R_drew)); exact HO191.out) hb); have n8_ := Aside0.mk (Kd.R_below (by (with_reducible repeat (first | apply Kd.R_alloc | apply Kd.R_drewN | apply Kd.R_drew)); exact HO194.out) hb); have n9_ := Aside0.mk (Kd.R_below (by (with_reducible repeat (first | apply Kd.R_alloc | apply Kd.R_drewN | apply Kd.R_drew)); exact HO199.out) hb); have n10_ := Aside0.mk (Kd.R_below (by (with_reducible repeat (first | apply Kd.R_alloc | apply Kd.R_drewN | apply Kd.R_drew)); exact HO202.out) hb); have n11_ := Aside0.mk (Kd.R_below (by (with_reducible repeat (first | apply Kd.R_alloc | apply Kd.R_drewN | apply Kd.R_drew)); exact HO205.out) hb); have n12_ := Aside0.mk (Kd.R_below (by (with_reducible repeat (first | apply Kd.R_alloc | apply Kd.R_drewN | apply Kd.R_drew)); exact HO208.out) hb); have n13_ := Aside0.mk (below_step (by repeat (first | (with_reducible first | exact HB.out | apply below_alloc | apply pw_below_drewN | apply below_drew1) | exact HB.out)) hb); clear HO167; clear HO170; clear HO173; clear HO176; clear HO182; clear HO185; clear HO188; clear HO191; clear HO194; clear HO199; clear HO202; clear HO205; clear HO208; clear HB; have HO167 := n0_; have HO170 := n1_; have HO173 := n2_; have HO176 := n3_; have HO182 := n4_; have HO185 := n5_; have HO188 := n6_; have HO191 := n7_; have HO194 := n8_; have HO199 := n9_; have HO202 := n10_; have HO205 := n11_; have HO208 := n12_; have HB := n13_; clear n0_ n1_ n2_ n3_ n4_ n5_ n6_ n7_ n8_ n9_ n10_ n11_ n12_ n13_; (try clear hb); (try clear hb2); (try clear hk); (try clear hi)) | ((with_reducible refine gate_callee (f := 28) rfl ?_); refine goesL_ (some 23) rfl rfl Try.func28 (by kernel_rfl) rfl #[] rfl (by (try simp only [List.map_toArray, List.map_cons, List.map_nil]); first | done | rfl | (simp only [List.length_drop, List.length_take]; rfl)) ?_; (with_reducible refine (spiritlevellaw02_example.calls  t211 t212 t215 t218 t221 _ A7.out).mono ?_); rintro e w36 ⟨v213, v216, v219, v222, rfl, ho0, ho1, ho2, ho3, hb⟩; refine ⟨_, rfl, ?_⟩; have n0_ := Aside0.mk (Kd.R_elder' (by (with_reducible repeat (first | apply Kd.R_alloc | apply Kd.R_drewN | apply Kd.R_drew)); exact HO167.out) (Kd.R_base ho0) hb); have n1_ := Aside0.mk (Kd.R_elder' (by (with_reducible repeat (first | apply Kd.R_alloc | apply Kd.R_drewN | apply Kd.R_drew)); exact HO170.out) (Kd.R_base ho1) hb); have n2_ := Aside0.mk (Kd.R_mono (Kd.R_told (Kd.R_told (Kd.R_old (by (with_reducible repeat (first | apply Kd.R_alloc | apply Kd.R_drewN | apply Kd.R_drew)); exact HO173.out) hb) (Kd.R_base ho2)) (Kd.R_base ho3)) (fun _ h_ => h_.1)); have n3_ := Aside0.mk (Kd.R_mono (Kd.R_told (Kd.R_told (Kd.R_old (by (with_reducible repeat (first | apply Kd.R_alloc | apply Kd.R_drewN | apply Kd.R_drew)); exact HO176.out) hb) (Kd.R_base ho2)) (Kd.R_base ho3)) (fun _ h_ => h_.1)); have n4_ := Aside0.mk (Kd.R_elder' (by (with_reducible repeat (first | apply Kd.R_alloc | apply Kd.R_drewN | apply Kd.R_drew)); exact HO182.out) (Kd.R_base ho0) hb); have n5_ := Aside0.mk (Kd.R_elder' (by (with_reducible repeat (first | apply Kd.R_alloc | apply Kd.R_drewN | apply Kd.R_drew)); exact HO185.out) (Kd.R_base ho1) hb); have n6_ := Aside0.mk (Kd.R_mono (Kd.R_told (Kd.R_told (Kd.R_old (by (with_reducible repeat (first | apply Kd.R_alloc | apply Kd.R_drewN | apply Kd.R_drew)); exact HO188.out) hb) (Kd.R_base ho2)) (Kd.R_base ho3)) (fun _ h_ => h_.1)); have n7_ := Aside0.mk (Kd.R_mono (Kd.R_told (Kd.R_told (Kd.R_old (by (with_reducible repeat (first | apply Kd.R_alloc | apply Kd.R_drewN | apply Kd.R_drew)); exact HO191.out) hb) (Kd.R_base ho2)) (Kd.R_base ho3)) (fun _ h_ => h_.1)); have n8_ := Aside0.mk (Kd.R_mono (Kd.R_told (Kd.R_told (Kd.R_old (by (with_reducible repeat (first | apply Kd.R_alloc | apply Kd.R_drewN | apply Kd.R_drew)); exact HO194.out) hb) (Kd.R_base ho2)) (Kd.R_base ho3)) (fun _ h_ => h_.1)); have n9_ := Aside0.mk (Kd.R_elder' (by (with_reducible repeat (first | apply Kd.R_alloc | apply Kd.R_drewN | apply Kd.R_drew)); exact HO199.out) (Kd.R_base ho0) hb); have n10_ := Aside0.mk (Kd.R_elder' (by (with_reducible repeat (first | apply Kd.R_alloc | apply Kd.R_drewN | apply Kd.R_drew)); exact HO202.out) (Kd.R_base ho1) hb); have n11_ := Aside0.mk (Kd.R_mono (Kd.R_told (Kd.R_told (Kd.R_old (by (with_reducible repeat (first | apply Kd.R_alloc | apply Kd.R_drewN | apply Kd.R_drew)); exact HO205.out) hb) (Kd.R_base ho2)) (Kd.R_base ho3)) (fun _ h_ => h_.1)); have n12_ := Aside0.mk (Kd.R_mono (Kd.R_told (Kd.R_told (Kd.R_old (by (with_reducible repeat (first | apply Kd.R_alloc | apply Kd.R_drewN | apply Kd.R_drew)); exact HO208.out) hb) (Kd.R_base ho2)) (Kd.R_base ho3)) (fun _ h_ => h_.1)); have n13_ := Aside0.mk (Kd.R_lower (Kd.R_new' (Kd.R_new' (Kd.R_new' ho0 (Kd.R_lt (by (with_reducible repeat (first | apply Kd.R_alloc | apply Kd.R_drewN | apply Kd.R_drew)); exact HO167.out))) (Kd.R_lt (by (with_reducible repeat (first | apply Kd.R_alloc | apply Kd.R_drewN | apply Kd.R_drew)); exact HO182.out))) (Kd.R_lt (by (with_reducible repeat (first | apply Kd.R_alloc | apply Kd.R_drewN | apply Kd.R_drew)); exact HO199.out))) (below_size (by repeat (first | (with_reducible first | exact HB.out | apply below_alloc | apply pw_below_drewN | apply below_drew1) | exact HB.out)))); have n14_ := Aside0.mk (Kd.R_lower (Kd.R_new' (Kd.R_new' (Kd.R_new' ho1 (Kd.R_lt (by (with_reducible repeat (first | apply Kd.R_alloc | apply Kd.R_drewN | apply Kd.R_drew)); exact HO170.out))) (Kd.R_lt (by (with_reducible repeat (first | apply Kd.R_alloc | apply Kd.R_drewN | apply Kd.R_drew)); exact HO185.out))) (Kd.R_lt (by (with_reducible repeat (first | apply Kd.R_alloc | apply Kd.R_drewN | apply Kd.R_drew)); exact HO202.out))) (below_size (by repeat (first | (with_reducible first | exact HB.out | apply below_alloc | apply pw_below_drewN | apply below_drew1) | exact HB.out)))); have n15_ := Aside0.mk (Kd.R_lower (Kd.R_new' (Kd.R_new' (Kd.R_new' (Kd.R_new' (Kd.R_new' (Kd.R_new' (Kd.R_new' ho2 (Kd.R_lt (by (with_reducible repeat (first | apply Kd.R_alloc | apply Kd.R_drewN | apply Kd.R_drew)); exact HO173.out))) (Kd.R_lt (by (with_reducible repeat (first | apply Kd.R_alloc | apply Kd.R_drewN | apply Kd.R_drew)); exact HO176.out))) (Kd.R_lt (by (with_reducible repeat (first | apply Kd.R_alloc | apply Kd.R_drewN | apply Kd.R_drew)); exact HO188.out))) (Kd.R_lt (by (with_reducible repeat (first | apply Kd.R_alloc | apply Kd.R_drewN | apply Kd.R_drew)); exact HO191.out))) (Kd.R_lt (by (with_reducible repeat (first | apply Kd.R_alloc | apply Kd.R_drewN | apply Kd.R_drew)); exact HO194.out))) (Kd.R_lt (by (with_reducible repeat (first | apply Kd.R_alloc | apply Kd.R_drewN | apply Kd.R_drew)); exact HO205.out))) (Kd.R_lt (by (with_reducible repeat (first | apply Kd.R_alloc | apply Kd.R_drewN | apply Kd.R_drew)); exact HO208.out))) (below_size (by repeat (first | (with_reducible first | exact HB.out | apply below_alloc | apply pw_below_drewN | apply below_drew1) | exact HB.out)))); have n16_ := Aside0.mk (Kd.R_lower (Kd.R_new' (Kd.R_new' (Kd.R_new' (Kd.R_new' (Kd.R_new' (Kd.R_new' (Kd.R_new' ho3 (Kd.R_lt (by (with_reducible repeat (first | apply Kd.R_alloc | apply Kd.R_drewN | apply Kd.R_drew)); exact HO173.out))) (Kd.R_lt (by (with_reducible repeat (first | apply Kd.R_alloc | apply Kd.R_drewN | apply Kd.R_drew)); exact HO176.out))) (Kd.R_lt (by (with_reducible repeat (first | apply Kd.R_alloc | apply Kd.R_drewN | apply Kd.R_drew)); exact HO188.out))) (Kd.R_lt (by (with_reducible repeat (first | apply Kd.R_alloc | apply Kd.R_drewN | apply Kd.R_drew)); exact HO191.out))) (Kd.R_lt (by (with_reducible repeat (first | apply Kd.R_alloc | apply Kd.R_drewN | apply Kd.R_drew)); exact HO194.out))) (Kd.R_lt (by (with_reducible repeat (first | apply Kd.R_alloc | apply Kd.R_drewN | apply Kd.R_drew)); exact HO205.out))) (Kd.R_lt (by (with_reducible repeat (first | apply Kd.R_alloc | apply Kd.R_drewN | apply Kd.R_drew)); exact HO208.out))) (below_size (by repeat (first | (with_reducible first | exact HB.out | apply below_alloc | apply pw_below_drewN | apply below_drew1) | exact HB.out)))); have n17_ := Aside0.mk (below_step (by repeat (first | (with_reducible first | exact HB.out | apply below_alloc | apply pw_below_drewN | apply below_drew1) | exact HB.out)) hb); clear HO167; clear HO170; clear HO173; clear HO176; clear HO182; clear HO185; clear HO188; clear HO191; clear HO194; clear HO199; clear HO202; clear HO205; clear HO208; clear HB; have HO167 := n0_; have HO170 := n1_; have HO173 := n2_; have HO176 := n3_; have HO182 := n4_; have HO185 := n5_; have HO188 := n6_; have HO191 := n7_; have HO194 := n8_; have HO199 := n9_; have HO202 := n10_; have HO205 := n11_; have HO208 := n12_; have HO214 := n13_; have HO217 := n14_; have HO220 := n15_; have HO223 := n16_; have HB := n17_; clear n0_ n1_ n2_ n3_ n4_ n5_ n6_ n7_ n8_ n9_ n10_ n11_ n12_ n13_ n14_ n15_ n16_ n17_; (try clear hb); (try clear hb2); (try clear hk); (try clear hi); (try clear ho0); (try clear ho1); (try clear ho2); (try clear ho3)) | ((with_reducible refine gate_dst (N := 7) rfl ?_); (try (refine gate_guard (by rfl) ?_; dsimp only)); refine box_event ?hg (N := 7) ?hd (cs := #[.int .i64 0, .slice none 0 0, .slice none 0 0, .slice none 0 0, .slice none 0 0]) (t := 26) ?hr ?_; (case hd => rfl); (case hg => rfl); (case hr => first | (go_simp; done) | (go_simp; rfl)); intro gb224 hg w37 hbox hb; have n0_ := Aside0.mk (Kd.R_below (by (with_reducible repeat (first | apply Kd.R_alloc | apply Kd.R_drewN | apply Kd.R_drew)); exact HO167.out) hb); have n1_ := Aside0.mk (Kd.R_below (by (with_reducible repeat (first | apply Kd.R_alloc | apply Kd.R_drewN | apply Kd.R_drew)); exact HO170.out) hb); have n2_ := Aside0.mk (Kd.R_below (by (with_reducible repeat (first | apply Kd.R_alloc | apply Kd.R_drewN | apply Kd.R_drew)); exact HO173.out) hb); have n3_ := Aside0.mk (Kd.R_below (by (with_reducible repeat (first | apply Kd.R_alloc | apply Kd.R_drewN | apply Kd.R_drew)); exact HO176.out) hb); have n4_ := Aside0.mk (Kd.R_below (by (with_reducible repeat (first | apply Kd.R_alloc | apply Kd.R_drewN | apply Kd.R_drew)); exact HO182.out) hb); have n5_ := Aside0.mk (Kd.R_below (by (with_reducible repeat (first | apply Kd.R_alloc | apply Kd.R_drewN | apply Kd.R_drew)); exact HO185.out) hb); have n6_ := Aside0.mk (Kd.R_below (by (with_reducible repeat (first | apply Kd.R_alloc | apply Kd.R_drewN | apply Kd.R_drew)); exact HO188.out) hb); have n7_ := Aside0.mk (Kd.R_below (by (with_reducible repeat (first | apply Kd.R_alloc | apply Kd.R_drewN | apply Kd.R_drew)); exact HO191.out) hb); have n8_ := Aside0.mk (Kd.R_below (by (with_reducible repeat (first | apply Kd.R_alloc | apply Kd.R_drewN | apply Kd.R_drew)); exact HO194.out) hb); have n9_ := Aside0.mk (Kd.R_below (by (with_reducible repeat (first | apply Kd.R_alloc | apply Kd.R_drewN | apply Kd.R_drew)); exact HO199.out) hb); have n10_ := Aside0.mk (Kd.R_below (by (with_reducible repeat (first | apply Kd.R_alloc | apply Kd.R_drewN | apply Kd.R_drew)); exact HO202.out) hb); have n11_ := Aside0.mk (Kd.R_below (by (with_reducible repeat (first | apply Kd.R_alloc | apply Kd.R_drewN | apply Kd.R_drew)); exact HO205.out) hb); have n12_ := Aside0.mk (Kd.R_below (by (with_reducible repeat (first | apply Kd.R_alloc | apply Kd.R_drewN | apply Kd.R_drew)); exact HO208.out) hb); have n13_ := Aside0.mk (Kd.R_below (by (with_reducible repeat (first | apply Kd.R_alloc | apply Kd.R_drewN | apply Kd.R_drew)); exact HO214.out) hb); have n14_ := Aside0.mk (Kd.R_below (by (with_reducible repeat (first | apply Kd.R_alloc | apply Kd.R_drewN | apply Kd.R_drew)); exact HO217.out) hb); have n15_ := Aside0.mk (Kd.R_below (by (with_reducible repeat (first | apply Kd.R_alloc | apply Kd.R_drewN | apply Kd.R_drew)); exact HO220.out) hb); have n16_ := Aside0.mk (Kd.R_below (by (with_reducible repeat (first | apply Kd.R_alloc | apply Kd.R_drewN | apply Kd.R_drew)); exact HO223.out) hb); have n17_ := Aside0.mk (below_step (by repeat (first | (with_reducible first | exact HB.out | apply below_alloc | apply pw_below_drewN | apply below_drew1) | exact HB.out)) hb); have n18_ := Aside0.mk (hbox); have n19_ := Aside0.mk ((by rw [hg]; exact (below_size (by repeat (first | (with_reducible first | exact HB.out | apply below_alloc | apply pw_below_drewN | apply below_drew1) | exact HB.out))) : w.heap.size ≤ gb224)); have n20_ := Aside0.mk ((by rw [hg]; exact (below_size (by repeat (first | (with_reducible first | exact HB.out | apply below_alloc | apply pw_below_drewN | apply below_drew1) | exact HB.out))) : w.heap.size ≤ gb224)); clear HO167; clear HO170; clear HO173; clear HO176; clear HO182; clear HO185; clear HO188; clear HO191; clear HO194; clear HO199; clear HO202; clear HO205; clear HO208; clear HO214; clear HO217; clear HO220; clear HO223; clear HB; have HO167 := n0_; have HO170 := n1_; have HO173 := n2_; have HO176 := n3_; have HO182 := n4_; have HO185 := n5_; have HO188 := n6_; have HO191 := n7_; have HO194 := n8_; have HO199 := n9_; have HO202 := n10_; have HO205 := n11_; have HO208 := n12_; have HO214 := n13_; have HO217 := n14_; have HO220 := n15_; have HO223 := n16_; have HB := n17_; have BK224 := n18_; have GW224 := n19_; have GE224 := n20_; clear n0_ n1_ n2_ n3_ n4_ n5_ n6_ n7_ n8_ n9_ n10_ n11_ n12_ n13_ n14_ n15_ n16_ n17_ n18_ n19_ n20_; clear hb hbox hg; have hcz38_0 : w37.cell? ⟨gb224, 0, none⟩ = some (.int .i64 0) := (blk_cell BK224.out 0).trans rfl; have hcz38_1 : w37.cell? ⟨gb224, 1, none⟩ = some (.slice none 0 0) := (blk_cell BK224.out 1).trans rfl; have hcz38_2 : w37.cell? ⟨gb224, 2, none⟩ = some (.slice none 0 0) := (blk_cell BK224.out 2).trans rfl; have hcz38_3 : w37.cell? ⟨gb224, 3, none⟩ = some (.slice none 0 0) := (blk_cell BK224.out 3).trans rfl; have hcz38_4 : w37.cell? ⟨gb224, 4, none⟩ = some (.slice none 0 0) := (blk_cell BK224.out 4).trans rfl; have hfz38_0 := blk_frozen BK224.out 0; have hfz38_1 := blk_frozen BK224.out 1; have hfz38_2 := blk_frozen BK224.out 2; have hfz38_3 := blk_frozen BK224.out 3; have hfz38_4 := blk_frozen BK224.out 4; obtain ⟨Ao39, co39, eo39⟩ := Kd.R_slice HO214.out; subst eo39; obtain ⟨Ao40, co40, eo40⟩ := Kd.R_slice HO217.out; subst eo40; obtain ⟨Ao41, co41, eo41⟩ := Kd.R_slice HO220.out; subst eo41; obtain ⟨Ao42, co42, eo42⟩ := Kd.R_slice HO223.out; subst eo42) | ((with_reducible refine gate_store (t := 26) (p := 7) rfl ?_); refine store_event (t := 26) (p := 7) (v := ?vo_w43) (w1 := (((((w37.setCell ⟨gb224, 0, none⟩ (.int .i64 t211)).setCell ⟨gb224, 1, none⟩ (.slice Ao39 t212.length co39)).setCell ⟨gb224, 2, none⟩ (.slice Ao40 t215.length co40)).setCell ⟨gb224, 3, none⟩ (.slice Ao41 t218.length co41)).setCell ⟨gb224, 4, none⟩ (.slice Ao42 t221.length co42))) ?hg ?ho ?hn ?hr ?_; (case ho => rfl); (case hg => rfl); (case hn => rfl); (case hr => first | (go_simp; done) | (go_simp; rfl)); intro w43 hw; have n0_ : Aside0 (Kd.R k53 53 w43 w.heap.size (fun k_ => some k_ ≠ (.slice Ao25 t180.length co25 : Value).ownBlock ∧ some k_ ≠ (.slice Ao31 t197.length co31 : Value).ownBlock ∧ some k_ ≠ (.slice Ao39 t212.length co39 : Value).ownBlock) (.slice Ao19 t165.length co19) t165) := ⟨(by rw [hw]; exact (by (with_reducible repeat (first | apply Kd.R_alloc | apply Kd.R_drewN | apply Kd.R_drew)); exact Kd.R_mono (Kd.R_far (p := ⟨gb224, 4, none⟩) (Kd.R_far (p := ⟨gb224, 3, none⟩) (Kd.R_far (p := ⟨gb224, 2, none⟩) (Kd.R_far (p := ⟨gb224, 1, none⟩) (Kd.R_far (p := ⟨gb224, 0, none⟩) (Kd.R_types HO167.out BK224.out (by decide)) (fun _ hk => hk.2) (.int .i64 t211)) (fun _ hk => hk.2) (.slice Ao39 t212.length co39)) (fun _ hk => hk.2) (.slice Ao40 t215.length co40)) (fun _ hk => hk.2) (.slice Ao41 t218.length co41)) (fun _ hk => hk.2) (.slice Ao42 t221.length co42)) (fun _ hk => ⟨hk.1.1.1.2, ⟨hk.1.1.2, hk.1.2⟩⟩)))⟩; have n1_ : Aside0 (Kd.R k50 50 w43 w.heap.size (fun k_ => some k_ ≠ (.slice Ao26 t183.length co26 : Value).ownBlock ∧ some k_ ≠ (.slice Ao32 t200.length co32 : Value).ownBlock ∧ some k_ ≠ (.slice Ao40 t215.length co40 : Value).ownBlock) (.slice Ao20 t168.length co20) t168) := ⟨(by rw [hw]; exact (by (with_reducible repeat (first | apply Kd.R_alloc | apply Kd.R_drewN | apply Kd.R_drew)); exact Kd.R_mono (Kd.R_far (p := ⟨gb224, 4, none⟩) (Kd.R_far (p := ⟨gb224, 3, none⟩) (Kd.R_far (p := ⟨gb224, 2, none⟩) (Kd.R_far (p := ⟨gb224, 1, none⟩) (Kd.R_far (p := ⟨gb224, 0, none⟩) (Kd.R_types HO170.out BK224.out (by decide)) (fun _ hk => hk.2) (.int .i64 t211)) (fun _ hk => hk.2) (.slice Ao39 t212.length co39)) (fun _ hk => hk.2) (.slice Ao40 t215.length co40)) (fun _ hk => hk.2) (.slice Ao41 t218.length co41)) (fun _ hk => hk.2) (.slice Ao42 t221.length co42)) (fun _ hk => ⟨hk.1.1.1.2, ⟨hk.1.1.2, hk.1.2⟩⟩)))⟩; have n2_ : Aside0 (Kd.R (Kd.int .i64) 3 w43 w.heap.size (fun k_ => some k_ ≠ (.slice Ao22 t174.length co22 : Value).ownBlock ∧ some k_ ≠ (.slice Ao27 t186.length co27 : Value).ownBlock ∧ some k_ ≠ (.slice Ao28 t189.length co28 : Value).ownBlock ∧ some k_ ≠ (v193 : Value).ownBlock ∧ some k_ ≠ (.slice Ao33 t203.length co33 : Value).ownBlock ∧ some k_ ≠ (.slice Ao34 t206.length co34 : Value).ownBlock ∧ some k_ ≠ (.slice Ao41 t218.length co41 : Value).ownBlock ∧ some k_ ≠ (.slice Ao42 t221.length co42 : Value).ownBlock) (.slice Ao21 t171.length co21) t171) := ⟨(by rw [hw]; exact (by (with_reducible repeat (first | apply Kd.R_alloc | apply Kd.R_drewN | apply Kd.R_drew)); exact Kd.R_mono (Kd.R_far (p := ⟨gb224, 4, none⟩) (Kd.R_far (p := ⟨gb224, 3, none⟩) (Kd.R_far (p := ⟨gb224, 2, none⟩) (Kd.R_far (p := ⟨gb224, 1, none⟩) (Kd.R_far (p := ⟨gb224, 0, none⟩) (Kd.R_types HO173.out BK224.out (by decide)) (fun _ hk => hk.2) (.int .i64 t211)) (fun _ hk => hk.2) (.slice Ao39 t212.length co39)) (fun _ hk => hk.2) (.slice Ao40 t215.length co40)) (fun _ hk => hk.2) (.slice Ao41 t218.length co41)) (fun _ hk => hk.2) (.slice Ao42 t221.length co42)) (fun _ hk => ⟨hk.1.1.1.1.1.1.1.1, ⟨hk.1.1.1.1.1.1.1.2, ⟨hk.1.1.1.1.1.1.2, ⟨hk.1.1.1.1.1.2, ⟨hk.1.1.1.1.2, ⟨hk.1.1.1.2, ⟨hk.1.1.2, hk.1.2⟩⟩⟩⟩⟩⟩⟩)))⟩; have n3_ : Aside0 (Kd.R (Kd.int .i64) 3 w43 w.heap.size (fun k_ => some k_ ≠ (.slice Ao21 t171.length co21 : Value).ownBlock ∧ some k_ ≠ (.slice Ao27 t186.length co27 : Value).ownBlock ∧ some k_ ≠ (.slice Ao28 t189.length co28 : Value).ownBlock ∧ some k_ ≠ (v193 : Value).ownBlock ∧ some k_ ≠ (.slice Ao33 t203.length co33 : Value).ownBlock ∧ some k_ ≠ (.slice Ao34 t206.length co34 : Value).ownBlock ∧ some k_ ≠ (.slice Ao41 t218.length co41 : Value).ownBlock ∧ some k_ ≠ (.slice Ao42 t221.length co42 : Value).ownBlock) (.slice Ao22 t174.length co22) t174) := ⟨(by rw [hw]; exact (by (with_reducible repeat (first | apply Kd.R_alloc | apply Kd.R_drewN | apply Kd.R_drew)); exact Kd.R_mono (Kd.R_far (p := ⟨gb224, 4, none⟩) (Kd.R_far (p := ⟨gb224, 3, none⟩) (Kd.R_far (p := ⟨gb224, 2, none⟩) (Kd.R_far (p := ⟨gb224, 1, none⟩) (Kd.R_far (p := ⟨gb224, 0, none⟩) (Kd.R_types HO176.out BK224.out (by decide)) (fun _ hk => hk.2) (.int .i64 t211)) (fun _ hk => hk.2) (.slice Ao39 t212.length co39)) (fun _ hk => hk.2) (.slice Ao40 t215.length co40)) (fun _ hk => hk.2) (.slice Ao41 t218.length co41)) (fun _ hk => hk.2) (.slice Ao42 t221.length co42)) (fun _ hk => ⟨hk.1.1.1.1.1.1.1.1, ⟨hk.1.1.1.1.1.1.1.2, ⟨hk.1.1.1.1.1.1.2, ⟨hk.1.1.1.1.1.2, ⟨hk.1.1.1.1.2, ⟨hk.1.1.1.2, ⟨hk.1.1.2, hk.1.2⟩⟩⟩⟩⟩⟩⟩)))⟩; have n4_ : Aside0 (Kd.R k53 53 w43 w.heap.size (fun k_ => some k_ ≠ (.slice Ao19 t165.length co19 : Value).ownBlock ∧ some k_ ≠ (.slice Ao31 t197.length co31 : Value).ownBlock ∧ some k_ ≠ (.slice Ao39 t212.length co39 : Value).ownBlock) (.slice Ao25 t180.length co25) t180) := ⟨(by rw [hw]; exact (by (with_reducible repeat (first | apply Kd.R_alloc | apply Kd.R_drewN | apply Kd.R_drew)); exact Kd.R_mono (Kd.R_far (p := ⟨gb224, 4, none⟩) (Kd.R_far (p := ⟨gb224, 3, none⟩) (Kd.R_far (p := ⟨gb224, 2, none⟩) (Kd.R_far (p := ⟨gb224, 1, none⟩) (Kd.R_far (p := ⟨gb224, 0, none⟩) (Kd.R_types HO182.out BK224.out (by decide)) (fun _ hk => hk.2) (.int .i64 t211)) (fun _ hk => hk.2) (.slice Ao39 t212.length co39)) (fun _ hk => hk.2) (.slice Ao40 t215.length co40)) (fun _ hk => hk.2) (.slice Ao41 t218.length co41)) (fun _ hk => hk.2) (.slice Ao42 t221.length co42)) (fun _ hk => ⟨hk.1.1.1.2, ⟨hk.1.1.2, hk.1.2⟩⟩)))⟩; have n5_ : Aside0 (Kd.R k50 50 w43 w.heap.size (fun k_ => some k_ ≠ (.slice Ao20 t168.length co20 : Value).ownBlock ∧ some k_ ≠ (.slice Ao32 t200.length co32 : Value).ownBlock ∧ some k_ ≠ (.slice Ao40 t215.length co40 : Value).ownBlock) (.slice Ao26 t183.length co26) t183) := ⟨(by rw [hw]; exact (by (with_reducible repeat (first | apply Kd.R_alloc | apply Kd.R_drewN | apply Kd.R_drew)); exact Kd.R_mono (Kd.R_far (p := ⟨gb224, 4, none⟩) (Kd.R_far (p := ⟨gb224, 3, none⟩) (Kd.R_far (p := ⟨gb224, 2, none⟩) (Kd.R_far (p := ⟨gb224, 1, none⟩) (Kd.R_far (p := ⟨gb224, 0, none⟩) (Kd.R_types HO185.out BK224.out (by decide)) (fun _ hk => hk.2) (.int .i64 t211)) (fun _ hk => hk.2) (.slice Ao39 t212.length co39)) (fun _ hk => hk.2) (.slice Ao40 t215.length co40)) (fun _ hk => hk.2) (.slice Ao41 t218.length co41)) (fun _ hk => hk.2) (.slice Ao42 t221.length co42)) (fun _ hk => ⟨hk.1.1.1.2, ⟨hk.1.1.2, hk.1.2⟩⟩)))⟩; have n6_ : Aside0 (Kd.R (Kd.int .i64) 3 w43 w.heap.size (fun k_ => some k_ ≠ (.slice Ao21 t171.length co21 : Value).ownBlock ∧ some k_ ≠ (.slice Ao22 t174.length co22 : Value).ownBlock ∧ some k_ ≠ (.slice Ao28 t189.length co28 : Value).ownBlock ∧ some k_ ≠ (v193 : Value).ownBlock ∧ some k_ ≠ (.slice Ao33 t203.length co33 : Value).ownBlock ∧ some k_ ≠ (.slice Ao34 t206.length co34 : Value).ownBlock ∧ some k_ ≠ (.slice Ao41 t218.length co41 : Value).ownBlock ∧ some k_ ≠ (.slice Ao42 t221.length co42 : Value).ownBlock) (.slice Ao27 t186.length co27) t186) := ⟨(by rw [hw]; exact (by (with_reducible repeat (first | apply Kd.R_alloc | apply Kd.R_drewN | apply Kd.R_drew)); exact Kd.R_mono (Kd.R_far (p := ⟨gb224, 4, none⟩) (Kd.R_far (p := ⟨gb224, 3, none⟩) (Kd.R_far (p := ⟨gb224, 2, none⟩) (Kd.R_far (p := ⟨gb224, 1, none⟩) (Kd.R_far (p := ⟨gb224, 0, none⟩) (Kd.R_types HO188.out BK224.out (by decide)) (fun _ hk => hk.2) (.int .i64 t211)) (fun _ hk => hk.2) (.slice Ao39 t212.length co39)) (fun _ hk => hk.2) (.slice Ao40 t215.length co40)) (fun _ hk => hk.2) (.slice Ao41 t218.length co41)) (fun _ hk => hk.2) (.slice Ao42 t221.length co42)) (fun _ hk => ⟨hk.1.1.1.1.1.1.1.2, ⟨hk.1.1.1.1.1.1.2, ⟨hk.1.1.1.1.1.1.1.1, ⟨hk.1.1.1.1.1.2, ⟨hk.1.1.1.1.2, ⟨hk.1.1.1.2, ⟨hk.1.1.2, hk.1.2⟩⟩⟩⟩⟩⟩⟩)))⟩; have n7_ : Aside0 (Kd.R (Kd.int .i64) 3 w43 w.heap.size (fun k_ => some k_ ≠ (.slice Ao21 t171.length co21 : Value).ownBlock ∧ some k_ ≠ (.slice Ao22 t174.length co22 : Value).ownBlock ∧ some k_ ≠ (.slice Ao27 t186.length co27 : Value).ownBlock ∧ some k_ ≠ (v193 : Value).ownBlock ∧ some k_ ≠ (.slice Ao33 t203.length co33 : Value).ownBlock ∧ some k_ ≠ (.slice Ao34 t206.length co34 : Value).ownBlock ∧ some k_ ≠ (.slice Ao41 t218.length co41 : Value).ownBlock ∧ some k_ ≠ (.slice Ao42 t221.length co42 : Value).ownBlock) (.slice Ao28 t189.length co28) t189) := ⟨(by rw [hw]; exact (by (with_reducible repeat (first | apply Kd.R_alloc | apply Kd.R_drewN | apply Kd.R_drew)); exact Kd.R_mono (Kd.R_far (p := ⟨gb224, 4, none⟩) (Kd.R_far (p := ⟨gb224, 3, none⟩) (Kd.R_far (p := ⟨gb224, 2, none⟩) (Kd.R_far (p := ⟨gb224, 1, none⟩) (Kd.R_far (p := ⟨gb224, 0, none⟩) (Kd.R_types HO191.out BK224.out (by decide)) (fun _ hk => hk.2) (.int .i64 t211)) (fun _ hk => hk.2) (.slice Ao39 t212.length co39)) (fun _ hk => hk.2) (.slice Ao40 t215.length co40)) (fun _ hk => hk.2) (.slice Ao41 t218.length co41)) (fun _ hk => hk.2) (.slice Ao42 t221.length co42)) (fun _ hk => ⟨hk.1.1.1.1.1.1.1.2, ⟨hk.1.1.1.1.1.1.2, ⟨hk.1.1.1.1.1.1.1.1, ⟨hk.1.1.1.1.1.2, ⟨hk.1.1.1.1.2, ⟨hk.1.1.1.2, ⟨hk.1.1.2, hk.1.2⟩⟩⟩⟩⟩⟩⟩)))⟩; have n8_ : Aside0 (Kd.R (Kd.int .i64) 3 w43 w.heap.size (fun k_ => some k_ ≠ (.slice Ao21 t171.length co21 : Value).ownBlock ∧ some k_ ≠ (.slice Ao22 t174.length co22 : Value).ownBlock ∧ some k_ ≠ (.slice Ao27 t186.length co27 : Value).ownBlock ∧ some k_ ≠ (.slice Ao28 t189.length co28 : Value).ownBlock ∧ some k_ ≠ (.slice Ao33 t203.length co33 : Value).ownBlock ∧ some k_ ≠ (.slice Ao34 t206.length co34 : Value).ownBlock ∧ some k_ ≠ (.slice Ao41 t218.length co41 : Value).ownBlock ∧ some k_ ≠ (.slice Ao42 t221.length co42 : Value).ownBlock) v193 t192) := ⟨(by rw [hw]; exact (by (with_reducible repeat (first | apply Kd.R_alloc | apply Kd.R_drewN | apply Kd.R_drew)); exact Kd.R_mono (Kd.R_far (p := ⟨gb224, 4, none⟩) (Kd.R_far (p := ⟨gb224, 3, none⟩) (Kd.R_far (p := ⟨gb224, 2, none⟩) (Kd.R_far (p := ⟨gb224, 1, none⟩) (Kd.R_far (p := ⟨gb224, 0, none⟩) (Kd.R_types HO194.out BK224.out (by decide)) (fun _ hk => hk.2) (.int .i64 t211)) (fun _ hk => hk.2) (.slice Ao39 t212.length co39)) (fun _ hk => hk.2) (.slice Ao40 t215.length co40)) (fun _ hk => hk.2) (.slice Ao41 t218.length co41)) (fun _ hk => hk.2) (.slice Ao42 t221.length co42)) (fun _ hk => ⟨hk.1.1.1.1.1.1.1.1.2, ⟨hk.1.1.1.1.1.1.1.2, ⟨hk.1.1.1.1.1.1.2, ⟨hk.1.1.1.1.1.2, ⟨hk.1.1.1.1.2, ⟨hk.1.1.1.2, ⟨hk.1.1.2, hk.1.2⟩⟩⟩⟩⟩⟩⟩)))⟩; have n9_ : Aside0 (Kd.R k53 53 w43 w.heap.size (fun k_ => some k_ ≠ (.slice Ao19 t165.length co19 : Value).ownBlock ∧ some k_ ≠ (.slice Ao25 t180.length co25 : Value).ownBlock ∧ some k_ ≠ (.slice Ao39 t212.length co39 : Value).ownBlock) (.slice Ao31 t197.length co31) t197) := ⟨(by rw [hw]; exact (by (with_reducible repeat (first | apply Kd.R_alloc | apply Kd.R_drewN | apply Kd.R_drew)); exact Kd.R_mono (Kd.R_far (p := ⟨gb224, 4, none⟩) (Kd.R_far (p := ⟨gb224, 3, none⟩) (Kd.R_far (p := ⟨gb224, 2, none⟩) (Kd.R_far (p := ⟨gb224, 1, none⟩) (Kd.R_far (p := ⟨gb224, 0, none⟩) (Kd.R_types HO199.out BK224.out (by decide)) (fun _ hk => hk.2) (.int .i64 t211)) (fun _ hk => hk.2) (.slice Ao39 t212.length co39)) (fun _ hk => hk.2) (.slice Ao40 t215.length co40)) (fun _ hk => hk.2) (.slice Ao41 t218.length co41)) (fun _ hk => hk.2) (.slice Ao42 t221.length co42)) (fun _ hk => ⟨hk.1.1.1.2, ⟨hk.1.1.2, hk.1.2⟩⟩)))⟩; have n10_ : Aside0 (Kd.R k50 50 w43 w.heap.size (fun k_ => some k_ ≠ (.slice Ao20 t168.length co20 : Value).ownBlock ∧ some k_ ≠ (.slice Ao26 t183.length co26 : Value).ownBlock ∧ some k_ ≠ (.slice Ao40 t215.length co40 : Value).ownBlock) (.slice Ao32 t200.length co32) t200) := ⟨(by rw [hw]; exact (by (with_reducible repeat (first | apply Kd.R_alloc | apply Kd.R_drewN | apply Kd.R_drew)); exact Kd.R_mono (Kd.R_far (p := ⟨gb224, 4, none⟩) (Kd.R_far (p := ⟨gb224, 3, none⟩) (Kd.R_far (p := ⟨gb224, 2, none⟩) (Kd.R_far (p := ⟨gb224, 1, none⟩) (Kd.R_far (p := ⟨gb224, 0, none⟩) (Kd.R_types HO202.out BK224.out (by decide)) (fun _ hk => hk.2) (.int .i64 t211)) (fun _ hk => hk.2) (.slice Ao39 t212.length co39)) (fun _ hk => hk.2) (.slice Ao40 t215.length co40)) (fun _ hk => hk.2) (.slice Ao41 t218.length co41)) (fun _ hk => hk.2) (.slice Ao42 t221.length co42)) (fun _ hk => ⟨hk.1.1.1.2, ⟨hk.1.1.2, hk.1.2⟩⟩)))⟩; have n11_ : Aside0 (Kd.R (Kd.int .i64) 3 w43 w.heap.size (fun k_ => some k_ ≠ (.slice Ao21 t171.length co21 : Value).ownBlock ∧ some k_ ≠ (.slice Ao22 t174.length co22 : Value).ownBlock ∧ some k_ ≠ (.slice Ao27 t186.length co27 : Value).ownBlock ∧ some k_ ≠ (.slice Ao28 t189.length co28 : Value).ownBlock ∧ some k_ ≠ (v193 : Value).ownBlock ∧ some k_ ≠ (.slice Ao34 t206.length co34 : Value).ownBlock ∧ some k_ ≠ (.slice Ao41 t218.length co41 : Value).ownBlock ∧ some k_ ≠ (.slice Ao42 t221.length co42 : Value).ownBlock) (.slice Ao33 t203.length co33) t203) := ⟨(by rw [hw]; exact (by (with_reducible repeat (first | apply Kd.R_alloc | apply Kd.R_drewN | apply Kd.R_drew)); exact Kd.R_mono (Kd.R_far (p := ⟨gb224, 4, none⟩) (Kd.R_far (p := ⟨gb224, 3, none⟩) (Kd.R_far (p := ⟨gb224, 2, none⟩) (Kd.R_far (p := ⟨gb224, 1, none⟩) (Kd.R_far (p := ⟨gb224, 0, none⟩) (Kd.R_types HO205.out BK224.out (by decide)) (fun _ hk => hk.2) (.int .i64 t211)) (fun _ hk => hk.2) (.slice Ao39 t212.length co39)) (fun _ hk => hk.2) (.slice Ao40 t215.length co40)) (fun _ hk => hk.2) (.slice Ao41 t218.length co41)) (fun _ hk => hk.2) (.slice Ao42 t221.length co42)) (fun _ hk => ⟨hk.1.1.1.1.1.1.1.2, ⟨hk.1.1.1.1.1.1.2, ⟨hk.1.1.1.1.1.2, ⟨hk.1.1.1.1.2, ⟨hk.1.1.1.2, ⟨hk.1.1.1.1.1.1.1.1, ⟨hk.1.1.2, hk.1.2⟩⟩⟩⟩⟩⟩⟩)))⟩; have n12_ : Aside0 (Kd.R (Kd.int .i64) 3 w43 w.heap.size (fun k_ => some k_ ≠ (.slice Ao21 t171.length co21 : Value).ownBlock ∧ some k_ ≠ (.slice Ao22 t174.length co22 : Value).ownBlock ∧ some k_ ≠ (.slice Ao27 t186.length co27 : Value).ownBlock ∧ some k_ ≠ (.slice Ao28 t189.length co28 : Value).ownBlock ∧ some k_ ≠ (v193 : Value).ownBlock ∧ some k_ ≠ (.slice Ao33 t203.length co33 : Value).ownBlock ∧ some k_ ≠ (.slice Ao41 t218.length co41 : Value).ownBlock ∧ some k_ ≠ (.slice Ao42 t221.length co42 : Value).ownBlock) (.slice Ao34 t206.length co34) t206) := ⟨(by rw [hw]; exact (by (with_reducible repeat (first | apply Kd.R_alloc | apply Kd.R_drewN | apply Kd.R_drew)); exact Kd.R_mono (Kd.R_far (p := ⟨gb224, 4, none⟩) (Kd.R_far (p := ⟨gb224, 3, none⟩) (Kd.R_far (p := ⟨gb224, 2, none⟩) (Kd.R_far (p := ⟨gb224, 1, none⟩) (Kd.R_far (p := ⟨gb224, 0, none⟩) (Kd.R_types HO208.out BK224.out (by decide)) (fun _ hk => hk.2) (.int .i64 t211)) (fun _ hk => hk.2) (.slice Ao39 t212.length co39)) (fun _ hk => hk.2) (.slice Ao40 t215.length co40)) (fun _ hk => hk.2) (.slice Ao41 t218.length co41)) (fun _ hk => hk.2) (.slice Ao42 t221.length co42)) (fun _ hk => ⟨hk.1.1.1.1.1.1.1.2, ⟨hk.1.1.1.1.1.1.2, ⟨hk.1.1.1.1.1.2, ⟨hk.1.1.1.1.2, ⟨hk.1.1.1.2, ⟨hk.1.1.1.1.1.1.1.1, ⟨hk.1.1.2, hk.1.2⟩⟩⟩⟩⟩⟩⟩)))⟩; have n13_ : Aside0 (Kd.R k53 53 w43 w.heap.size (fun k_ => some k_ ≠ (.slice Ao19 t165.length co19 : Value).ownBlock ∧ some k_ ≠ (.slice Ao25 t180.length co25 : Value).ownBlock ∧ some k_ ≠ (.slice Ao31 t197.length co31 : Value).ownBlock) (.slice Ao39 t212.length co39) t212) := ⟨(by rw [hw]; exact (by (with_reducible repeat (first | apply Kd.R_alloc | apply Kd.R_drewN | apply Kd.R_drew)); exact Kd.R_mono (Kd.R_far (p := ⟨gb224, 4, none⟩) (Kd.R_far (p := ⟨gb224, 3, none⟩) (Kd.R_far (p := ⟨gb224, 2, none⟩) (Kd.R_far (p := ⟨gb224, 1, none⟩) (Kd.R_far (p := ⟨gb224, 0, none⟩) (Kd.R_types HO214.out BK224.out (by decide)) (fun _ hk => hk.2) (.int .i64 t211)) (fun _ hk => hk.2) (.slice Ao39 t212.length co39)) (fun _ hk => hk.2) (.slice Ao40 t215.length co40)) (fun _ hk => hk.2) (.slice Ao41 t218.length co41)) (fun _ hk => hk.2) (.slice Ao42 t221.length co42)) (fun _ hk => ⟨hk.1.1.1.2, ⟨hk.1.1.2, hk.1.2⟩⟩)))⟩; have n14_ : Aside0 (Kd.R k50 50 w43 w.heap.size (fun k_ => some k_ ≠ (.slice Ao20 t168.length co20 : Value).ownBlock ∧ some k_ ≠ (.slice Ao26 t183.length co26 : Value).ownBlock ∧ some k_ ≠ (.slice Ao32 t200.length co32 : Value).ownBlock) (.slice Ao40 t215.length co40) t215) := ⟨(by rw [hw]; exact (by (with_reducible repeat (first | apply Kd.R_alloc | apply Kd.R_drewN | apply Kd.R_drew)); exact Kd.R_mono (Kd.R_far (p := ⟨gb224, 4, none⟩) (Kd.R_far (p := ⟨gb224, 3, none⟩) (Kd.R_far (p := ⟨gb224, 2, none⟩) (Kd.R_far (p := ⟨gb224, 1, none⟩) (Kd.R_far (p := ⟨gb224, 0, none⟩) (Kd.R_types HO217.out BK224.out (by decide)) (fun _ hk => hk.2) (.int .i64 t211)) (fun _ hk => hk.2) (.slice Ao39 t212.length co39)) (fun _ hk => hk.2) (.slice Ao40 t215.length co40)) (fun _ hk => hk.2) (.slice Ao41 t218.length co41)) (fun _ hk => hk.2) (.slice Ao42 t221.length co42)) (fun _ hk => ⟨hk.1.1.1.2, ⟨hk.1.1.2, hk.1.2⟩⟩)))⟩; have n15_ : Aside0 (Kd.R (Kd.int .i64) 3 w43 w.heap.size (fun k_ => some k_ ≠ (.slice Ao21 t171.length co21 : Value).ownBlock ∧ some k_ ≠ (.slice Ao22 t174.length co22 : Value).ownBlock ∧ some k_ ≠ (.slice Ao27 t186.length co27 : Value).ownBlock ∧ some k_ ≠ (.slice Ao28 t189.length co28 : Value).ownBlock ∧ some k_ ≠ (v193 : Value).ownBlock ∧ some k_ ≠ (.slice Ao33 t203.length co33 : Value).ownBlock ∧ some k_ ≠ (.slice Ao34 t206.length co34 : Value).ownBlock ∧ some k_ ≠ (.slice Ao42 t221.length co42 : Value).ownBlock) (.slice Ao41 t218.length co41) t218) := ⟨(by rw [hw]; exact (by (with_reducible repeat (first | apply Kd.R_alloc | apply Kd.R_drewN | apply Kd.R_drew)); exact Kd.R_mono (Kd.R_far (p := ⟨gb224, 4, none⟩) (Kd.R_far (p := ⟨gb224, 3, none⟩) (Kd.R_far (p := ⟨gb224, 2, none⟩) (Kd.R_far (p := ⟨gb224, 1, none⟩) (Kd.R_far (p := ⟨gb224, 0, none⟩) (Kd.R_types HO220.out BK224.out (by decide)) (fun _ hk => hk.2) (.int .i64 t211)) (fun _ hk => hk.2) (.slice Ao39 t212.length co39)) (fun _ hk => hk.2) (.slice Ao40 t215.length co40)) (fun _ hk => hk.2) (.slice Ao41 t218.length co41)) (fun _ hk => hk.2) (.slice Ao42 t221.length co42)) (fun _ hk => ⟨hk.1.1.1.1.1.1.1.2, ⟨hk.1.1.1.1.1.1.2, ⟨hk.1.1.1.1.1.2, ⟨hk.1.1.1.1.2, ⟨hk.1.1.1.2, ⟨hk.1.1.2, ⟨hk.1.2, hk.1.1.1.1.1.1.1.1⟩⟩⟩⟩⟩⟩⟩)))⟩; have n16_ : Aside0 (Kd.R (Kd.int .i64) 3 w43 w.heap.size (fun k_ => some k_ ≠ (.slice Ao21 t171.length co21 : Value).ownBlock ∧ some k_ ≠ (.slice Ao22 t174.length co22 : Value).ownBlock ∧ some k_ ≠ (.slice Ao27 t186.length co27 : Value).ownBlock ∧ some k_ ≠ (.slice Ao28 t189.length co28 : Value).ownBlock ∧ some k_ ≠ (v193 : Value).ownBlock ∧ some k_ ≠ (.slice Ao33 t203.length co33 : Value).ownBlock ∧ some k_ ≠ (.slice Ao34 t206.length co34 : Value).ownBlock ∧ some k_ ≠ (.slice Ao41 t218.length co41 : Value).ownBlock) (.slice Ao42 t221.length co42) t221) := ⟨(by rw [hw]; exact (by (with_reducible repeat (first | apply Kd.R_alloc | apply Kd.R_drewN | apply Kd.R_drew)); exact Kd.R_mono (Kd.R_far (p := ⟨gb224, 4, none⟩) (Kd.R_far (p := ⟨gb224, 3, none⟩) (Kd.R_far (p := ⟨gb224, 2, none⟩) (Kd.R_far (p := ⟨gb224, 1, none⟩) (Kd.R_far (p := ⟨gb224, 0, none⟩) (Kd.R_types HO223.out BK224.out (by decide)) (fun _ hk => hk.2) (.int .i64 t211)) (fun _ hk => hk.2) (.slice Ao39 t212.length co39)) (fun _ hk => hk.2) (.slice Ao40 t215.length co40)) (fun _ hk => hk.2) (.slice Ao41 t218.length co41)) (fun _ hk => hk.2) (.slice Ao42 t221.length co42)) (fun _ hk => ⟨hk.1.1.1.1.1.1.1.2, ⟨hk.1.1.1.1.1.1.2, ⟨hk.1.1.1.1.1.2, ⟨hk.1.1.1.1.2, ⟨hk.1.1.1.2, ⟨hk.1.1.2, ⟨hk.1.2, hk.1.1.1.1.1.1.1.1⟩⟩⟩⟩⟩⟩⟩)))⟩; have n17_ : Aside0 (w43.heap[gb224]? = some (.cells #[.int .i64 t211, .slice Ao39 t212.length co39, .slice Ao40 t215.length co40, .slice Ao41 t218.length co41, .slice Ao42 t221.length co42] 26 (0, 0))) := ⟨(by rw [hw]; exact (by (with_reducible repeat (first | refine blk_drewN ?_ _ | refine blk_drew ?_ | refine blk_alloc ?_ _)); refine blk_put (cs := #[.int .i64 t211, .slice Ao39 t212.length co39, .slice Ao40 t215.length co40, .slice Ao41 t218.length co41, .slice none 0 0]) ?_ 4 _ rfl; (with_reducible repeat (first | refine blk_drewN ?_ _ | refine blk_drew ?_ | refine blk_alloc ?_ _)); refine blk_put (cs := #[.int .i64 t211, .slice Ao39 t212.length co39, .slice Ao40 t215.length co40, .slice none 0 0, .slice none 0 0]) ?_ 3 _ rfl; (with_reducible repeat (first | refine blk_drewN ?_ _ | refine blk_drew ?_ | refine blk_alloc ?_ _)); refine blk_put (cs := #[.int .i64 t211, .slice Ao39 t212.length co39, .slice none 0 0, .slice none 0 0, .slice none 0 0]) ?_ 2 _ rfl; (with_reducible repeat (first | refine blk_drewN ?_ _ | refine blk_drew ?_ | refine blk_alloc ?_ _)); refine blk_put (cs := #[.int .i64 t211, .slice none 0 0, .slice none 0 0, .slice none 0 0, .slice none 0 0]) ?_ 1 _ rfl; (with_reducible repeat (first | refine blk_drewN ?_ _ | refine blk_drew ?_ | refine blk_alloc ?_ _)); refine blk_put (cs := #[.int .i64 0, .slice none 0 0, .slice none 0 0, .slice none 0 0, .slice none 0 0]) ?_ 0 _ rfl; (with_reducible repeat (first | refine blk_drewN ?_ _ | refine blk_drew ?_ | refine blk_alloc ?_ _)); exact BK224.out))⟩; have n18_ : Aside0 (Below w.heap.size w w43) := ⟨(by rw [hw]; exact (by repeat (first | (with_reducible first | exact HB.out | apply below_alloc | apply pw_below_drewN | apply below_drew1 | refine below_set ?_ GE224.out) | exact HB.out)))⟩; clear hw; clear HO167; clear HO170; clear HO173; clear HO176; clear HO182; clear HO185; clear HO188; clear HO191; clear HO194; clear HO199; clear HO202; clear HO205; clear HO208; clear HO214; clear HO217; clear HO220; clear HO223; clear BK224; clear HB; have HO167 := n0_; have HO170 := n1_; have HO173 := n2_; have HO176 := n3_; have HO182 := n4_; have HO185 := n5_; have HO188 := n6_; have HO191 := n7_; have HO194 := n8_; have HO199 := n9_; have HO202 := n10_; have HO205 := n11_; have HO208 := n12_; have HO214 := n13_; have HO217 := n14_; have HO220 := n15_; have HO223 := n16_; have BK224 := n17_; have HB := n18_; clear n0_ n1_ n2_ n3_ n4_ n5_ n6_ n7_ n8_ n9_ n10_ n11_ n12_ n13_ n14_ n15_ n16_ n17_ n18_; have hcz44_0 : w43.cell? ⟨gb224, 0, none⟩ = some (.int .i64 t211) := (blk_cell BK224.out 0).trans rfl; have hcz44_1 : w43.cell? ⟨gb224, 1, none⟩ = some (.slice Ao39 t212.length co39) := (blk_cell BK224.out 1).trans rfl; have hcz44_2 : w43.cell? ⟨gb224, 2, none⟩ = some (.slice Ao40 t215.length co40) := (blk_cell BK224.out 2).trans rfl; have hcz44_3 : w43.cell? ⟨gb224, 3, none⟩ = some (.slice Ao41 t218.length co41) := (blk_cell BK224.out 3).trans rfl; have hcz44_4 : w43.cell? ⟨gb224, 4, none⟩ = some (.slice Ao42 t221.length co42) := (blk_cell BK224.out 4).trans rfl; have hfz44_0 := blk_frozen BK224.out 0; have hfz44_1 := blk_frozen BK224.out 1; have hfz44_2 := blk_frozen BK224.out 2; have hfz44_3 := blk_frozen BK224.out 3; have hfz44_4 := blk_frozen BK224.out 4; have p9 : 0 ≤ (0 : Int) := (by omega); have q9 : (0 : Int) < ((t215.length : Int) : Int) := of_decide_eq_true (by first | (with_reducible assumption) | assumption); have qi9 : (0 < t215.length) = True := eq_true (by omega); obtain ⟨go9, co9, eo9, gb9, gl9, cl9, HG9⟩ := Kd.R_form HO217.out (by omega); (first | cases eo9 | (injection eo9 with ea_ en_ ec_; (first | subst ea_ | (injection ea_ with ea_; subst ea_)); subst ec_; clear en_)); have GB9 := Aside0.mk gb9; have GG9 := Aside0.mk HG9; clear gb9 gl9 HG9; obtain ⟨ce9, hcl9, hM9, hcc9, hfr9⟩ := Kd.R_elem HO217.out z50 (0 : Int) p9 q9; obtain rfl := k50_openM hM9; have hx9_0 : w43.cell? ⟨go9, (0 : Int).toNat * 2, none⟩ = some (.int .i64 ((rd_T50 t215 0).f0)) := hcc9 0 _ rfl; have hx9_1 : w43.cell? ⟨go9, (0 : Int).toNat * 2 + 1, none⟩ = some (.int .i64 ((rd_T50 t215 0).f1)) := hcc9 1 _ rfl; have hf9_0 : w43.frozen? ⟨go9, (0 : Int).toNat * 2, none⟩ = false := hfr9 0; have hf9_1 : w43.frozen? ⟨go9, (0 : Int).toNat * 2 + 1, none⟩ = false := hfr9 1; clear hcl9 hcc9 hfr9 hM9; (try rw [show ((0 : Int)).toNat = 0 from rfl] at hx9_0); (try simp only [Nat.reduceMul, Nat.zero_mul, Nat.zero_add, Nat.reduceAdd] at hx9_0); (try rw [show ((0 : Int)).toNat = 0 from rfl] at hf9_0); (try simp only [Nat.reduceMul, Nat.zero_mul, Nat.zero_add, Nat.reduceAdd] at hf9_0); (try rw [show ((0 : Int)).toNat = 0 from rfl] at hx9_1); (try simp only [Nat.reduceMul, Nat.zero_mul, Nat.zero_add, Nat.reduceAdd] at hx9_1); (try rw [show ((0 : Int)).toNat = 0 from rfl] at hf9_1); (try simp only [Nat.reduceMul, Nat.zero_mul, Nat.zero_add, Nat.reduceAdd] at hf9_1); replace p9 := eq_true p9; replace q9 := eq_true q9; have HX45 := Aside0.mk (show Kd.R k50 50 w43 w.heap.size (fun k_ => some k_ ≠ (.slice Ao20 t168.length co20 : Value).ownBlock ∧ some k_ ≠ (.slice Ao26 t183.length co26 : Value).ownBlock ∧ some k_ ≠ (.slice Ao32 t200.length co32 : Value).ownBlock) (.slice (some ⟨go9, 0, none⟩) t215.length co40) t215 from (by (with_reducible repeat (first | apply Kd.R_alloc | apply Kd.R_drewN | apply Kd.R_drew)); exact HO217.out)); obtain ⟨ce45, hcl45, hM45, hcc45, hfr45⟩ := Kd.R_elem HX45.out z50 (0 : Int) (by omega) (by have h_ : (0 : Int) < ((t215.length : Int) : Int) := of_decide_eq_true (by first | (with_reducible assumption) | assumption); first | exact h_ | (have e_ := (Kd.R_reads' HO217.out).1; omega) | simpa using h_); obtain rfl := k50_openM hM45; have HP45 := Kd.R_seg HX45.out (0 : Int) (by omega) (by have h_ : (0 : Int) < ((t215.length : Int) : Int) := of_decide_eq_true (by first | (with_reducible assumption) | assumption); first | exact h_ | (have e_ := (Kd.R_reads' HO217.out).1; omega) | simpa using h_) (seg := [.int .i64 2, .int .i64 4]) (j := 0) hcl45 hcc45 (show 2 ≤ 2 from by decide) (x' := (⟨2, 4⟩ : S50)) (k50_mkM _ _ _ (⟨2, 4⟩ : S50) ) (fun _ hk => hk); have hx45_0 := hcc45 0 _ rfl; (try simp only [show (k50).sz = 2 from rfl, Nat.mul_one, Nat.add_zero] at hx45_0); (try rw [show ((0 : Int)).toNat = 0 from rfl] at hx45_0); (try simp only [Nat.reduceMul, Nat.zero_mul, Nat.zero_add, Nat.reduceAdd] at hx45_0); have hf45_0 := hfr45 0; (try simp only [show (k50).sz = 2 from rfl, Nat.mul_one, Nat.add_zero] at hf45_0); (try rw [show ((0 : Int)).toNat = 0 from rfl] at hf45_0); (try simp only [Nat.reduceMul, Nat.zero_mul, Nat.zero_add, Nat.reduceAdd] at hf45_0); have hx45_1 := hcc45 1 _ rfl; (try simp only [show (k50).sz = 2 from rfl, Nat.mul_one, Nat.add_zero] at hx45_1); (try rw [show ((0 : Int)).toNat = 0 from rfl] at hx45_1); (try simp only [Nat.reduceMul, Nat.zero_mul, Nat.zero_add, Nat.reduceAdd] at hx45_1); have hf45_1 := hfr45 1; (try simp only [show (k50).sz = 2 from rfl, Nat.mul_one, Nat.add_zero] at hf45_1); (try rw [show ((0 : Int)).toNat = 0 from rfl] at hf45_1); (try simp only [Nat.reduceMul, Nat.zero_mul, Nat.zero_add, Nat.reduceAdd] at hf45_1); clear hcl45 hcc45 hfr45 hM45) | ((with_reducible refine gate_store (t := 50) (p := 27) rfl ?_); refine store_event (t := 50) (p := 27) (v := ?vo_w46) (w1 := ((w43.setCell ⟨go9, 0, none⟩ (.int .i64 2)).setCell ⟨go9, 1, none⟩ (.int .i64 4))) ?hg ?ho ?hn ?hr ?_; (case ho => rfl); (case hg => rfl); (case hn => rfl); (case hr => first | (go_simp; done) | (go_simp; rfl)); intro w46 hw; have hg : w43.grownBy w46 (some go9) := (by rw [hw]; exact HP45.2); have hp_ : Kd.R k50 50 w46 w.heap.size (fun k_ => some k_ ≠ (.slice Ao20 t168.length co20 : Value).ownBlock ∧ some k_ ≠ (.slice Ao26 t183.length co26 : Value).ownBlock ∧ some k_ ≠ (.slice Ao32 t200.length co32 : Value).ownBlock) (.slice (some ⟨go9, 0, none⟩) t215.length co40) y225 := (by rw [hw, Ny225.out]; exact HP45.1); clear HP45; have n0_ := Aside0.mk (Kd.R_over' (v := (.slice (some ⟨go9, 0, none⟩) t215.length co40)) (by (with_reducible repeat (first | apply Kd.R_alloc | apply Kd.R_drewN | apply Kd.R_drew)); exact HO167.out) (Kd.R_typed HO217.out) (by decide) hg); have n1_ := Aside0.mk (Kd.R_after (v := (.slice (some ⟨go9, 0, none⟩) t215.length co40)) (v1 := (.slice (some ⟨go9, 0, none⟩) t215.length co40)) (ok := (fun k_ => some k_ ≠ (.slice Ao26 t183.length co26 : Value).ownBlock ∧ some k_ ≠ (.slice Ao32 t200.length co32 : Value).ownBlock)) (by (with_reducible repeat (first | apply Kd.R_alloc | apply Kd.R_drewN | apply Kd.R_drew)); exact Kd.R_mono HO170.out (fun _ hk => ⟨⟨hk.1, hk.2.1⟩, hk.2.2⟩)) hg (.inl rfl)); have n2_ := Aside0.mk (Kd.R_over' (v := (.slice (some ⟨go9, 0, none⟩) t215.length co40)) (by (with_reducible repeat (first | apply Kd.R_alloc | apply Kd.R_drewN | apply Kd.R_drew)); exact HO173.out) (Kd.R_typed HO217.out) (by decide) hg); have n3_ := Aside0.mk (Kd.R_over' (v := (.slice (some ⟨go9, 0, none⟩) t215.length co40)) (by (with_reducible repeat (first | apply Kd.R_alloc | apply Kd.R_drewN | apply Kd.R_drew)); exact HO176.out) (Kd.R_typed HO217.out) (by decide) hg); have n4_ := Aside0.mk (Kd.R_over' (v := (.slice (some ⟨go9, 0, none⟩) t215.length co40)) (by (with_reducible repeat (first | apply Kd.R_alloc | apply Kd.R_drewN | apply Kd.R_drew)); exact HO182.out) (Kd.R_typed HO217.out) (by decide) hg); have n5_ := Aside0.mk (Kd.R_after (v := (.slice (some ⟨go9, 0, none⟩) t215.length co40)) (v1 := (.slice (some ⟨go9, 0, none⟩) t215.length co40)) (ok := (fun k_ => some k_ ≠ (.slice Ao20 t168.length co20 : Value).ownBlock ∧ some k_ ≠ (.slice Ao32 t200.length co32 : Value).ownBlock)) (by (with_reducible repeat (first | apply Kd.R_alloc | apply Kd.R_drewN | apply Kd.R_drew)); exact Kd.R_mono HO185.out (fun _ hk => ⟨⟨hk.1, hk.2.1⟩, hk.2.2⟩)) hg (.inl rfl)); have n6_ := Aside0.mk (Kd.R_over' (v := (.slice (some ⟨go9, 0, none⟩) t215.length co40)) (by (with_reducible repeat (first | apply Kd.R_alloc | apply Kd.R_drewN | apply Kd.R_drew)); exact HO188.out) (Kd.R_typed HO217.out) (by decide) hg); have n7_ := Aside0.mk (Kd.R_over' (v := (.slice (some ⟨go9, 0, none⟩) t215.length co40)) (by (with_reducible repeat (first | apply Kd.R_alloc | apply Kd.R_drewN | apply Kd.R_drew)); exact HO191.out) (Kd.R_typed HO217.out) (by decide) hg); have n8_ := Aside0.mk (Kd.R_over' (v := (.slice (some ⟨go9, 0, none⟩) t215.length co40)) (by (with_reducible repeat (first | apply Kd.R_alloc | apply Kd.R_drewN | apply Kd.R_drew)); exact HO194.out) (Kd.R_typed HO217.out) (by decide) hg); have n9_ := Aside0.mk (Kd.R_over' (v := (.slice (some ⟨go9, 0, none⟩) t215.length co40)) (by (with_reducible repeat (first | apply Kd.R_alloc | apply Kd.R_drewN | apply Kd.R_drew)); exact HO199.out) (Kd.R_typed HO217.out) (by decide) hg); have n10_ := Aside0.mk (Kd.R_after (v := (.slice (some ⟨go9, 0, none⟩) t215.length co40)) (v1 := (.slice (some ⟨go9, 0, none⟩) t215.length co40)) (ok := (fun k_ => some k_ ≠ (.slice Ao20 t168.length co20 : Value).ownBlock ∧ some k_ ≠ (.slice Ao26 t183.length co26 : Value).ownBlock)) (by (with_reducible repeat (first | apply Kd.R_alloc | apply Kd.R_drewN | apply Kd.R_drew)); exact Kd.R_mono HO202.out (fun _ hk => ⟨⟨hk.1, hk.2.1⟩, hk.2.2⟩)) hg (.inl rfl)); have n11_ := Aside0.mk (Kd.R_over' (v := (.slice (some ⟨go9, 0, none⟩) t215.length co40)) (by (with_reducible repeat (first | apply Kd.R_alloc | apply Kd.R_drewN | apply Kd.R_drew)); exact HO205.out) (Kd.R_typed HO217.out) (by decide) hg); have n12_ := Aside0.mk (Kd.R_over' (v := (.slice (some ⟨go9, 0, none⟩) t215.length co40)) (by (with_reducible repeat (first | apply Kd.R_alloc | apply Kd.R_drewN | apply Kd.R_drew)); exact HO208.out) (Kd.R_typed HO217.out) (by decide) hg); have n13_ := Aside0.mk (Kd.R_over' (v := (.slice (some ⟨go9, 0, none⟩) t215.length co40)) (by (with_reducible repeat (first | apply Kd.R_alloc | apply Kd.R_drewN | apply Kd.R_drew)); exact HO214.out) (Kd.R_typed HO217.out) (by decide) hg); have n14_ := Aside0.mk (hp_); have n15_ := Aside0.mk (Kd.R_over' (v := (.slice (some ⟨go9, 0, none⟩) t215.length co40)) (by (with_reducible repeat (first | apply Kd.R_alloc | apply Kd.R_drewN | apply Kd.R_drew)); exact HO220.out) (Kd.R_typed HO217.out) (by decide) hg); have n16_ := Aside0.mk (Kd.R_over' (v := (.slice (some ⟨go9, 0, none⟩) t215.length co40)) (by (with_reducible repeat (first | apply Kd.R_alloc | apply Kd.R_drewN | apply Kd.R_drew)); exact HO223.out) (Kd.R_typed HO217.out) (by decide) hg); have n17_ := Aside0.mk (blk_grown (g := gb224) (o := .cells #[.int .i64 t211, .slice Ao39 t212.length co39, .slice (some ⟨go9, 0, none⟩) t215.length co40, .slice Ao41 t218.length co41, .slice Ao42 t221.length co42] 26 (0, 0)) (by (with_reducible repeat (first | refine blk_drewN ?_ _ | refine blk_drew ?_ | refine blk_alloc ?_ _)); exact BK224.out) hg (Kd.R_ne HO217.out BK224.out (by decide))); have n18_ := Aside0.mk ((by rw [hw]; exact below_set (below_set (HB.out) GB9.out) GB9.out : Below w.heap.size w w46)); clear HO167; clear HO170; clear HO173; clear HO176; clear HO182; clear HO185; clear HO188; clear HO191; clear HO194; clear HO199; clear HO202; clear HO205; clear HO208; clear HO214; clear HO217; clear HO220; clear HO223; clear BK224; clear HB; have HO167 := n0_; have HO170 := n1_; have HO173 := n2_; have HO176 := n3_; have HO182 := n4_; have HO185 := n5_; have HO188 := n6_; have HO191 := n7_; have HO194 := n8_; have HO199 := n9_; have HO202 := n10_; have HO205 := n11_; have HO208 := n12_; have HO214 := n13_; have HO217 := n14_; have HO220 := n15_; have HO223 := n16_; have BK224 := n17_; have HB := n18_; clear n0_ n1_ n2_ n3_ n4_ n5_ n6_ n7_ n8_ n9_ n10_ n11_ n12_ n13_ n14_ n15_ n16_ n17_ n18_; clear hg hw hp_) | ((with_reducible refine gate_dst (N := 40) rfl ?_); (try (refine gate_guard (by rfl) ?_; dsimp only)); refine Kd.R_lit (Kd.int .i64) _ 3 ?hg (N := 40) ?hd (xs := ([1, 2, 3, 4, 5] : List Int)) (inner := [.int .i64 1, .int .i64 2, .int .i64 3, .int .i64 4, .int .i64 5]) (ok := fun _ => True) (okp := fun _ => True) ?hr ?hp (fun _ hk => hk) trivial (Below.refl _ _) (Nat.le_refl _) (by simp) ?_; (case hd => rfl); (case hg => rfl); (case hr => first | (go_simp; done) | (go_simp; rfl)); (case hp => exact (Reps.one (show Kd.M (Kd.int .i64) _ _ _ 1 [.int .i64 1] from rfl) (Reps.one (show Kd.M (Kd.int .i64) _ _ _ 2 [.int .i64 2] from rfl) (Reps.one (show Kd.M (Kd.int .i64) _ _ _ 3 [.int .i64 3] from rfl) (Reps.one (show Kd.M (Kd.int .i64) _ _ _ 4 [.int .i64 4] from rfl) (Reps.one (show Kd.M (Kd.int .i64) _ _ _ 5 [.int .i64 5] from rfl) (Reps.none _ _))))))); intro v227 w47 ho48 hb hg_ hnew_; clear hg_ hnew_; (first | rw [← Ny226.out] at ho48 | (simp only [Int.reduceToNat] at ho48; rw [← Ny226.out] at ho48)); have n0_ := Aside0.mk (Kd.R_below (by (with_reducible repeat (first | apply Kd.R_alloc | apply Kd.R_drewN | apply Kd.R_drew)); exact HO167.out) hb); have n1_ := Aside0.mk (Kd.R_below (by (with_reducible repeat (first | apply Kd.R_alloc | apply Kd.R_drewN | apply Kd.R_drew)); exact HO170.out) hb); have n2_ := Aside0.mk (Kd.R_elder' (by (with_reducible repeat (first | apply Kd.R_alloc | apply Kd.R_drewN | apply Kd.R_drew)); exact HO173.out) (Kd.R_base ho48) hb); have n3_ := Aside0.mk (Kd.R_elder' (by (with_reducible repeat (first | apply Kd.R_alloc | apply Kd.R_drewN | apply Kd.R_drew)); exact HO176.out) (Kd.R_base ho48) hb); have n4_ := Aside0.mk (Kd.R_below (by (with_reducible repeat (first | apply Kd.R_alloc | apply Kd.R_drewN | apply Kd.R_drew)); exact HO182.out) hb); have n5_ := Aside0.mk (Kd.R_below (by (with_reducible repeat (first | apply Kd.R_alloc | apply Kd.R_drewN | apply Kd.R_drew)); exact HO185.out) hb); have n6_ := Aside0.mk (Kd.R_elder' (by (with_reducible repeat (first | apply Kd.R_alloc | apply Kd.R_drewN | apply Kd.R_drew)); exact HO188.out) (Kd.R_base ho48) hb); have n7_ := Aside0.mk (Kd.R_elder' (by (with_reducible repeat (first | apply Kd.R_alloc | apply Kd.R_drewN | apply Kd.R_drew)); exact HO191.out) (Kd.R_base ho48) hb); have n8_ := Aside0.mk (Kd.R_elder' (by (with_reducible repeat (first | apply Kd.R_alloc | apply Kd.R_drewN | apply Kd.R_drew)); exact HO194.out) (Kd.R_base ho48) hb); have n9_ := Aside0.mk (Kd.R_below (by (with_reducible repeat (first | apply Kd.R_alloc | apply Kd.R_drewN | apply Kd.R_drew)); exact HO199.out) hb); have n10_ := Aside0.mk (Kd.R_below (by (with_reducible repeat (first | apply Kd.R_alloc | apply Kd.R_drewN | apply Kd.R_drew)); exact HO202.out) hb); have n11_ := Aside0.mk (Kd.R_elder' (by (with_reducible repeat (first | apply Kd.R_alloc | apply Kd.R_drewN | apply Kd.R_drew)); exact HO205.out) (Kd.R_base ho48) hb); have n12_ := Aside0.mk (Kd.R_elder' (by (with_reducible repeat (first | apply Kd.R_alloc | apply Kd.R_drewN | apply Kd.R_drew)); exact HO208.out) (Kd.R_base ho48) hb); have n13_ := Aside0.mk (Kd.R_below (by (with_reducible repeat (first | apply Kd.R_alloc | apply Kd.R_drewN | apply Kd.R_drew)); exact HO214.out) hb); have n14_ := Aside0.mk (Kd.R_below (by (with_reducible repeat (first | apply Kd.R_alloc | apply Kd.R_drewN | apply Kd.R_drew)); exact HO217.out) hb); have n15_ := Aside0.mk (Kd.R_elder' (by (with_reducible repeat (first | apply Kd.R_alloc | apply Kd.R_drewN | apply Kd.R_drew)); exact HO220.out) (Kd.R_base ho48) hb); have n16_ := Aside0.mk (Kd.R_elder' (by (with_reducible repeat (first | apply Kd.R_alloc | apply Kd.R_drewN | apply Kd.R_drew)); exact HO223.out) (Kd.R_base ho48) hb); have n17_ := Aside0.mk (Kd.R_lower (Kd.R_new' (Kd.R_new' (Kd.R_new' (Kd.R_new' (Kd.R_new' (Kd.R_new' (Kd.R_new' (Kd.R_new' (Kd.R_new' ho48 (Kd.R_lt (by (with_reducible repeat (first | apply Kd.R_alloc | apply Kd.R_drewN | apply Kd.R_drew)); exact HO173.out))) (Kd.R_lt (by (with_reducible repeat (first | apply Kd.R_alloc | apply Kd.R_drewN | apply Kd.R_drew)); exact HO176.out))) (Kd.R_lt (by (with_reducible repeat (first | apply Kd.R_alloc | apply Kd.R_drewN | apply Kd.R_drew)); exact HO188.out))) (Kd.R_lt (by (with_reducible repeat (first | apply Kd.R_alloc | apply Kd.R_drewN | apply Kd.R_drew)); exact HO191.out))) (Kd.R_lt (by (with_reducible repeat (first | apply Kd.R_alloc | apply Kd.R_drewN | apply Kd.R_drew)); exact HO194.out))) (Kd.R_lt (by (with_reducible repeat (first | apply Kd.R_alloc | apply Kd.R_drewN | apply Kd.R_drew)); exact HO205.out))) (Kd.R_lt (by (with_reducible repeat (first | apply Kd.R_alloc | apply Kd.R_drewN | apply Kd.R_drew)); exact HO208.out))) (Kd.R_lt (by (with_reducible repeat (first | apply Kd.R_alloc | apply Kd.R_drewN | apply Kd.R_drew)); exact HO220.out))) (Kd.R_lt (by (with_reducible repeat (first | apply Kd.R_alloc | apply Kd.R_drewN | apply Kd.R_drew)); exact HO223.out))) (below_size (by repeat (first | (with_reducible first | exact HB.out | apply below_alloc | apply pw_below_drewN | apply below_drew1 | refine below_set ?_ GE224.out) | exact HB.out)))); have n18_ := Aside0.mk (blk_below (g := gb224) (o := .cells #[.int .i64 t211, .slice Ao39 t212.length co39, .slice (some ⟨go9, 0, none⟩) t215.length co40, .slice Ao41 t218.length co41, .slice Ao42 t221.length co42] 26 (0, 0)) (by (with_reducible repeat (first | refine blk_drewN ?_ _ | refine blk_drew ?_ | refine blk_alloc ?_ _)); exact BK224.out) hb); have n19_ := Aside0.mk (below_step (by repeat (first | (with_reducible first | exact HB.out | apply below_alloc | apply pw_below_drewN | apply below_drew1 | refine below_set ?_ GE224.out) | exact HB.out)) hb); clear HO167; clear HO170; clear HO173; clear HO176; clear HO182; clear HO185; clear HO188; clear HO191; clear HO194; clear HO199; clear HO202; clear HO205; clear HO208; clear HO214; clear HO217; clear HO220; clear HO223; clear BK224; clear HB; have HO167 := n0_; have HO170 := n1_; have HO173 := n2_; have HO176 := n3_; have HO182 := n4_; have HO185 := n5_; have HO188 := n6_; have HO191 := n7_; have HO194 := n8_; have HO199 := n9_; have HO202 := n10_; have HO205 := n11_; have HO208 := n12_; have HO214 := n13_; have HO217 := n14_; have HO220 := n15_; have HO223 := n16_; have HO228 := n17_; have BK224 := n18_; have HB := n19_; clear n0_ n1_ n2_ n3_ n4_ n5_ n6_ n7_ n8_ n9_ n10_ n11_ n12_ n13_ n14_ n15_ n16_ n17_ n18_ n19_; clear hb ho48; obtain ⟨Ao49, co49, eo49⟩ := Kd.R_slice HO194.out; subst eo49; obtain ⟨Ao50, co50, eo50⟩ := Kd.R_slice HO228.out; subst eo50) | (go_at_call 23; (with_reducible refine (spiritlevelref02_SameInts.calls k _ _ t192 _ _ y226 true _ ?side1 ?side2 ?side3 ?side4 A13.out).mono ?_); (case side1 => repeat (first | exact (Kd.R_reads' HO194.out).2.2 | (with_reducible refine Kd.C_alloc ?_ _) | (with_reducible refine Kd.C_drewN ?_ _) | (with_reducible refine Kd.C_drew ?_))); (case side2 => exact (Kd.R_reads' HO194.out).2.1); (case side3 => repeat (first | exact (Kd.R_reads' HO228.out).2.2 | (with_reducible refine Kd.C_alloc ?_ _) | (with_reducible refine Kd.C_drewN ?_ _) | (with_reducible refine Kd.C_drew ?_))); (case side4 => exact (Kd.R_reads' HO228.out).2.1); rintro e w' ⟨rfl, ⟨nd, rfl⟩⟩; have hcz51_0 : w47.cell? ⟨gb224, 0, none⟩ = some (.int .i64 t211) := (blk_cell BK224.out 0).trans rfl; have hcz51_1 : w47.cell? ⟨gb224, 1, none⟩ = some (.slice Ao39 t212.length co39) := (blk_cell BK224.out 1).trans rfl; have hcz51_2 : w47.cell? ⟨gb224, 2, none⟩ = some (.slice (some ⟨go9, 0, none⟩) t215.length co40) := (blk_cell BK224.out 2).trans rfl; have hcz51_3 : w47.cell? ⟨gb224, 3, none⟩ = some (.slice Ao41 t218.length co41) := (blk_cell BK224.out 3).trans rfl; have hcz51_4 : w47.cell? ⟨gb224, 4, none⟩ = some (.slice Ao42 t221.length co42) := (blk_cell BK224.out 4).trans rfl; have hfz51_0 := blk_frozen BK224.out 0; have hfz51_1 := blk_frozen BK224.out 1; have hfz51_2 := blk_frozen BK224.out 2; have hfz51_3 := blk_frozen BK224.out 3; have hfz51_4 := blk_frozen BK224.out 4) | (go_at_call 16; refine calls_of_args (args' := #[.agg #[.int .i64 t211, .slice Ao39 t212.length co39, .slice (some ⟨go9, 0, none⟩) y225.length co40, .slice Ao41 t218.length co41, .slice Ao42 t221.length co42]]) (by first | (rw [show y225.length = t215.length from (Kd.R_reads' HO217.out).1.symm] <;> rfl) | rfl) ?_; (with_reducible refine (gates_Check.calls t211 _ _ t212 _ _ y225 _ _ t218 _ _ t221 t230 _ ?side1 ?side2 ?side3 ?side4 ?side5 ?side6 ?side7 ?side8 A17.out).mono ?_); (case side1 => repeat (first | exact (Kd.R_reads' HO214.out).2.2 | (with_reducible refine Kd.C_alloc ?_ _) | (with_reducible refine Kd.C_drewN ?_ _) | (with_reducible refine Kd.C_drew ?_))); (case side2 => exact (Kd.R_reads' HO214.out).2.1); (case side3 => repeat (first | exact (Kd.R_reads' HO217.out).2.2 | (with_reducible refine Kd.C_alloc ?_ _) | (with_reducible refine Kd.C_drewN ?_ _) | (with_reducible refine Kd.C_drew ?_))); (case side4 => rw [show y225.length = t215.length from (Kd.R_reads' HO217.out).1.symm]; exact (Kd.R_reads' HO217.out).2.1); (case side5 => repeat (first | exact (Kd.R_reads' HO220.out).2.2 | (with_reducible refine Kd.C_alloc ?_ _) | (with_reducible refine Kd.C_drewN ?_ _) | (with_reducible refine Kd.C_drew ?_))); (case side6 => exact (Kd.R_reads' HO220.out).2.1); (case side7 => repeat (first | exact (Kd.R_reads' HO223.out).2.2 | (with_reducible refine Kd.C_alloc ?_ _) | (with_reducible refine Kd.C_drewN ?_ _) | (with_reducible refine Kd.C_drew ?_))); (case side8 => exact (Kd.R_reads' HO223.out).2.1); rintro e w52 ⟨rfl, hb⟩; have n0_ := Aside0.mk (Kd.R_below (by (with_reducible repeat (first | apply Kd.R_alloc | apply Kd.R_drewN | apply Kd.R_drew)); exact HO167.out) hb); have n1_ := Aside0.mk (Kd.R_below (by (with_reducible repeat (first | apply Kd.R_alloc | apply Kd.R_drewN | apply Kd.R_drew)); exact HO170.out) hb); have n2_ := Aside0.mk (Kd.R_below (by (with_reducible repeat (first | apply Kd.R_alloc | apply Kd.R_drewN | apply Kd.R_drew)); exact HO173.out) hb); have n3_ := Aside0.mk (Kd.R_below (by (with_reducible repeat (first | apply Kd.R_alloc | apply Kd.R_drewN | apply Kd.R_drew)); exact HO176.out) hb); have n4_ := Aside0.mk (Kd.R_below (by (with_reducible repeat (first | apply Kd.R_alloc | apply Kd.R_drewN | apply Kd.R_drew)); exact HO182.out) hb); have n5_ := Aside0.mk (Kd.R_below (by (with_reducible repeat (first | apply Kd.R_alloc | apply Kd.R_drewN | apply Kd.R_drew)); exact HO185.out) hb); have n6_ := Aside0.mk (Kd.R_below (by (with_reducible repeat (first | apply Kd.R_alloc | apply Kd.R_drewN | apply Kd.R_drew)); exact HO188.out) hb); have n7_ := Aside0.mk (Kd.R_below (by (with_reducible repeat (first | apply Kd.R_alloc | apply Kd.R_drewN | apply Kd.R_drew)); exact HO191.out) hb); have n8_ := Aside0.mk (Kd.R_below (by (with_reducible repeat (first | apply Kd.R_alloc | apply Kd.R_drewN | apply Kd.R_drew)); exact HO194.out) hb); have n9_ := Aside0.mk (Kd.R_below (by (with_reducible repeat (first | apply Kd.R_alloc | apply Kd.R_drewN | apply Kd.R_drew)); exact HO199.out) hb); have n10_ := Aside0.mk (Kd.R_below (by (with_reducible repeat (first | apply Kd.R_alloc | apply Kd.R_drewN | apply Kd.R_drew)); exact HO202.out) hb); have n11_ := Aside0.mk (Kd.R_below (by (with_reducible repeat (first | apply Kd.R_alloc | apply Kd.R_drewN | apply Kd.R_drew)); exact HO205.out) hb); have n12_ := Aside0.mk (Kd.R_below (by (with_reducible repeat (first | apply Kd.R_alloc | apply Kd.R_drewN | apply Kd.R_drew)); exact HO208.out) hb); have n13_ := Aside0.mk (Kd.R_below (by (with_reducible repeat (first | apply Kd.R_alloc | apply Kd.R_drewN | apply Kd.R_drew)); exact HO214.out) hb); have n14_ := Aside0.mk (Kd.R_below (by (with_reducible repeat (first | apply Kd.R_alloc | apply Kd.R_drewN | apply Kd.R_drew)); exact HO217.out) hb); have n15_ := Aside0.mk (Kd.R_below (by (with_reducible repeat (first | apply Kd.R_alloc | apply Kd.R_drewN | apply Kd.R_drew)); exact HO220.out) hb); have n16_ := Aside0.mk (Kd.R_below (by (with_reducible repeat (first | apply Kd.R_alloc | apply Kd.R_drewN | apply Kd.R_drew)); exact HO223.out) hb); have n17_ := Aside0.mk (Kd.R_below (by (with_reducible repeat (first | apply Kd.R_alloc | apply Kd.R_drewN | apply Kd.R_drew)); exact HO228.out) hb); have n18_ := Aside0.mk (blk_below (g := gb224) (o := .cells #[.int .i64 t211, .slice Ao39 t212.length co39, .slice (some ⟨go9, 0, none⟩) t215.length co40, .slice Ao41 t218.length co41, .slice Ao42 t221.length co42] 26 (0, 0)) (by (with_reducible repeat (first | refine blk_drewN ?_ _ | refine blk_drew ?_ | refine blk_alloc ?_ _)); exact BK224.out) hb); have n19_ := Aside0.mk (below_step (by repeat (first | (with_reducible first | exact HB.out | apply below_alloc | apply pw_below_drewN | apply below_drew1 | refine below_set ?_ GE224.out) | exact HB.out)) hb); clear HO167; clear HO170; clear HO173; clear HO176; clear HO182; clear HO185; clear HO188; clear HO191; clear HO194; clear HO199; clear HO202; clear HO205; clear HO208; clear HO214; clear HO217; clear HO220; clear HO223; clear HO228; clear BK224; clear HB; have HO167 := n0_; have HO170 := n1_; have HO173 := n2_; have HO176 := n3_; have HO182 := n4_; have HO185 := n5_; have HO188 := n6_; have HO191 := n7_; have HO194 := n8_; have HO199 := n9_; have HO202 := n10_; have HO205 := n11_; have HO208 := n12_; have HO214 := n13_; have HO217 := n14_; have HO220 := n15_; have HO223 := n16_; have HO228 := n17_; have BK224 := n18_; have HB := n19_; clear n0_ n1_ n2_ n3_ n4_ n5_ n6_ n7_ n8_ n9_ n10_ n11_ n12_ n13_ n14_ n15_ n16_ n17_ n18_ n19_; (try clear hb); (try clear hb2); (try clear hk); (try clear hi)))
                go_ret
                exact ⟨by first | rfl | (simp [errW_none, errW_some] <;> rfl) | (simp [*, errW_none, errW_some] <;> rfl), by repeat (first | (with_reducible first | exact HB.out | apply below_alloc | apply pw_below_drewN | apply below_drew1 | refine below_set ?_ GE224.out) | exact HB.out)⟩
              · rw [if_neg c16] at H
                have c16b0 : (t209 == 2) = false := beq_eq_false_iff_ne.mpr c16
                have c16b1 : (t209 != 2) = true := bne_iff_ne.mpr c16
                exact absurd ((Option.some.inj H).trans HT_.out) (by decide)
            · rw [if_neg c15] at H
              have c15b0 : (t210 == 0) = false := beq_eq_false_iff_ne.mpr c15
              have c15b1 : (t210 != 0) = true := bne_iff_ne.mpr c15
              exact absurd ((Option.some.inj H).trans HT_.out) (by decide)
          · replace c14 := Bool.eq_false_iff.mpr c14
            subst c14
            have H1 : (some false) = some r := by rw [if_neg (show ¬ (false = true) by decide)] at H; exact H
            clear H
            have H := H1
            clear H1
            exact absurd ((Option.some.inj H).trans HT_.out) (by decide)
        · rw [if_neg c12] at H
          have c12b0 : (t195 == 0) = false := beq_eq_false_iff_ne.mpr c12
          have c12b1 : (t195 != 0) = true := bne_iff_ne.mpr c12
          exact absurd ((Option.some.inj H).trans HT_.out) (by decide)
      · rw [if_neg c11] at H
        have c11b0 : (t177 == 5) = false := beq_eq_false_iff_ne.mpr c11
        have c11b1 : (t177 != 5) = true := bne_iff_ne.mpr c11
        exact absurd ((Option.some.inj H).trans HT_.out) (by decide)
    · rw [if_neg c10] at H
      have c10b0 : (t178 == 0) = false := beq_eq_false_iff_ne.mpr c10
      have c10b1 : (t178 != 0) = true := bne_iff_ne.mpr c10
      exact absurd ((Option.some.inj H).trans HT_.out) (by decide)
  · rw [if_neg c8] at H
    exact absurd H (by simp)

def spiritlevellaw02_alive.f (k : Nat) : Option (Bool) := (spiritlevellaw02_alive_t.f k).bind fun b => if b = true then some true else none
theorem spiritlevellaw02_alive.mono : ∀ k, LeO (spiritlevellaw02_alive.f k) (spiritlevellaw02_alive.f (k + 1)) := fun k => LeO.bind (spiritlevellaw02_alive_t.mono k) (fun _ => LeO.refl _)
theorem spiritlevellaw02_alive.calls (k : Nat)  (r : Bool) (w : World) (h : spiritlevellaw02_alive.f k  = some r) :
    Calls Try.prog 25 #[] w fun e w' => e = .returned (.bool r) ∧ Below w.heap.size w w' := by
  unfold spiritlevellaw02_alive.f at h
  obtain ⟨b, hb, h⟩ := Option.bind_eq_some_iff.mp h
  cases b with
  | false => simp at h
  | true =>
    rw [if_pos rfl] at h
    obtain rfl := Option.some.inj h
    exact spiritlevellaw02_alive_t.calls k true w rfl hb

/-! ### spiritlevellaw02_has: function 26 -/
mutual
def spiritlevellaw02_has.l0 : Nat → List Int → List Int → Int → Int → Option (Bool)
  | 0, _, _, _, _ => none
  | k + 1, x0, x1, x5, x6 => if x6 < (x0.length : Int) then (spiritlevellaw02_has.j1 k x0 x1 x5 x6 (decide (x5 < (x1.length : Int)))) else (spiritlevellaw02_has.j1 k x0 x1 x5 x6 false)
def spiritlevellaw02_has.j1 : Nat → List Int → List Int → Int → Int → Bool → Option (Bool)
  | 0, _, _, _, _, _ => none
  | k + 1, x0, x1, x5, x6, x16 => if x16 = true then (if 0 ≤ x6 then (if x6 < (x0.length : Int) then (if 0 ≤ x5 then (if x5 < (x1.length : Int) then (if (rd x0 x6) = (rd x1 x5) then (spiritlevellaw02_has.l0 k x0 x1 (wrap64 (x5 + 1)) (wrap64 (x6 + 1))) else (spiritlevellaw02_has.l0 k x0 x1 x5 (wrap64 (x6 + 1)))) else (none)) else (none)) else (none)) else (none)) else (some (x5 == (x1.length : Int)))
end
def spiritlevellaw02_has.f (k : Nat) (l0 : List Int) (l1 : List Int) : Option (Bool) := spiritlevellaw02_has.l0 k l0 l1 0 0
theorem spiritlevellaw02_has.mono_l : ∀ k, (∀ y0 y1 y2 y3, LeO (spiritlevellaw02_has.l0 k y0 y1 y2 y3) (spiritlevellaw02_has.l0 (k + 1) y0 y1 y2 y3)) ∧ (∀ y0 y1 y2 y3 y4, LeO (spiritlevellaw02_has.j1 k y0 y1 y2 y3 y4) (spiritlevellaw02_has.j1 (k + 1) y0 y1 y2 y3 y4))
  | 0 => ⟨fun _ _ _ _ r h => by simp [spiritlevellaw02_has.l0] at h, fun _ _ _ _ _ r h => by simp [spiritlevellaw02_has.j1] at h⟩
  | k + 1 => by
    obtain ⟨ih0, ih1⟩ := spiritlevellaw02_has.mono_l k
    refine ⟨?_, ?_⟩
    · intro y0 y1 y2 y3
      unfold spiritlevellaw02_has.l0
      repeat' first
      | (with_reducible exact ih0 _ _ _ _)
      | (with_reducible exact ih1 _ _ _ _ _)
      | (with_reducible exact LeO.refl _)
      | (with_reducible exact LeO.none _)
      | (with_reducible refine LeO.ite ?_ ?_)
      | (with_reducible refine LeO.bind ?_ (fun _ => ?_))
      | exact ih0 _ _ _ _
      | exact ih1 _ _ _ _ _
      | exact LeO.none _
      | refine LeO.ite ?_ ?_
      | refine LeO.bind ?_ (fun _ => ?_)
    · intro y0 y1 y2 y3 y4
      unfold spiritlevellaw02_has.j1
      repeat' first
      | (with_reducible exact ih0 _ _ _ _)
      | (with_reducible exact ih1 _ _ _ _ _)
      | (with_reducible exact LeO.refl _)
      | (with_reducible exact LeO.none _)
      | (with_reducible refine LeO.ite ?_ ?_)
      | (with_reducible refine LeO.bind ?_ (fun _ => ?_))
      | exact ih0 _ _ _ _
      | exact ih1 _ _ _ _ _
      | exact LeO.none _
      | refine LeO.ite ?_ ?_
      | refine LeO.bind ?_ (fun _ => ?_)
theorem spiritlevellaw02_has.mono : ∀ a0 a1 k, LeO (spiritlevellaw02_has.f k a0 a1) (spiritlevellaw02_has.f (k + 1) a0 a1) := by
  intro a0 a1 k
  obtain ⟨ih0, ih1⟩ := spiritlevellaw02_has.mono_l k
  unfold spiritlevellaw02_has.f
  repeat' first
      | (with_reducible exact ih0 _ _ _ _)
      | (with_reducible exact ih1 _ _ _ _ _)
      | (with_reducible exact LeO.refl _)
      | (with_reducible exact LeO.none _)
      | (with_reducible refine LeO.ite ?_ ?_)
      | (with_reducible refine LeO.bind ?_ (fun _ => ?_))
      | exact ih0 _ _ _ _
      | exact ih1 _ _ _ _ _
      | exact LeO.none _
      | refine LeO.ite ?_ ?_
      | refine LeO.bind ?_ (fun _ => ?_)
set_option maxHeartbeats 8000000 in
set_option maxRecDepth 100000 in
theorem spiritlevellaw02_has.calls (k : Nat) (A0 : Option Addr) (c0 : Nat) (l0 : List Int) (A1 : Option Addr) (c1 : Nat) (l1 : List Int) (r : Bool) (w : World) (hr0 : Kd.C (Kd.int .i64) w A0 l0.length l0) (hc0 : l0.length ≤ c0) (hr1 : Kd.C (Kd.int .i64) w A1 l1.length l1) (hc1 : l1.length ≤ c1) (h : spiritlevellaw02_has.f k l0 l1 = some r) :
    Calls Try.prog 26 #[.slice A0 l0.length c0, .slice A1 l1.length c1] w fun e w' => e = .returned (.bool r) ∧ Drawn0 w w' := by
  have HR0 := Aside0.mk hr0
  have HC0 := Aside0.mk hc0
  clear hr0 hc0
  have HR1 := Aside0.mk hr1
  have HC1 := Aside0.mk hc1
  clear hr1 hc1
  have H : (spiritlevellaw02_has.l0 k l0 l1 0 0) = some r := h
  clear h
  have H' := Aside0.mk H
  clear H
  go_enter Try.func26, Try.ntmps26
  go_wp2
  repeat (go_quiet (fail); try go_wp2)
  go_loopg [5, 6] k (fun kq v5 v6 w' => ∃ (x5_1 : Int) (x6_1 : Int), v5 = .int .i64 x5_1 ∧ v6 = .int .i64 x6_1 ∧ Aside0 (spiritlevellaw02_has.l0 kq l0 l1 x5_1 x6_1 = some r) ∧ Aside0 (kq ≤ k) ∧ Drawn0 w w')
  case atStart => exact ⟨(0), (0), (by first | rfl | (simp; done) | (simp [*]; done)), (by first | rfl | (simp; done) | (simp [*]; done)), H', ⟨Nat.le_refl _⟩, by repeat (first | exact Drawn0.refl _ | apply Drawn0.step)⟩
  case round =>
    clear H'
    try clear c1
    try clear c2
    try clear p2
    obtain ⟨x5_1, x6_1, rfl, rfl, HA, HK1, ⟨m1, rfl⟩⟩ := hrel
    cases gk with
    | zero => exact absurd HA.out (by simp [spiritlevellaw02_has.l0])
    | succ k1 =>
      have H := HA.out
      clear HA
      simp only [spiritlevellaw02_has.l0] at H
      have HC3 := Aside0.mk H
      clear H
      go_upto_region 3 with (fail)
      repeat (go_quiet (fail); go_upto_region 3 with (fail))
      go_cut [16] (fun v16 wc => ∃ (kq : Nat) (x16_2 : Bool), v16 = .bool x16_2 ∧ Aside0 (spiritlevellaw02_has.j1 kq l0 l1 x5_1 x6_1 x16_2 = some r) ∧ Aside0 (kq ≤ k1) ∧ Drawn0 w wc)
      case first =>
        have H := HC3.out
        clear HC3
        by_cases c4 : x6_1 < (l0.length : Int)
        · rw [if_pos c4] at H
          have c4b0 : decide (x6_1 < (l0.length : Int)) = true := decide_eq_true c4
          clear c4
          (first | rw [c4b0] | (simp only [i64_w, i32_w]; rw [c4b0]) | skip)
          have H' := Aside0.mk H
          clear H
          go_wp2
          repeat (go_quiet (fail); try go_wp2)
          go_meet
          case rel => exact ⟨_, (decide (x5_1 < (l1.length : Int))), (by first | rfl | (simp; done) | (simp [*]; done)), H', ⟨by have := HK1.out; first | omega | exact Nat.le_refl _⟩, by repeat (first | exact Drawn0.refl _ | apply Drawn0.step)⟩
        · rw [if_neg c4] at H
          have c4b0 : decide (x6_1 < (l0.length : Int)) = false := decide_eq_false c4
          clear c4
          (first | rw [c4b0] | (simp only [i64_w, i32_w]; rw [c4b0]) | skip)
          have H' := Aside0.mk H
          clear H
          go_wp2
          repeat (go_quiet (fail); try go_wp2)
          go_meet
          case rel => exact ⟨_, (false), (by first | rfl | (simp; done) | (simp [*]; done)), H', ⟨by have := HK1.out; first | omega | exact Nat.le_refl _⟩, by repeat (first | exact Drawn0.refl _ | apply Drawn0.step)⟩
      case rest =>
        clear HC3
        try clear c1
        try clear c2
        try clear p2
        try clear c4
        try clear c4b0
        try clear p2
        obtain ⟨kq, x16_2, rfl, HA, HJ2, ⟨mc2, rfl⟩⟩ := hcut
        cases kq with
        | zero => exact absurd HA.out (by simp [spiritlevellaw02_has.j1])
        | succ kj2 =>
          have H := HA.out
          clear HA
          simp only [spiritlevellaw02_has.j1] at H
          by_cases c5 : x16_2 = true
          · subst c5
            have H1 : (if 0 ≤ x6_1 then (if x6_1 < (l0.length : Int) then (if 0 ≤ x5_1 then (if x5_1 < (l1.length : Int) then (if (rd l0 x6_1) = (rd l1 x5_1) then (spiritlevellaw02_has.l0 kj2 l0 l1 (wrap64 (x5_1 + 1)) (wrap64 (x6_1 + 1))) else (spiritlevellaw02_has.l0 kj2 l0 l1 x5_1 (wrap64 (x6_1 + 1)))) else (none)) else (none)) else (none)) else (none)) = some r := by rw [if_pos rfl] at H; exact H
            clear H
            have H := H1
            clear H1
            by_cases c6 : 0 ≤ x6_1
            · rw [if_pos c6] at H
              have c6b0 : decide (0 ≤ x6_1) = true := decide_eq_true c6
              clear c6
              by_cases c7 : x6_1 < (l0.length : Int)
              · rw [if_pos c7] at H
                have c7b0 : decide (x6_1 < (l0.length : Int)) = true := decide_eq_true c7
                clear c7
                by_cases c8 : 0 ≤ x5_1
                · rw [if_pos c8] at H
                  have c8b0 : decide (0 ≤ x5_1) = true := decide_eq_true c8
                  clear c8
                  by_cases c9 : x5_1 < (l1.length : Int)
                  · rw [if_pos c9] at H
                    have c9b0 : decide (x5_1 < (l1.length : Int)) = true := decide_eq_true c9
                    clear c9
                    by_cases c10 : (rd l0 x6_1) = (rd l1 x5_1)
                    · rw [if_pos c10] at H
                      have c10b0 : ((rd l0 x6_1) == (rd l1 x5_1)) = true := beq_iff_eq.mpr c10
                      have c10b1 : ((rd l0 x6_1) != (rd l1 x5_1)) = false := bne_eq_false_iff_eq.mpr c10
                      clear c10
                      have H' := Aside0.mk H
                      clear H
                      have p231 : 0 ≤ (x6_1 : Int) := of_decide_eq_true (by first | (with_reducible assumption) | assumption)
                      have q231 : x6_1 < (l0.length : Int) := of_decide_eq_true (by first | (with_reducible assumption) | assumption)
                      obtain ⟨ad231, e231, hx231_0⟩ := Kd.at_int HR0.out x6_1 p231 q231
                      cases e231
                      replace p231 := eq_true p231
                      replace q231 := eq_true q231
                      have p232 : 0 ≤ (x5_1 : Int) := of_decide_eq_true (by first | (with_reducible assumption) | assumption)
                      have q232 : x5_1 < (l1.length : Int) := of_decide_eq_true (by first | (with_reducible assumption) | assumption)
                      obtain ⟨ad232, e232, hx232_0⟩ := Kd.at_int HR1.out x5_1 p232 q232
                      cases e232
                      replace p232 := eq_true p232
                      replace q232 := eq_true q232
                      go_wp2
                      repeat (go_quiet (fail); try go_wp2)
                      go_roundg kj2
                      case measure => have := HK1.out; have := HJ2.out; omega
                      case rel => exact ⟨(wrap64 (x5_1 + 1)), (wrap64 (x6_1 + 1)), (by first | rfl | (simp; done) | (simp [*]; done)), (by first | rfl | (simp; done) | (simp [*]; done)), H', ⟨by have := HK1.out; have := HJ2.out; omega⟩, by repeat (first | exact Drawn0.refl _ | apply Drawn0.step)⟩
                    · rw [if_neg c10] at H
                      have c10b0 : ((rd l0 x6_1) == (rd l1 x5_1)) = false := beq_eq_false_iff_ne.mpr c10
                      have c10b1 : ((rd l0 x6_1) != (rd l1 x5_1)) = true := bne_iff_ne.mpr c10
                      have H' := Aside0.mk H
                      clear H
                      have p231 : 0 ≤ (x6_1 : Int) := of_decide_eq_true (by first | (with_reducible assumption) | assumption)
                      have q231 : x6_1 < (l0.length : Int) := of_decide_eq_true (by first | (with_reducible assumption) | assumption)
                      obtain ⟨ad231, e231, hx231_0⟩ := Kd.at_int HR0.out x6_1 p231 q231
                      cases e231
                      replace p231 := eq_true p231
                      replace q231 := eq_true q231
                      have p232 : 0 ≤ (x5_1 : Int) := of_decide_eq_true (by first | (with_reducible assumption) | assumption)
                      have q232 : x5_1 < (l1.length : Int) := of_decide_eq_true (by first | (with_reducible assumption) | assumption)
                      obtain ⟨ad232, e232, hx232_0⟩ := Kd.at_int HR1.out x5_1 p232 q232
                      cases e232
                      replace p232 := eq_true p232
                      replace q232 := eq_true q232
                      go_wp2
                      repeat (go_quiet (fail); try go_wp2)
                      go_roundg kj2
                      case measure => have := HK1.out; have := HJ2.out; omega
                      case rel => exact ⟨(x5_1), (wrap64 (x6_1 + 1)), (by first | rfl | (simp; done) | (simp [*]; done)), (by first | rfl | (simp; done) | (simp [*]; done)), H', ⟨by have := HK1.out; have := HJ2.out; omega⟩, by repeat (first | exact Drawn0.refl _ | apply Drawn0.step)⟩
                  · rw [if_neg c9] at H
                    exact absurd H (by simp)
                · rw [if_neg c8] at H
                  exact absurd H (by simp)
              · rw [if_neg c7] at H
                exact absurd H (by simp)
            · rw [if_neg c6] at H
              exact absurd H (by simp)
          · replace c5 := Bool.eq_false_iff.mpr c5
            subst c5
            have H1 : (some (x5_1 == (l1.length : Int))) = some r := by rw [if_neg (show ¬ (false = true) by decide)] at H; exact H
            clear H
            have H := H1
            clear H1
            obtain rfl := Option.some.inj H
            go_wp2
            repeat (go_quiet (fail); try go_wp2)
            go_ret
            exact ⟨by first | rfl | (simp; done) | (simp [*]; done), by repeat (first | exact Drawn0.refl _ | apply Drawn0.step)⟩

end Go.Proofs.Ytnllcdihmpdhhaa.QGatesDepth
