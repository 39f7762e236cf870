/- The walk of ValuesGates: what the law function does, step by step, given what the functions that it calls return. -/
import Derived.Test.YtfppehhhgbkhcaaQValuesGatesx0
import Derived.Test.YtfppehhhgbkhcaaQValuesGatesx1
import Derived.Test.YtfppehhhgbkhcaaQValuesGatesx2
import Derived.Test.YtfppehhhgbkhcaaQValuesGatesx3
import Derived.Test.YtfppehhhgbkhcaaQValuesGatesx4
import Derived.Test.YtfppehhhgbkhcaaQValuesGatesx5
import Derived.Deep.CutBlock
import Derived.Deep.RegionLaw
namespace Go.Proofs.Ytfppehhhgbkhcaa.QValuesGatesW
open Go.RowKit Go.Proofs.YtfppehhhgbkhcaaW.PrintWords Go.Proofs.YtfppehhhgbkhcaaW.PrintLast Go.Proofs.YtfppehhhgbkhcaaW.PrintMore Go.Proofs.Ytfppehhhgbkhcaa.QValuesGates
attribute [local go_sem] max2_int min2_int max_two min_two max_three min_three max_four min_four
set_option linter.unusedVariables false
set_option linter.unusedSimpArgs false
/-- PrintLast: the operations of the list L, in its order, are taken first. -/
theorem tk_ (L : List Nat) {P : Program} {ops : Array Oper} {Q : Exit → Act → World → Prop} {S : World → Prop} {ds : List Nat} {oi : Oper} {v : Value} {fuel : Nat} {l : Array Bool} {a : Act} {w : World} (hi : ops[L.getD (ops.size - (fuel + 1)) 0]? = some oi)
    (hc : (Region.noSelect ops && Region.free .any ops l (L.getD (ops.size - (fuel + 1)) 0) && (Region.ready .any ops l).contains (L.getD (ops.size - (fuel + 1)) 0) && Region.closedB .any ops l && Region.lastB .any ops l ds (L.getD (ops.size - (fuel + 1)) 0)) = true)
    (hQ : ∀ c a w, Q (.panic c) (a.put oi.dst v) w → Q (.panic c) a w) (hy : YieldsIf P ops S oi v a) (hS : S w)
    (h : wpAnyLast P .any ops Q S ds fuel (l.setIfInBounds (L.getD (ops.size - (fuel + 1)) 0) true) (a.put oi.dst v) w) : wpAnyLast P .any ops Q S ds (fuel + 1) l a w := by
  simp only [Bool.and_eq_true] at hc
  exact wpAnyLast_take hi hc.1.1.1.1 hc.1.1.1.2 hc.1.1.2 hc.1.2 hc.2 hQ hy hS h
theorem os_ (i : Nat) {P : Program} {ops : Array Oper} {Q : Exit → Act → World → Prop} {S : World → Prop} {ds : List Nat} {o : Oper} {fuel : Nat} {l : Array Bool} {a : Act} {w : World} (hi : ops[i]? = some o)
    (hc : ((Region.ready .any ops l == [i]) && !ds.contains i) = true)
    (h : ∀ K : Act → World → Prop, Shut (∀ a w, S w → (S w → wpAnyLast P .any ops Q S ds fuel (l.setIfInBounds i true) a w) → K a w) → if Region.wanted o (yielded ops a.tmps) = true then Oper.wp P o a w K Q else K (a.put o.dst undef) w) : wpAnyLast P .any ops Q S ds (fuel + 1) l a w := by
  simp at hc
  exact wpAnyLast_ready hc.1 (by simp) (AllReadyL.cons hi hc.2 h AllReadyL.nil)
theorem ol_ (i : Nat) {P : Program} {ops : Array Oper} {Q : Exit → Act → World → Prop} {S : World → Prop} {ds : List Nat} {o : Oper} {fuel : Nat} {l : Array Bool} {a : Act} {w : World} (hi : ops[i]? = some o)
    (hc : ((Region.ready .any ops l == [i]) && ds.contains i) = true)
    (h : ∀ K : Act → World → Prop, Shut (∀ a w, wpAnyLast P .any ops Q S ds fuel (l.setIfInBounds i true) a w → K a w) → if Region.wanted o (yielded ops a.tmps) = true then Oper.wp P o a w K Q else K (a.put o.dst undef) w) : wpAnyLast P .any ops Q S ds (fuel + 1) l a w := by
  simp at hc
  exact wpAnyLast_ready hc.1 (by simp) (AllReadyL.cons_last hi hc.2 h AllReadyL.nil)
/-- What stays so all along: the circuit's box, its rows, the state and the inputs. -/
structure VB (W : World) (gc : Nat) (a : Int) (A1 : Option Addr) (c1 : Nat) (L : List S52) (A2 : Option Addr) (c2 : Nat) (G : List S33) (A3 : Option Addr) (c3 : Nat) (B : List Int) (A4 : Option Addr) (c4 : Nat) (D : List Int) (A5 : Option Addr) (c5 : Nat) (st : List Bool) (A6 : Option Addr) (c6 : Nat) (inp : List Bool) : Prop where
  box : W.heap[gc]? = some (.cells #[.int .i64 a, .slice A1 L.length c1, .slice A2 G.length c2, .slice A3 B.length c3, .slice A4 D.length c4] 26 (0, 0))
  h1 : Kd.C k52 W A1 L.length L
  l1 : L.length ≤ c1
  h2 : Kd.C k33 W A2 G.length G
  l2 : G.length ≤ c2
  h3 : Kd.C (Kd.int .i64) W A3 B.length B
  l3 : B.length ≤ c3
  h4 : Kd.C (Kd.int .i64) W A4 D.length D
  l4 : D.length ≤ c4
  h5 : Kd.C Kd.bool W A5 st.length st
  l5 : st.length ≤ c5
  h6 : Kd.C Kd.bool W A6 inp.length inp
  l6 : inp.length ≤ c6
theorem VB.below {W W' : World} {gc : Nat} {a : Int} {A1 : Option Addr} {c1 : Nat} {L : List S52} {A2 : Option Addr} {c2 : Nat} {G : List S33} {A3 : Option Addr} {c3 : Nat} {B : List Int} {A4 : Option Addr} {c4 : Nat} {D : List Int} {A5 : Option Addr} {c5 : Nat} {st : List Bool} {A6 : Option Addr} {c6 : Nat} {inp : List Bool} (h : VB W gc a A1 c1 L A2 c2 G A3 c3 B A4 c4 D A5 c5 st A6 c6 inp) (hb : Below W.heap.size W W') : VB W' gc a A1 c1 L A2 c2 G A3 c3 B A4 c4 D A5 c5 st A6 c6 inp :=
  ⟨blk_below h.box hb, Kd.C_below h.h1 hb, h.l1, Kd.C_below h.h2 hb, h.l2, Kd.C_below h.h3 hb, h.l3, Kd.C_below h.h4 hb, h.l4, Kd.C_below h.h5 hb, h.l5, Kd.C_below h.h6 hb, h.l6⟩
/-- What the called functions say of a circuit that fits. -/
structure VF (k : Nat) (a : Int) (L : List S52) (G : List S33) (B D : List Int) (st inp F : List Bool) (n : Nat) (r : Bool) (V : Int → Bool) : Prop where
  all : values_All.f a L G B D st inp = some (F, 0)
  next : values_Next.f a L G B D st inp = some (L.map (fun x => V x.f0), 0)
  props : values_Props.f a L G B D st inp = some (r, B.map V, 0)
  vars : gates_Vars.f a L G B D = some ((n : Int), 0)
  n1 : n ≤ 1000
  len : F.length = n + 1
  sl : L.length = st.length
  small : st.length ≤ 1000 ∧ B.length ≤ 1000 ∧ D.length ≤ 1000
  f0 : rdOf false F 0 = false
  kind : ∀ v : Nat, 1 ≤ v → v ≤ n → (∃ i : Nat, i < inp.length ∧ gates_Kind.f a L G B D (v : Int) = some (1, (i : Int), 0) ∧ rdOf false F (v : Int) = rdOf false inp (i : Int)) ∨ (∃ i : Nat, i < st.length ∧ gates_Kind.f a L G B D (v : Int) = some (2, (i : Int), 0) ∧ rdOf false F (v : Int) = rdOf false st (i : Int)) ∨ (∃ i : Nat, i < G.length ∧ gates_Kind.f a L G B D (v : Int) = some (3, (i : Int), 0) ∧ spiritlevellaw04_is.f F (rd_T33 G (i : Int)).f0 = some (V (rd_T33 G (i : Int)).f0) ∧ spiritlevellaw04_is.f F (rd_T33 G (i : Int)).f1 = some (V (rd_T33 G (i : Int)).f1) ∧ rdOf false F (v : Int) = (V (rd_T33 G (i : Int)).f0 && V (rd_T33 G (i : Int)).f1))
  latch : ∀ i : Nat, i < L.length → spiritlevellaw04_is.f F (rd_T52 L (i : Int)).f0 = some (V (rd_T52 L (i : Int)).f0)
  bad : ∀ i : Nat, i < B.length → spiritlevellaw04_is.f F (rd B (i : Int)) = some (V (rd B (i : Int)))
  con : ∀ i : Nat, i < D.length → r = true → spiritlevellaw04_is.f F (rd D (i : Int)) = some true
set_option maxHeartbeats 40000000 in
set_option maxRecDepth 100000 in
theorem gates_walk (k : Nat) (a : Int) (A1 : Option Addr) (c1 : Nat) (L : List S52) (A2 : Option Addr) (c2 : Nat) (G : List S33) (A3 : Option Addr) (c3 : Nat) (B : List Int) (A4 : Option Addr) (c4 : Nat) (D : List Int) (A5 : Option Addr) (c5 : Nat) (st : List Bool) (A6 : Option Addr) (c6 : Nat) (inp : List Bool) (b : Bool) (F : List Bool) (n : Nat) (r : Bool) (V : Int → Bool) (w : World) (h1 : Kd.C k52 w A1 L.length L) (l1 : L.length ≤ c1) (h2 : Kd.C k33 w A2 G.length G) (l2 : G.length ≤ c2) (h3 : Kd.C (Kd.int .i64) w A3 B.length B) (l3 : B.length ≤ c3) (h4 : Kd.C (Kd.int .i64) w A4 D.length D) (l4 : D.length ≤ c4) (h5 : Kd.C Kd.bool w A5 st.length st) (l5 : st.length ≤ c5) (h6 : Kd.C Kd.bool w A6 inp.length inp) (l6 : inp.length ≤ c6)
    (hal : spiritlevellaw04_alive.f k = some true) (hfit : spiritlevellaw04_fit.f k a L G B D st inp = some b) (hf : b = true → VF k a L G B D st inp F n r V) :
    Calls Try.prog 7 #[.agg #[.int .i64 a, .slice A1 L.length c1, .slice A2 G.length c2, .slice A3 B.length c3, .slice A4 D.length c4], .slice A5 st.length c5, .slice A6 inp.length c6] w fun e w' => e = .returned (.bool true) ∧ Below w.heap.size w w' := by
  have AL := Aside0.mk hal
  have FI := Aside0.mk hfit
  have hX : VB (w.alloc (.cells #[.int .i64 a, .slice A1 L.length c1, .slice A2 G.length c2, .slice A3 B.length c3, .slice A4 D.length c4] 26)) w.heap.size a A1 c1 L A2 c2 G A3 c3 B A4 c4 D A5 c5 st A6 c6 inp := ⟨heap_alloc_new w _, Kd.C_alloc h1 _, l1, Kd.C_alloc h2 _, l2, Kd.C_alloc h3 _, l3, Kd.C_alloc h4 _, l4, Kd.C_alloc h5 _, l5, Kd.C_alloc h6 _, l6⟩
  have hB := below_alloc (Below.refl w.heap.size w) (.cells #[.int .i64 a, .slice A1 L.length c1, .slice A2 G.length c2, .slice A3 B.length c3, .slice A4 D.length c4] 26)
  clear h1 l1 h2 l2 h3 l3 h4 l4 h5 l5 h6 l6 hal hfit
  have hu26 := Try.underlying26
  go_enter Try.func7, Try.ntmps7
  go_upto_region 1 with fail
  generalize w.alloc (.cells #[.int .i64 a, .slice A1 L.length c1, .slice A2 G.length c2, .slice A3 B.length c3, .slice A4 D.length c4] 26) = wb at hX hB ⊢
  have HX := Aside0.mk hX
  have HB := Aside0.mk hB
  clear hX hB

  cases b with
  | false =>
    have y0 := (blk_cell HX.out.box 0).trans (show _ = some (.int .i64 a) from rfl)
    have y1 := (blk_cell HX.out.box 1).trans (show _ = some (.slice A1 L.length c1) from rfl)
    have y2 := (blk_cell HX.out.box 2).trans (show _ = some (.slice A2 G.length c2) from rfl)
    have y3 := (blk_cell HX.out.box 3).trans (show _ = some (.slice A3 B.length c3) from rfl)
    have y4 := (blk_cell HX.out.box 4).trans (show _ = some (.slice A4 D.length c4) from rfl)
    clear hf
    go_wp2_with (first
      | ((with_reducible refine gate_callee (f := 9) rfl ?_); refine goesL_ (some 26) rfl rfl Try.func9 (by kernel_rfl) rfl #[.agg #[.int .i64 a, .slice A1 L.length c1, .slice A2 G.length c2, .slice A3 B.length c3, .slice A4 D.length c4], .slice A5 st.length c5, .slice A6 inp.length c6] rfl (by (try simp only [List.map_toArray, List.map_cons, List.map_nil]); first | done | rfl) ?_; (with_reducible refine (spiritlevellaw04_fit.calls k a _ _ L _ _ G _ _ B _ _ D _ _ st _ _ inp false _ ?s0 ?s1 ?s2 ?s3 ?s4 ?s5 ?s6 ?s7 ?s8 ?s9 ?s10 ?s11 FI.out).mono ?_); (case s0 => exact HX.out.h1); (case s1 => exact HX.out.l1); (case s2 => exact HX.out.h2); (case s3 => exact HX.out.l2); (case s4 => exact HX.out.h3); (case s5 => exact HX.out.l3); (case s6 => exact HX.out.h4); (case s7 => exact HX.out.l4); (case s8 => exact HX.out.h5); (case s9 => exact HX.out.l5); (case s10 => exact HX.out.h6); (case s11 => exact HX.out.l6); rintro e w5 ⟨rfl, hb⟩; refine ⟨_, rfl, ?_⟩; have N_ := Aside0.mk (HX.out.below hb); clear HX; have HX := N_; clear N_; have N_ := Aside0.mk (below_step HB.out hb); clear HB; have HB := N_; clear N_; clear hb)
      | (go_at_call 11; (with_reducible refine (spiritlevellaw04_alive.calls k true _ AL.out).mono ?_); rintro e w6 ⟨rfl, hb⟩; have N_ := Aside0.mk (below_step HB.out hb); clear HB; have HB := N_; clear N_; clear hb))
    go_ret
    exact ⟨rfl, HB.out⟩
  | true =>
  have HF := Aside0.mk (hf rfl)
  clear hf
  obtain ⟨S, ES⟩ : ∃ x, Aside0 (x = L.map (fun x => V x.f0)) := ⟨_, ⟨rfl⟩⟩
  obtain ⟨Bv, EB⟩ : ∃ x, Aside0 (x = B.map V) := ⟨_, ⟨rfl⟩⟩
  have HN := Aside0.mk HF.out.next
  have HP := Aside0.mk HF.out.props
  have h1 := HN.out
  have h2 := HP.out
  rw [← ES.out] at h1
  rw [← EB.out] at h2
  clear HN HP
  have HN := Aside0.mk h1
  have HP := Aside0.mk h2
  clear h1 h2
  have y0 := (blk_cell HX.out.box 0).trans (show _ = some (.int .i64 a) from rfl)
  have y1 := (blk_cell HX.out.box 1).trans (show _ = some (.slice A1 L.length c1) from rfl)
  have y2 := (blk_cell HX.out.box 2).trans (show _ = some (.slice A2 G.length c2) from rfl)
  have y3 := (blk_cell HX.out.box 3).trans (show _ = some (.slice A3 B.length c3) from rfl)
  have y4 := (blk_cell HX.out.box 4).trans (show _ = some (.slice A4 D.length c4) from rfl)
  go_upto_region 3 with ((with_reducible refine gate_callee (f := 9) rfl ?_); refine goesL_ (some 26) rfl rfl Try.func9 (by kernel_rfl) rfl #[.agg #[.int .i64 a, .slice A1 L.length c1, .slice A2 G.length c2, .slice A3 B.length c3, .slice A4 D.length c4], .slice A5 st.length c5, .slice A6 inp.length c6] rfl (by (try simp only [List.map_toArray, List.map_cons, List.map_nil]); first | done | rfl) ?_; (with_reducible refine (spiritlevellaw04_fit.calls k a _ _ L _ _ G _ _ B _ _ D _ _ st _ _ inp true _ ?s0 ?s1 ?s2 ?s3 ?s4 ?s5 ?s6 ?s7 ?s8 ?s9 ?s10 ?s11 FI.out).mono ?_); (case s0 => exact HX.out.h1); (case s1 => exact HX.out.l1); (case s2 => exact HX.out.h2); (case s3 => exact HX.out.l2); (case s4 => exact HX.out.h3); (case s5 => exact HX.out.l3); (case s6 => exact HX.out.h4); (case s7 => exact HX.out.l4); (case s8 => exact HX.out.h5); (case s9 => exact HX.out.l5); (case s10 => exact HX.out.h6); (case s11 => exact HX.out.l6); rintro e w5 ⟨rfl, hb⟩; refine ⟨_, rfl, ?_⟩; have N_ := Aside0.mk (HX.out.below hb); clear HX; have HX := N_; clear N_; have N_ := Aside0.mk (below_step HB.out hb); clear HB; have HB := N_; clear N_; clear hb)
  clear y0 y1 y2 y3 y4
  have y0 := (blk_cell HX.out.box 0).trans (show _ = some (.int .i64 a) from rfl)
  have y1 := (blk_cell HX.out.box 1).trans (show _ = some (.slice A1 L.length c1) from rfl)
  have y2 := (blk_cell HX.out.box 2).trans (show _ = some (.slice A2 G.length c2) from rfl)
  have y3 := (blk_cell HX.out.box 3).trans (show _ = some (.slice A3 B.length c3) from rfl)
  have y4 := (blk_cell HX.out.box 4).trans (show _ = some (.slice A4 D.length c4) from rfl)
  go_upto_region 4 with ((with_reducible refine gate_callee (f := 13) rfl ?_); refine goesL_ (some 33) rfl rfl Try.func13 (by kernel_rfl) rfl #[.agg #[.int .i64 a, .slice A1 L.length c1, .slice A2 G.length c2, .slice A3 B.length c3, .slice A4 D.length c4], .slice A5 st.length c5, .slice A6 inp.length c6] rfl (by (try simp only [List.map_toArray, List.map_cons, List.map_nil]); first | done | rfl) ?_; (with_reducible refine (values_All.calls a _ _ L _ _ G _ _ B _ _ D _ _ st _ _ inp F 0 _ ?s0 ?s1 ?s2 ?s3 ?s4 ?s5 ?s6 ?s7 ?s8 ?s9 ?s10 ?s11 HF.out.all).mono ?_); (case s0 => exact HX.out.h1); (case s1 => exact HX.out.l1); (case s2 => exact HX.out.h2); (case s3 => exact HX.out.l2); (case s4 => exact HX.out.h3); (case s5 => exact HX.out.l3); (case s6 => exact HX.out.h4); (case s7 => exact HX.out.l4); (case s8 => exact HX.out.h5); (case s9 => exact HX.out.l5); (case s10 => exact HX.out.h6); (case s11 => exact HX.out.l6); rintro e w5 ⟨v, rfl, ho, hb⟩; refine ⟨_, rfl, ?_⟩; have N_ := Aside0.mk (HX.out.below hb); clear HX; have HX := N_; clear N_; have N_ := Aside0.mk (below_step HB.out hb); clear HB; have HB := N_; clear N_; obtain ⟨AF, cF, rfl⟩ := Kd.R_slice ho; have LF := Aside0.mk (Kd.R_reads' ho).2.2; have MF := Aside0.mk (Kd.R_reads' ho).2.1; clear ho hb)
  clear y0 y1 y2 y3 y4
  have y0 := (blk_cell HX.out.box 0).trans (show _ = some (.int .i64 a) from rfl)
  have y1 := (blk_cell HX.out.box 1).trans (show _ = some (.slice A1 L.length c1) from rfl)
  have y2 := (blk_cell HX.out.box 2).trans (show _ = some (.slice A2 G.length c2) from rfl)
  have y3 := (blk_cell HX.out.box 3).trans (show _ = some (.slice A3 B.length c3) from rfl)
  have y4 := (blk_cell HX.out.box 4).trans (show _ = some (.slice A4 D.length c4) from rfl)
  go_upto_region 5 with ((with_reducible refine gate_callee (f := 18) rfl ?_); refine goesL_ (some 40) rfl rfl Try.func18 (by kernel_rfl) rfl #[.agg #[.int .i64 a, .slice A1 L.length c1, .slice A2 G.length c2, .slice A3 B.length c3, .slice A4 D.length c4], .slice A5 st.length c5, .slice A6 inp.length c6] rfl (by (try simp only [List.map_toArray, List.map_cons, List.map_nil]); first | done | rfl) ?_; (with_reducible refine (values_Next.calls a _ _ L _ _ G _ _ B _ _ D _ _ st _ _ inp S 0 _ ?s0 ?s1 ?s2 ?s3 ?s4 ?s5 ?s6 ?s7 ?s8 ?s9 ?s10 ?s11 HN.out).mono ?_); (case s0 => exact HX.out.h1); (case s1 => exact HX.out.l1); (case s2 => exact HX.out.h2); (case s3 => exact HX.out.l2); (case s4 => exact HX.out.h3); (case s5 => exact HX.out.l3); (case s6 => exact HX.out.h4); (case s7 => exact HX.out.l4); (case s8 => exact HX.out.h5); (case s9 => exact HX.out.l5); (case s10 => exact HX.out.h6); (case s11 => exact HX.out.l6); rintro e w5 ⟨v, rfl, ho, hb⟩; refine ⟨_, rfl, ?_⟩; have N_ := Aside0.mk (HX.out.below hb); clear HX; have HX := N_; clear N_; have N_ := Aside0.mk (below_step HB.out hb); clear HB; have HB := N_; clear N_; have N_ := Aside0.mk (Kd.C_below LF.out hb); clear LF; have LF := N_; clear N_; obtain ⟨AS, cS, rfl⟩ := Kd.R_slice ho; have LS := Aside0.mk (Kd.R_reads' ho).2.2; have MS := Aside0.mk (Kd.R_reads' ho).2.1; clear ho hb)
  clear y0 y1 y2 y3 y4
  have y0 := (blk_cell HX.out.box 0).trans (show _ = some (.int .i64 a) from rfl)
  have y1 := (blk_cell HX.out.box 1).trans (show _ = some (.slice A1 L.length c1) from rfl)
  have y2 := (blk_cell HX.out.box 2).trans (show _ = some (.slice A2 G.length c2) from rfl)
  have y3 := (blk_cell HX.out.box 3).trans (show _ = some (.slice A3 B.length c3) from rfl)
  have y4 := (blk_cell HX.out.box 4).trans (show _ = some (.slice A4 D.length c4) from rfl)
  go_upto_region 6 with ((with_reducible refine gate_callee (f := 20) rfl ?_); refine goesL_ (some 47) rfl rfl Try.func20 (by kernel_rfl) rfl #[.agg #[.int .i64 a, .slice A1 L.length c1, .slice A2 G.length c2, .slice A3 B.length c3, .slice A4 D.length c4], .slice A5 st.length c5, .slice A6 inp.length c6] rfl (by (try simp only [List.map_toArray, List.map_cons, List.map_nil]); first | done | rfl) ?_; (with_reducible refine (values_Props.calls a _ _ L _ _ G _ _ B _ _ D _ _ st _ _ inp r Bv 0 _ ?s0 ?s1 ?s2 ?s3 ?s4 ?s5 ?s6 ?s7 ?s8 ?s9 ?s10 ?s11 HP.out).mono ?_); (case s0 => exact HX.out.h1); (case s1 => exact HX.out.l1); (case s2 => exact HX.out.h2); (case s3 => exact HX.out.l2); (case s4 => exact HX.out.h3); (case s5 => exact HX.out.l3); (case s6 => exact HX.out.h4); (case s7 => exact HX.out.l4); (case s8 => exact HX.out.h5); (case s9 => exact HX.out.l5); (case s10 => exact HX.out.h6); (case s11 => exact HX.out.l6); rintro e w5 ⟨v, rfl, ho, hb⟩; refine ⟨_, rfl, ?_⟩; have N_ := Aside0.mk (HX.out.below hb); clear HX; have HX := N_; clear N_; have N_ := Aside0.mk (below_step HB.out hb); clear HB; have HB := N_; clear N_; have N_ := Aside0.mk (Kd.C_below LF.out hb); clear LF; have LF := N_; clear N_; have N_ := Aside0.mk (Kd.C_below LS.out hb); clear LS; have LS := N_; clear N_; obtain ⟨AB, cB, rfl⟩ := Kd.R_slice ho; have LB := Aside0.mk (Kd.R_reads' ho).2.2; have MB := Aside0.mk (Kd.R_reads' ho).2.1; clear ho hb)
  clear y0 y1 y2 y3 y4
  have y0 := (blk_cell HX.out.box 0).trans (show _ = some (.int .i64 a) from rfl)
  have y1 := (blk_cell HX.out.box 1).trans (show _ = some (.slice A1 L.length c1) from rfl)
  have y2 := (blk_cell HX.out.box 2).trans (show _ = some (.slice A2 G.length c2) from rfl)
  have y3 := (blk_cell HX.out.box 3).trans (show _ = some (.slice A3 B.length c3) from rfl)
  have y4 := (blk_cell HX.out.box 4).trans (show _ = some (.slice A4 D.length c4) from rfl)
  go_upto_region 7 with ((with_reducible refine gate_callee (f := 25) rfl ?_); refine goesL_ (some 53) rfl rfl Try.func25 (by kernel_rfl) rfl #[.agg #[.int .i64 a, .slice A1 L.length c1, .slice A2 G.length c2, .slice A3 B.length c3, .slice A4 D.length c4]] rfl (by (try simp only [List.map_toArray, List.map_cons, List.map_nil]); first | done | rfl) ?_; (with_reducible refine (gates_Vars.calls a _ _ L _ _ G _ _ B _ _ D (n : Int) 0 _ ?s0 ?s1 ?s2 ?s3 ?s4 ?s5 ?s6 ?s7 HF.out.vars).mono ?_); (case s0 => exact HX.out.h1); (case s1 => exact HX.out.l1); (case s2 => exact HX.out.h2); (case s3 => exact HX.out.l2); (case s4 => exact HX.out.h3); (case s5 => exact HX.out.l3); (case s6 => exact HX.out.h4); (case s7 => exact HX.out.l4); rintro e w5 ⟨rfl, hb⟩; refine ⟨_, rfl, ?_⟩; have N_ := Aside0.mk (HX.out.below hb); clear HX; have HX := N_; clear N_; have N_ := Aside0.mk (below_step HB.out hb); clear HB; have HB := N_; clear N_; have N_ := Aside0.mk (Kd.C_below LF.out hb); clear LF; have LF := N_; clear N_; have N_ := Aside0.mk (Kd.C_below LS.out hb); clear LS; have LS := N_; clear N_; have N_ := Aside0.mk (Kd.C_below LB.out hb); clear LB; have LB := N_; clear N_; clear hb)
  clear y0 y1 y2 y3 y4
  have e1 : F.length = n + 1 := HF.out.len
  have e2 : S.length = st.length := by rw [ES.out, List.length_map]; exact HF.out.sl
  have e3 : Bv.length = B.length := by rw [EB.out, List.length_map]
  have e4 : wrap64 ((n : Int) + 1) = (n : Int) + 1 := by have := HF.out.n1; unfold wrap64; omega
  have e5 : IntKind.i64.wrap ((n : Int) + 1) = (n : Int) + 1 := by have := HF.out.n1; rw [IntKind.wrap_i64]; omega
  have e6 : (F.length : Int) = (n : Int) + 1 := by omega
  have p0 : (0 : Int) < (F.length : Int) := by omega
  obtain ⟨af, rfl, z0⟩ := Kd.at_bool LF.out 0 (by decide) (by omega)
  rw [HF.out.f0] at z0
  have z1 := z0
  try simp [Addr.add] at z1
  have y0 := (blk_cell HX.out.box 0).trans (show _ = some (.int .i64 a) from rfl)
  have y1 := (blk_cell HX.out.box 1).trans (show _ = some (.slice A1 L.length c1) from rfl)
  have y2 := (blk_cell HX.out.box 2).trans (show _ = some (.slice A2 G.length c2) from rfl)
  have y3 := (blk_cell HX.out.box 3).trans (show _ = some (.slice A3 B.length c3) from rfl)
  have y4 := (blk_cell HX.out.box 4).trans (show _ = some (.slice A4 D.length c4) from rfl)
  go_upto_block 0 with fail
  have EE := Aside0.mk (And.intro e1 (And.intro e2 e3))
  clear z0 z1 p0 e1 e2 e3 e4 e5 e6 y0 y1 y2 y3 y4
  obtain ⟨wk, hwk⟩ : ∃ x, x = w5 := ⟨_, rfl⟩
  rw [← hwk] at HX HB LF LS LB ⊢
  clear hwk
  go_cut [] (fun wx => Aside0 (Below wk.heap.size wk wx))
  case first =>
    go_wp2
    go_loopg [16] (n + 1) (fun kq v16 w' => ∃ v : Nat, v16 = .int .i64 (v : Int) ∧ Aside0 (1 ≤ v ∧ v ≤ n + 1 ∧ kq + v = n + 2) ∧ Aside0 (Below wk.heap.size wk w'))
    case atStart => exact ⟨1, rfl, ⟨by omega, by omega, by omega⟩, ⟨Below.refl _ _⟩⟩
    case round =>
      obtain ⟨v, rfl, HI, HBI⟩ := hrel
      by_cases c : v ≤ n
      · have cb : decide ((v : Int) ≤ (n : Int)) = true := decide_eq_true (by omega)
        have cb2 : decide (v ≤ n) = true := decide_eq_true c
        have HC := Aside0.mk c
        have hw1 : wrap64 ((v : Int) + 1) = (v : Int) + 1 := by have := HF.out.n1; unfold wrap64; omega
        have hw2 : IntKind.i64.wrap ((v : Int) + 1) = (v : Int) + 1 := by have := HF.out.n1; rw [IntKind.wrap_i64]; omega
        have hk := HF.out.kind v HI.out.1 c
        clear c
        have q0 : (0 : Int) ≤ (v : Int) := by omega
        have q1 : (v : Int) < (F.length : Int) := by have := HC.out; have := EE.out.1; omega
        obtain ⟨ad, e, x1⟩ := Kd.at_bool LF.out (v : Int) (by omega) q1
        obtain rfl := Option.some.inj e
        rw [Int.toNat_natCast] at x1
        have X1 := Aside0.mk x1
        clear e x1
        have HXI := Aside0.mk (HX.out.below HBI.out)
        have y0 := (blk_cell HXI.out.box 0).trans (show _ = some (.int .i64 a) from rfl)
        have y1 := (blk_cell HXI.out.box 1).trans (show _ = some (.slice A1 L.length c1) from rfl)
        have y2 := (blk_cell HXI.out.box 2).trans (show _ = some (.slice A2 G.length c2) from rfl)
        have y3 := (blk_cell HXI.out.box 3).trans (show _ = some (.slice A3 B.length c3) from rfl)
        have y4 := (blk_cell HXI.out.box 4).trans (show _ = some (.slice A4 D.length c4) from rfl)
        rcases hk with ⟨i, hi, hk, he⟩ | ⟨i, hi, hk, he⟩ | ⟨i, hi, hk, ha, hb, he⟩
        · as_aux_lemma =>
          have HK := Aside0.mk hk
          clear hk
          have r0 : (0 : Int) ≤ (i : Int) := by omega
          have d0 : decide ((i : Int) < 0) = false := decide_eq_false (by omega)
          go_upto_region 13 with ((with_reducible refine gate_callee (f := 26) rfl ?_); refine goesL_ (some 105) rfl rfl Try.func26 (by kernel_rfl) rfl #[.agg #[.int .i64 a, .slice A1 L.length c1, .slice A2 G.length c2, .slice A3 B.length c3, .slice A4 D.length c4], .int .i64 (v : Int)] rfl (by (try simp only [List.map_toArray, List.map_cons, List.map_nil]); first | done | rfl) ?_; (with_reducible refine (gates_Kind.calls a _ _ L _ _ G _ _ B _ _ D (v : Int) 1 (i : Int) 0 _ ?s0 ?s1 ?s2 ?s3 ?s4 ?s5 ?s6 ?s7 HK.out).mono ?_); (case s0 => exact HXI.out.h1); (case s1 => exact HXI.out.l1); (case s2 => exact HXI.out.h2); (case s3 => exact HXI.out.l2); (case s4 => exact HXI.out.h3); (case s5 => exact HXI.out.l3); (case s6 => exact HXI.out.h4); (case s7 => exact HXI.out.l4); rintro e w5 ⟨rfl, hb⟩; refine ⟨_, rfl, ?_⟩; have HB1 := Aside0.mk (below_step HBI.out hb); clear hb)
          clear y0 y1 y2 y3 y4
          have HB2 := Aside0.mk (below_step HB1.out (below_drew (Below.refl _ _)))
          have x1 := pw_cell_below HB2.out X1.out
          have r1 : (i : Int) < (inp.length : Int) := by omega
          have d1 : decide ((inp.length : Int) ≤ (i : Int)) = false := decide_eq_false (by omega)
          have d2 : decide (inp.length ≤ i) = false := decide_eq_false (by omega)
          obtain ⟨ag, hag, x2⟩ := Kd.at_bool HX.out.h6 (i : Int) r0 r1
          rw [Int.toNat_natCast] at x2
          subst hag
          have x2 := pw_cell_below HB2.out x2
          rw [he] at x1
          generalize rdOf false inp (i : Int) = X at x1 x2
          clear he hi
          refine wp_region_last_drew (S := fun w' => w'.cell? (af.add v) = some (.bool X) ∧ w'.cell? (ag.add i) = some (.bool X)) (ds := []) (by kernel_rfl) ⟨x1, x2⟩ (fun hH => ?_)
          iterate 31 (refine tk_ [0,1,2,3,4,5,6,7,8,9,10,11,12,13,14,15,16,17,18,19,20,21,22,23,24,25,26,27,28,29,30,31,32,33,34,35,36,37,38,39,40,41,42,43,44,45,46,47,48,49,50,51] (v := ?_) (by simp; rfl) (by kernel_rfl) (by exact fun _ _ _ h => h) (Or.inl ⟨by rfl, ?_⟩) hH ?_; rotate_left; (intro _ hS; (try dsimp only at hS); go_simp; (try with_reducible rfl)); simp only [Act.put, List.setIfInBounds_toArray, List.set_cons_zero, List.set_cons_succ])
          iterate 19 (refine tk_ [0,1,2,3,4,5,6,7,8,9,10,11,12,13,14,15,16,17,18,19,20,21,22,23,24,25,26,27,28,29,30,31,32,33,34,35,36,37,38,39,40,41,42,43,44,45,46,47,48,49,50,51] (v := undef) (by simp; rfl) (by kernel_rfl) (by exact fun _ _ _ h => h) (Or.inr ⟨by rfl, rfl⟩) hH ?_; simp only [Act.put, List.setIfInBounds_toArray, List.set_cons_zero, List.set_cons_succ])
          iterate 2 (refine tk_ [0,1,2,3,4,5,6,7,8,9,10,11,12,13,14,15,16,17,18,19,20,21,22,23,24,25,26,27,28,29,30,31,32,33,34,35,36,37,38,39,40,41,42,43,44,45,46,47,48,49,50,51] (v := ?_) (by simp; rfl) (by kernel_rfl) (by exact fun _ _ _ h => h) (Or.inl ⟨by rfl, ?_⟩) hH ?_; rotate_left; (intro _ hS; (try dsimp only at hS); go_simp; (try with_reducible rfl)); simp only [Act.put, List.setIfInBounds_toArray, List.set_cons_zero, List.set_cons_succ])
          refine wpAnyLast_done (by kernel_rfl) ?_ _
          clear hH x1 x2
          go_wp2
          go_roundg (gk - 1)
          case rel => exact ⟨v + 1, congrArg (Value.int .i64) (by first | exact hw1 | exact hw2 | omega), ⟨by omega, by have := HC.out; omega, by have := HI.out; have := HC.out; omega⟩, HB2⟩
          case measure => have := HI.out; have := HC.out; omega
        · as_aux_lemma =>
          have HK := Aside0.mk hk
          clear hk
          have r0 : (0 : Int) ≤ (i : Int) := by omega
          have d0 : decide ((i : Int) < 0) = false := decide_eq_false (by omega)
          go_upto_region 13 with ((with_reducible refine gate_callee (f := 26) rfl ?_); refine goesL_ (some 105) rfl rfl Try.func26 (by kernel_rfl) rfl #[.agg #[.int .i64 a, .slice A1 L.length c1, .slice A2 G.length c2, .slice A3 B.length c3, .slice A4 D.length c4], .int .i64 (v : Int)] rfl (by (try simp only [List.map_toArray, List.map_cons, List.map_nil]); first | done | rfl) ?_; (with_reducible refine (gates_Kind.calls a _ _ L _ _ G _ _ B _ _ D (v : Int) 2 (i : Int) 0 _ ?s0 ?s1 ?s2 ?s3 ?s4 ?s5 ?s6 ?s7 HK.out).mono ?_); (case s0 => exact HXI.out.h1); (case s1 => exact HXI.out.l1); (case s2 => exact HXI.out.h2); (case s3 => exact HXI.out.l2); (case s4 => exact HXI.out.h3); (case s5 => exact HXI.out.l3); (case s6 => exact HXI.out.h4); (case s7 => exact HXI.out.l4); rintro e w5 ⟨rfl, hb⟩; refine ⟨_, rfl, ?_⟩; have HB1 := Aside0.mk (below_step HBI.out hb); clear hb)
          clear y0 y1 y2 y3 y4
          have HB2 := Aside0.mk (below_step HB1.out (below_drew (Below.refl _ _)))
          have x1 := pw_cell_below HB2.out X1.out
          have r1 : (i : Int) < (st.length : Int) := by omega
          have d1 : decide ((st.length : Int) ≤ (i : Int)) = false := decide_eq_false (by omega)
          have d2 : decide (st.length ≤ i) = false := decide_eq_false (by omega)
          obtain ⟨ag, hag, x2⟩ := Kd.at_bool HX.out.h5 (i : Int) r0 r1
          rw [Int.toNat_natCast] at x2
          subst hag
          have x2 := pw_cell_below HB2.out x2
          rw [he] at x1
          generalize rdOf false st (i : Int) = X at x1 x2
          clear he hi
          refine wp_region_last_drew (S := fun w' => w'.cell? (af.add v) = some (.bool X) ∧ w'.cell? (ag.add i) = some (.bool X)) (ds := []) (by kernel_rfl) ⟨x1, x2⟩ (fun hH => ?_)
          iterate 6 (refine tk_ [0,1,2,3,4,5,6,7,8,9,10,11,12,13,14,15,16,17,18,19,20,21,22,23,24,25,26,27,28,29,30,31,32,33,34,35,36,37,38,39,40,41,42,43,44,45,46,47,48,49,50,51] (v := ?_) (by simp; rfl) (by kernel_rfl) (by exact fun _ _ _ h => h) (Or.inl ⟨by rfl, ?_⟩) hH ?_; rotate_left; (intro _ hS; (try dsimp only at hS); go_simp; (try with_reducible rfl)); simp only [Act.put, List.setIfInBounds_toArray, List.set_cons_zero, List.set_cons_succ])
          iterate 19 (refine tk_ [0,1,2,3,4,5,6,7,8,9,10,11,12,13,14,15,16,17,18,19,20,21,22,23,24,25,26,27,28,29,30,31,32,33,34,35,36,37,38,39,40,41,42,43,44,45,46,47,48,49,50,51] (v := undef) (by simp; rfl) (by kernel_rfl) (by exact fun _ _ _ h => h) (Or.inr ⟨by rfl, rfl⟩) hH ?_; simp only [Act.put, List.setIfInBounds_toArray, List.set_cons_zero, List.set_cons_succ])
          iterate 27 (refine tk_ [0,1,2,3,4,5,6,7,8,9,10,11,12,13,14,15,16,17,18,19,20,21,22,23,24,25,26,27,28,29,30,31,32,33,34,35,36,37,38,39,40,41,42,43,44,45,46,47,48,49,50,51] (v := ?_) (by simp; rfl) (by kernel_rfl) (by exact fun _ _ _ h => h) (Or.inl ⟨by rfl, ?_⟩) hH ?_; rotate_left; (intro _ hS; (try dsimp only at hS); go_simp; (try with_reducible rfl)); simp only [Act.put, List.setIfInBounds_toArray, List.set_cons_zero, List.set_cons_succ])
          refine wpAnyLast_done (by kernel_rfl) ?_ _
          clear hH x1 x2
          go_wp2
          go_roundg (gk - 1)
          case rel => exact ⟨v + 1, congrArg (Value.int .i64) (by first | exact hw1 | exact hw2 | omega), ⟨by omega, by have := HC.out; omega, by have := HI.out; have := HC.out; omega⟩, HB2⟩
          case measure => have := HI.out; have := HC.out; omega
        · as_aux_lemma =>
          have HK := Aside0.mk hk
          clear hk
          have r0 : (0 : Int) ≤ (i : Int) := by omega
          have d0 : decide ((i : Int) < 0) = false := decide_eq_false (by omega)
          go_upto_region 13 with ((with_reducible refine gate_callee (f := 26) rfl ?_); refine goesL_ (some 105) rfl rfl Try.func26 (by kernel_rfl) rfl #[.agg #[.int .i64 a, .slice A1 L.length c1, .slice A2 G.length c2, .slice A3 B.length c3, .slice A4 D.length c4], .int .i64 (v : Int)] rfl (by (try simp only [List.map_toArray, List.map_cons, List.map_nil]); first | done | rfl) ?_; (with_reducible refine (gates_Kind.calls a _ _ L _ _ G _ _ B _ _ D (v : Int) 3 (i : Int) 0 _ ?s0 ?s1 ?s2 ?s3 ?s4 ?s5 ?s6 ?s7 HK.out).mono ?_); (case s0 => exact HXI.out.h1); (case s1 => exact HXI.out.l1); (case s2 => exact HXI.out.h2); (case s3 => exact HXI.out.l2); (case s4 => exact HXI.out.h3); (case s5 => exact HXI.out.l3); (case s6 => exact HXI.out.h4); (case s7 => exact HXI.out.l4); rintro e w5 ⟨rfl, hb⟩; refine ⟨_, rfl, ?_⟩; have HB1 := Aside0.mk (below_step HBI.out hb); clear hb)
          clear y0 y1 y2 y3 y4
          have HB2 := Aside0.mk (below_step HB1.out (below_drew (Below.refl _ _)))
          have x1 := pw_cell_below HB2.out X1.out
          refine wp_region_last_drew (S := fun w' => w'.cell? (af.add v) = some (.bool (rdOf false F (v : Int)))) (ds := []) (by kernel_rfl) x1 (fun hH => ?_)
          iterate 6 (refine tk_ [0,1,2,3,4,5,6,7,8,9,10,11,12,13,14,15,16,17,18,19,20,21,22,23,24,25,26,27,28,29,30,31,32,33,34,35,36,37,38,39,40,41,42,43,44,45,46,47,48,49,50,51] (v := ?_) (by simp; rfl) (by kernel_rfl) (by exact fun _ _ _ h => h) (Or.inl ⟨by rfl, ?_⟩) hH ?_; rotate_left; (intro _ hS; (try dsimp only at hS); go_simp; (try with_reducible rfl)); simp only [Act.put, List.setIfInBounds_toArray, List.set_cons_zero, List.set_cons_succ])
          iterate 19 (refine tk_ [0,1,2,3,4,5,6,7,8,9,10,11,12,13,14,15,16,17,18,19,20,21,22,23,24,25,26,27,28,29,30,31,32,33,34,35,36,37,38,39,40,41,42,43,44,45,46,47,48,49,50,51] (v := undef) (by simp; rfl) (by kernel_rfl) (by exact fun _ _ _ h => h) (Or.inr ⟨by rfl, rfl⟩) hH ?_; simp only [Act.put, List.setIfInBounds_toArray, List.set_cons_zero, List.set_cons_succ])
          iterate 6 (refine tk_ [0,1,2,3,4,5,6,7,8,9,10,11,12,13,14,15,16,17,18,19,20,21,22,23,24,25,26,27,28,29,30,31,32,33,34,35,36,37,38,39,40,41,42,43,44,45,46,47,48,49,50,51] (v := ?_) (by simp; rfl) (by kernel_rfl) (by exact fun _ _ _ h => h) (Or.inl ⟨by rfl, ?_⟩) hH ?_; rotate_left; (intro _ hS; (try dsimp only at hS); go_simp; (try with_reducible rfl)); simp only [Act.put, List.setIfInBounds_toArray, List.set_cons_zero, List.set_cons_succ])
          iterate 19 (refine tk_ [0,1,2,3,4,5,6,7,8,9,10,11,12,13,14,15,16,17,18,19,20,21,22,23,24,25,26,27,28,29,30,31,32,33,34,35,36,37,38,39,40,41,42,43,44,45,46,47,48,49,50,51] (v := undef) (by simp; rfl) (by kernel_rfl) (by exact fun _ _ _ h => h) (Or.inr ⟨by rfl, rfl⟩) hH ?_; simp only [Act.put, List.setIfInBounds_toArray, List.set_cons_zero, List.set_cons_succ])
          iterate 2 (refine tk_ [0,1,2,3,4,5,6,7,8,9,10,11,12,13,14,15,16,17,18,19,20,21,22,23,24,25,26,27,28,29,30,31,32,33,34,35,36,37,38,39,40,41,42,43,44,45,46,47,48,49,50,51] (v := ?_) (by simp; rfl) (by kernel_rfl) (by exact fun _ _ _ h => h) (Or.inl ⟨by rfl, ?_⟩) hH ?_; rotate_left; (intro _ hS; (try dsimp only at hS); go_simp; (try with_reducible rfl)); simp only [Act.put, List.setIfInBounds_toArray, List.set_cons_zero, List.set_cons_succ])
          refine wpAnyLast_done (by kernel_rfl) ?_ _
          clear hH x1
          have r1 : (i : Int) < (G.length : Int) := by omega
          have d1 : decide ((G.length : Int) ≤ (i : Int)) = false := decide_eq_false (by omega)
          have d2 : decide (G.length ≤ i) = false := decide_eq_false (by omega)
          have HA := Aside0.mk ha
          have HBq := Aside0.mk hb
          clear ha hb hi
          obtain ⟨ag, hag, x2, x3⟩ := at_T33 HX.out.h2 (i : Int) r0 r1
          rw [Int.toNat_natCast] at x2 x3
          subst hag
          rw [he] at X1
          generalize (rd_T33 G (i : Int)).f0 = p at x2 HA X1
          generalize (rd_T33 G (i : Int)).f1 = q at x3 HBq X1
          clear he
          go_upto_region 16 with fail
          have HB3 := Aside0.mk (below_step HB2.out (below_drew (Below.refl _ _)))
          have z1 := pw_cell_below HB3.out X1.out
          have z2 := pw_cell_below HB3.out x2
          have z3 := pw_cell_below HB3.out x3
          have z4 := (blk_cell (HX.out.below HB3.out).box 2).trans (show _ = some (.slice (some ag) G.length c2) from rfl)
          clear x2 x3
          generalize hvp : V p = VP at HA z1
          clear X1 hvp
          cases VP with
          | true =>
            refine wp_region_last_drew (S := fun w' => w'.cell? (af.add v) = some (.bool (true && V q)) ∧ w'.cell? (ag.add (i * 2)) = some (.int .i64 p) ∧ w'.cell? ⟨(ag.add (i * 2)).block, (ag.add (i * 2)).off + 1, none⟩ = some (.int .i64 q) ∧ w'.cell? ⟨w.heap.size, 2, none⟩ = some (.slice (some ag) G.length c2)) (ds := []) (by kernel_rfl) ⟨z1, z2, z3, z4⟩ (fun hH => ?_)
            iterate 21 (refine tk_ [0,1,2,3,4,5,6,7,8,9,10,11,12,13,14,15,16,17,18,19,20,21,22,23,24,25,26,27,28,29,30,31,32,33] (v := ?_) (by simp; rfl) (by kernel_rfl) (by exact fun _ _ _ h => h) (Or.inl ⟨by rfl, ?_⟩) hH ?_; rotate_left; (intro _ hS; (try dsimp only at hS); go_simp; (try with_reducible rfl)); simp only [Act.put, List.setIfInBounds_toArray, List.set_cons_zero, List.set_cons_succ])
            refine os_ 21 (by simp; rfl) (by kernel_rfl) (fun K hK => ?_)
            refine goes_ Try.func15 (by kernel_rfl) rfl #[.slice (some af) F.length cF, .int .i64 p] (by rfl) rfl rfl (by (try simp only [List.map_toArray, List.map_cons, List.map_nil]); first | done | rfl) ?_
            refine (spiritlevellaw04_is.calls _ _ F p true _ (Kd.C_below LF.out HB3.out) MF.out HA.out).mono ?_
            rintro e w5 ⟨rfl, hd⟩
            refine ⟨_, rfl, ?_⟩
            have hb := hd.below
            have HB4 := Aside0.mk (below_step HB3.out hb)
            replace z1 := pw_cell_below hb z1
            replace z2 := pw_cell_below hb z2
            replace z3 := pw_cell_below hb z3
            replace z4 := pw_cell_below hb z4
            refine hK.out _ _ ⟨z1, z2, z3, z4⟩ (fun hH => ?_)
            clear hK K hd hb
            iterate 8 (refine tk_ [0,1,2,3,4,5,6,7,8,9,10,11,12,13,14,15,16,17,18,19,20,21,22,23,24,25,26,27,28,29,30,31,32,33] (v := ?_) (by simp; rfl) (by kernel_rfl) (by exact fun _ _ _ h => h) (Or.inl ⟨by rfl, ?_⟩) hH ?_; rotate_left; (intro _ hS; (try dsimp only at hS); go_simp; (try with_reducible rfl)); simp only [Act.put, List.setIfInBounds_toArray, List.set_cons_zero, List.set_cons_succ])
            refine os_ 30 (by simp; rfl) (by kernel_rfl) (fun K hK => ?_)
            refine goes_ Try.func15 (by kernel_rfl) rfl #[.slice (some af) F.length cF, .int .i64 q] (by rfl) rfl rfl (by (try simp only [List.map_toArray, List.map_cons, List.map_nil]); first | done | rfl) ?_
            refine (spiritlevellaw04_is.calls _ _ F q (V q) _ (Kd.C_below LF.out HB4.out) MF.out HBq.out).mono ?_
            rintro e w5 ⟨rfl, hd⟩
            refine ⟨_, rfl, ?_⟩
            have hb := hd.below
            have HB5 := Aside0.mk (below_step HB4.out hb)
            replace z1 := pw_cell_below hb z1
            replace z2 := pw_cell_below hb z2
            replace z3 := pw_cell_below hb z3
            replace z4 := pw_cell_below hb z4
            refine hK.out _ _ ⟨z1, z2, z3, z4⟩ (fun hH => ?_)
            clear hK K hd hb
            iterate 3 (refine tk_ [0,1,2,3,4,5,6,7,8,9,10,11,12,13,14,15,16,17,18,19,20,21,22,23,24,25,26,27,28,29,30,31,32,33] (v := ?_) (by simp; rfl) (by kernel_rfl) (by exact fun _ _ _ h => h) (Or.inl ⟨by rfl, ?_⟩) hH ?_; rotate_left; (intro _ hS; (try dsimp only at hS); go_simp; (try with_reducible rfl)); simp only [Act.put, List.setIfInBounds_toArray, List.set_cons_zero, List.set_cons_succ])
            refine wpAnyLast_done (by kernel_rfl) ?_ _
            clear hH z1 z2 z3 z4
            go_wp2
            go_roundg (gk - 1)
            case rel => exact ⟨v + 1, congrArg (Value.int .i64) (by first | exact hw1 | exact hw2 | omega), ⟨by omega, by have := HC.out; omega, by have := HI.out; have := HC.out; omega⟩, HB5⟩
            case measure => have := HI.out; have := HC.out; omega
          | false =>
            refine wp_region_last_drew (S := fun w' => w'.cell? (af.add v) = some (.bool (false && V q)) ∧ w'.cell? (ag.add (i * 2)) = some (.int .i64 p) ∧ w'.cell? ⟨(ag.add (i * 2)).block, (ag.add (i * 2)).off + 1, none⟩ = some (.int .i64 q) ∧ w'.cell? ⟨w.heap.size, 2, none⟩ = some (.slice (some ag) G.length c2)) (ds := []) (by kernel_rfl) ⟨z1, z2, z3, z4⟩ (fun hH => ?_)
            iterate 21 (refine tk_ [0,1,2,3,4,5,6,7,8,9,10,11,12,13,14,15,16,17,18,19,20,21,22,23,24,25,26,27,28,29,30,31,32,33] (v := ?_) (by simp; rfl) (by kernel_rfl) (by exact fun _ _ _ h => h) (Or.inl ⟨by rfl, ?_⟩) hH ?_; rotate_left; (intro _ hS; (try dsimp only at hS); go_simp; (try with_reducible rfl)); simp only [Act.put, List.setIfInBounds_toArray, List.set_cons_zero, List.set_cons_succ])
            refine os_ 21 (by simp; rfl) (by kernel_rfl) (fun K hK => ?_)
            refine goes_ Try.func15 (by kernel_rfl) rfl #[.slice (some af) F.length cF, .int .i64 p] (by rfl) rfl rfl (by (try simp only [List.map_toArray, List.map_cons, List.map_nil]); first | done | rfl) ?_
            refine (spiritlevellaw04_is.calls _ _ F p false _ (Kd.C_below LF.out HB3.out) MF.out HA.out).mono ?_
            rintro e w5 ⟨rfl, hd⟩
            refine ⟨_, rfl, ?_⟩
            have hb := hd.below
            have HB4 := Aside0.mk (below_step HB3.out hb)
            replace z1 := pw_cell_below hb z1
            replace z2 := pw_cell_below hb z2
            replace z3 := pw_cell_below hb z3
            replace z4 := pw_cell_below hb z4
            refine hK.out _ _ ⟨z1, z2, z3, z4⟩ (fun hH => ?_)
            clear hK K hd hb
            have HB5 := HB4
            iterate 1 (refine tk_ [0,1,2,3,4,5,6,7,8,9,10,11,12,13,14,15,16,17,18,19,20,21,22,23,24,25,26,27,28,29,30,31,32,33] (v := ?_) (by simp; rfl) (by kernel_rfl) (by exact fun _ _ _ h => h) (Or.inl ⟨by rfl, ?_⟩) hH ?_; rotate_left; (intro _ hS; (try dsimp only at hS); go_simp; (try with_reducible rfl)); simp only [Act.put, List.setIfInBounds_toArray, List.set_cons_zero, List.set_cons_succ])
            iterate 8 (refine tk_ [0,1,2,3,4,5,6,7,8,9,10,11,12,13,14,15,16,17,18,19,20,21,22,23,24,25,26,27,28,29,30,31,32,33] (v := undef) (by simp; rfl) (by kernel_rfl) (by exact fun _ _ _ h => h) (Or.inr ⟨by rfl, rfl⟩) hH ?_; simp only [Act.put, List.setIfInBounds_toArray, List.set_cons_zero, List.set_cons_succ])
            iterate 3 (refine tk_ [0,1,2,3,4,5,6,7,8,9,10,11,12,13,14,15,16,17,18,19,20,21,22,23,24,25,26,27,28,29,30,31,32,33] (v := ?_) (by simp; rfl) (by kernel_rfl) (by exact fun _ _ _ h => h) (Or.inl ⟨by rfl, ?_⟩) hH ?_; rotate_left; (intro _ hS; (try dsimp only at hS); go_simp; (try with_reducible rfl)); simp only [Act.put, List.setIfInBounds_toArray, List.set_cons_zero, List.set_cons_succ])
            refine wpAnyLast_done (by kernel_rfl) ?_ _
            clear hH z1 z2 z3 z4
            go_wp2
            go_roundg (gk - 1)
            case rel => exact ⟨v + 1, congrArg (Value.int .i64) (by first | exact hw1 | exact hw2 | omega), ⟨by omega, by have := HC.out; omega, by have := HI.out; have := HC.out; omega⟩, HB5⟩
            case measure => have := HI.out; have := HC.out; omega
      · have cb : decide ((v : Int) ≤ (n : Int)) = false := decide_eq_false (by omega)
        have cb2 : decide (v ≤ n) = false := decide_eq_false c
        go_wp2_with fail
        go_meet
        exact HBI
  case rest =>
  have HBk := hcut
  clear hcut
  have N_ := Aside0.mk (HX.out.below HBk.out); clear HX; have HX := N_; clear N_
  have N_ := Aside0.mk (Kd.C_below LF.out HBk.out); clear LF; have LF := N_; clear N_
  have N_ := Aside0.mk (Kd.C_below LS.out HBk.out); clear LS; have LS := N_; clear N_
  have N_ := Aside0.mk (Kd.C_below LB.out HBk.out); clear LB; have LB := N_; clear N_
  have N_ := Aside0.mk (below_step HB.out HBk.out); clear HB HBk; have HB := N_; clear N_
  go_upto_block 2 with fail
  go_cut [] (fun wx => Aside0 (Below wc.heap.size wc wx))
  case first =>
    go_wp2
    go_loopg [20] (S.length + 1) (fun kq v20 w' => ∃ i : Nat, v20 = .int .i64 (i : Int) ∧ Aside0 (i ≤ S.length ∧ kq + i = S.length + 1) ∧ Aside0 (Below wc.heap.size wc w'))
    case atStart => exact ⟨0, rfl, ⟨by omega, by omega⟩, ⟨Below.refl _ _⟩⟩
    case round =>
      obtain ⟨i, rfl, HI, HBI⟩ := hrel
      by_cases c : i < S.length
      · as_aux_lemma =>
        have cb : decide (i < S.length) = true := decide_eq_true c
        have HC := Aside0.mk c
        have cl : i < L.length := by have := EE.out; have := HF.out.sl; omega
        have hsm : S.length ≤ 1000 := by have := HF.out.small; have := EE.out; omega
        have hw1 : wrap64 ((i : Int) + 1) = (i : Int) + 1 := by unfold wrap64; omega
        have hw2 : IntKind.i64.wrap ((i : Int) + 1) = (i : Int) + 1 := by rw [IntKind.wrap_i64]; omega
        have r0 : (0 : Int) ≤ (i : Int) := by omega
        have r1 : (i : Int) < (S.length : Int) := by omega
        have r2 : (i : Int) < (L.length : Int) := by omega
        obtain ⟨as_, has, x1⟩ := Kd.at_bool LS.out (i : Int) r0 r1
        rw [Int.toNat_natCast] at x1
        subst has
        obtain ⟨ag, hag, x2, -⟩ := at_T52 HX.out.h1 (i : Int) r0 r2
        rw [Int.toNat_natCast] at x2
        subst hag
        have ha := HF.out.latch i cl
        have hv : rdOf false S (i : Int) = V (rd_T52 L (i : Int)).f0 := by rw [ES.out]; simp [rdOf, rd_T52, List.getD, cl]
        rw [hv] at x1
        generalize (rd_T52 L (i : Int)).f0 = p at x1 x2 ha
        have HA := Aside0.mk ha
        clear ha hv cl
        clear hsm c
        go_upto_region 21 with fail
        have HB3 := Aside0.mk (below_step HBI.out (below_drew (Below.refl _ _)))
        have z1 := pw_cell_below HB3.out x1
        have z2 := pw_cell_below HB3.out x2
        have z3 := (blk_cell (HX.out.below HB3.out).box 1).trans (show _ = some (.slice (some ag) L.length c1) from rfl)
        clear x1 x2
        refine wp_region_last_drew (S := fun w' => w'.cell? (as_.add i) = some (.bool (V p)) ∧ w'.cell? (ag.add (i * 2)) = some (.int .i64 p) ∧ w'.cell? ⟨w.heap.size, 1, none⟩ = some (.slice (some ag) L.length c1)) (ds := []) (by kernel_rfl) ⟨z1, z2, z3⟩ (fun hH => ?_)
        iterate 11 (refine tk_ [0,1,2,3,4,5,6,7,8,9,10,11,12] (v := ?_) (by simp; rfl) (by kernel_rfl) (by exact fun _ _ _ h => h) (Or.inl ⟨by rfl, ?_⟩) hH ?_; rotate_left; (intro _ hS; (try dsimp only at hS); go_simp; (try with_reducible rfl)); simp only [Act.put, List.setIfInBounds_toArray, List.set_cons_zero, List.set_cons_succ])
        refine os_ 11 (by simp; rfl) (by kernel_rfl) (fun K hK => ?_)
        refine goes_ Try.func15 (by kernel_rfl) rfl #[.slice (some af) F.length cF, .int .i64 p] (by rfl) rfl rfl (by (try simp only [List.map_toArray, List.map_cons, List.map_nil]); first | done | rfl) ?_
        refine (spiritlevellaw04_is.calls _ _ F p (V p) _ (Kd.C_below LF.out HB3.out) MF.out HA.out).mono ?_
        rintro e w5 ⟨rfl, hd⟩
        refine ⟨_, rfl, ?_⟩
        have hb := hd.below
        have HB4 := Aside0.mk (below_step HB3.out hb)
        replace z1 := pw_cell_below hb z1
        replace z2 := pw_cell_below hb z2
        replace z3 := pw_cell_below hb z3
        refine hK.out _ _ ⟨z1, z2, z3⟩ (fun hH => ?_)
        clear hK K hd hb
        iterate 1 (refine tk_ [0,1,2,3,4,5,6,7,8,9,10,11,12] (v := ?_) (by simp; rfl) (by kernel_rfl) (by exact fun _ _ _ h => h) (Or.inl ⟨by rfl, ?_⟩) hH ?_; rotate_left; (intro _ hS; (try dsimp only at hS); go_simp; (try with_reducible rfl)); simp only [Act.put, List.setIfInBounds_toArray, List.set_cons_zero, List.set_cons_succ])
        refine wpAnyLast_done (by kernel_rfl) ?_ _
        clear hH z1 z2 z3
        go_wp2
        go_roundg (gk - 1)
        case rel => exact ⟨i + 1, congrArg (Value.int .i64) (by first | exact hw1 | exact hw2 | omega), ⟨by have := HC.out; omega, by have := HI.out; have := HC.out; omega⟩, HB4⟩
        case measure => have := HI.out; have := HC.out; omega
      · have cb : decide (i < S.length) = false := decide_eq_false c
        go_wp2_with fail
        go_meet
        exact HBI
  case rest =>
  have HBk := hcut
  clear hcut
  have N_ := Aside0.mk (HX.out.below HBk.out); clear HX; have HX := N_; clear N_
  have N_ := Aside0.mk (Kd.C_below LF.out HBk.out); clear LF; have LF := N_; clear N_
  have N_ := Aside0.mk (Kd.C_below LS.out HBk.out); clear LS; have LS := N_; clear N_
  have N_ := Aside0.mk (Kd.C_below LB.out HBk.out); clear LB; have LB := N_; clear N_
  have N_ := Aside0.mk (below_step HB.out HBk.out); clear HB HBk; have HB := N_; clear N_
  go_upto_block 4 with fail
  go_cut [] (fun wx => Aside0 (Below wc.heap.size wc wx))
  case first =>
    go_wp2
    go_loopg [21] (Bv.length + 1) (fun kq v20 w' => ∃ i : Nat, v20 = .int .i64 (i : Int) ∧ Aside0 (i ≤ Bv.length ∧ kq + i = Bv.length + 1) ∧ Aside0 (Below wc.heap.size wc w'))
    case atStart => exact ⟨0, rfl, ⟨by omega, by omega⟩, ⟨Below.refl _ _⟩⟩
    case round =>
      obtain ⟨i, rfl, HI, HBI⟩ := hrel
      by_cases c : i < Bv.length
      · as_aux_lemma =>
        have cb : decide (i < Bv.length) = true := decide_eq_true c
        have HC := Aside0.mk c
        have cl : i < B.length := by have := EE.out; have := HF.out.sl; omega
        have hsm : Bv.length ≤ 1000 := by have := HF.out.small; have := EE.out; omega
        have hw1 : wrap64 ((i : Int) + 1) = (i : Int) + 1 := by unfold wrap64; omega
        have hw2 : IntKind.i64.wrap ((i : Int) + 1) = (i : Int) + 1 := by rw [IntKind.wrap_i64]; omega
        have r0 : (0 : Int) ≤ (i : Int) := by omega
        have r1 : (i : Int) < (Bv.length : Int) := by omega
        have r2 : (i : Int) < (B.length : Int) := by omega
        obtain ⟨as_, has, x1⟩ := Kd.at_bool LB.out (i : Int) r0 r1
        rw [Int.toNat_natCast] at x1
        subst has
        obtain ⟨ag, hag, x2⟩ := Kd.at_int HX.out.h3 (i : Int) r0 r2
        rw [Int.toNat_natCast] at x2
        subst hag
        have ha := HF.out.bad i cl
        have hv : rdOf false Bv (i : Int) = V (rd B (i : Int)) := by rw [EB.out]; simp [rdOf, rd, List.getD, cl]
        rw [hv] at x1
        generalize rd B (i : Int) = p at x1 x2 ha
        have HA := Aside0.mk ha
        clear ha hv cl
        clear hsm c
        go_upto_region 26 with fail
        have HB3 := Aside0.mk (below_step HBI.out (below_drew (Below.refl _ _)))
        have z1 := pw_cell_below HB3.out x1
        have z2 := pw_cell_below HB3.out x2
        have z3 := (blk_cell (HX.out.below HB3.out).box 3).trans (show _ = some (.slice (some ag) B.length c3) from rfl)
        clear x1 x2
        refine wp_region_last_drew (S := fun w' => w'.cell? (as_.add i) = some (.bool (V p)) ∧ w'.cell? (ag.add i) = some (.int .i64 p) ∧ w'.cell? ⟨w.heap.size, 3, none⟩ = some (.slice (some ag) B.length c3)) (ds := []) (by kernel_rfl) ⟨z1, z2, z3⟩ (fun hH => ?_)
        iterate 10 (refine tk_ [0,1,2,3,4,5,6,7,8,9,10,11] (v := ?_) (by simp; rfl) (by kernel_rfl) (by exact fun _ _ _ h => h) (Or.inl ⟨by rfl, ?_⟩) hH ?_; rotate_left; (intro _ hS; (try dsimp only at hS); go_simp; (try with_reducible rfl)); simp only [Act.put, List.setIfInBounds_toArray, List.set_cons_zero, List.set_cons_succ])
        refine os_ 10 (by simp; rfl) (by kernel_rfl) (fun K hK => ?_)
        refine goes_ Try.func15 (by kernel_rfl) rfl #[.slice (some af) F.length cF, .int .i64 p] (by rfl) rfl rfl (by (try simp only [List.map_toArray, List.map_cons, List.map_nil]); first | done | rfl) ?_
        refine (spiritlevellaw04_is.calls _ _ F p (V p) _ (Kd.C_below LF.out HB3.out) MF.out HA.out).mono ?_
        rintro e w5 ⟨rfl, hd⟩
        refine ⟨_, rfl, ?_⟩
        have hb := hd.below
        have HB4 := Aside0.mk (below_step HB3.out hb)
        replace z1 := pw_cell_below hb z1
        replace z2 := pw_cell_below hb z2
        replace z3 := pw_cell_below hb z3
        refine hK.out _ _ ⟨z1, z2, z3⟩ (fun hH => ?_)
        clear hK K hd hb
        iterate 1 (refine tk_ [0,1,2,3,4,5,6,7,8,9,10,11] (v := ?_) (by simp; rfl) (by kernel_rfl) (by exact fun _ _ _ h => h) (Or.inl ⟨by rfl, ?_⟩) hH ?_; rotate_left; (intro _ hS; (try dsimp only at hS); go_simp; (try with_reducible rfl)); simp only [Act.put, List.setIfInBounds_toArray, List.set_cons_zero, List.set_cons_succ])
        refine wpAnyLast_done (by kernel_rfl) ?_ _
        clear hH z1 z2 z3
        go_wp2
        go_roundg (gk - 1)
        case rel => exact ⟨i + 1, congrArg (Value.int .i64) (by first | exact hw1 | exact hw2 | omega), ⟨by have := HC.out; omega, by have := HI.out; have := HC.out; omega⟩, HB4⟩
        case measure => have := HI.out; have := HC.out; omega
      · have cb : decide (i < Bv.length) = false := decide_eq_false c
        go_wp2_with fail
        go_meet
        exact HBI
  case rest =>
  have HBk := hcut
  clear hcut
  have N_ := Aside0.mk (HX.out.below HBk.out); clear HX; have HX := N_; clear N_
  have N_ := Aside0.mk (Kd.C_below LF.out HBk.out); clear LF; have LF := N_; clear N_
  have N_ := Aside0.mk (Kd.C_below LS.out HBk.out); clear LS; have LS := N_; clear N_
  have N_ := Aside0.mk (Kd.C_below LB.out HBk.out); clear LB; have LB := N_; clear N_
  have N_ := Aside0.mk (below_step HB.out HBk.out); clear HB HBk; have HB := N_; clear N_
  go_upto_block 6 with fail
  go_cut [] (fun wx => Aside0 (Below wc.heap.size wc wx))
  case first =>
    go_wp2
    go_loopg [22] (D.length + 1) (fun kq v22 w' => ∃ i : Nat, v22 = .int .i64 (i : Int) ∧ Aside0 (i ≤ D.length ∧ kq + i = D.length + 1) ∧ Aside0 (Below wc.heap.size wc w'))
    case atStart => exact ⟨0, rfl, ⟨by omega, by omega⟩, ⟨Below.refl _ _⟩⟩
    case round =>
      obtain ⟨i, rfl, HI, HBI⟩ := hrel
      have y4 := (blk_cell (HX.out.below HBI.out).box 4).trans (show _ = some (.slice A4 D.length c4) from rfl)
      by_cases c : i < D.length
      · have cb : decide (i < D.length) = true := decide_eq_true c
        have HC := Aside0.mk c
        have hsm : D.length ≤ 1000 := by have := HF.out.small; omega
        have hw1 : wrap64 ((i : Int) + 1) = (i : Int) + 1 := by unfold wrap64; omega
        have hw2 : IntKind.i64.wrap ((i : Int) + 1) = (i : Int) + 1 := by rw [IntKind.wrap_i64]; omega
        have r0 : (0 : Int) ≤ (i : Int) := by omega
        have r1 : (i : Int) < (D.length : Int) := by omega
        obtain ⟨ag, hag, x2⟩ := Kd.at_int HX.out.h4 (i : Int) r0 r1
        rw [Int.toNat_natCast] at x2
        subst hag
        have x2 := pw_cell_below HBI.out x2
        have ha := HF.out.con i c
        generalize rd D (i : Int) = p at x2 ha
        clear hsm c
        cases r with
        | false =>
          clear ha
          go_wp2_with fail
          go_roundg (gk - 1)
          case rel => exact ⟨i + 1, congrArg (Value.int .i64) (by first | exact hw1 | exact hw2 | omega), ⟨by have := HC.out; omega, by have := HI.out; have := HC.out; omega⟩, HBI⟩
          case measure => have := HI.out; have := HC.out; omega
        | true =>
          have HA := Aside0.mk (ha rfl)
          clear ha
          go_wp2_with (go_at_call 15; (with_reducible refine (spiritlevellaw04_is.calls _ _ F p true _ (Kd.C_below LF.out HBI.out) MF.out HA.out).mono ?_); rintro e w5 ⟨rfl, hd⟩; have HB4 := Aside0.mk (below_step HBI.out hd.below); clear hd)
          go_roundg (gk - 1)
          case rel => exact ⟨i + 1, congrArg (Value.int .i64) (by first | exact hw1 | exact hw2 | omega), ⟨by have := HC.out; omega, by have := HI.out; have := HC.out; omega⟩, HB4⟩
          case measure => have := HI.out; have := HC.out; omega
      · have cb : decide (i < D.length) = false := decide_eq_false c
        go_wp2_with fail
        go_meet
        exact HBI
  case rest =>
  have N_ := Aside0.mk (below_step HB.out hcut.out); clear HB hcut; have HB := N_; clear N_
  go_wp2_with (go_at_call 11; (with_reducible refine (spiritlevellaw04_alive.calls k true _ AL.out).mono ?_); rintro e w6 ⟨rfl, hb⟩; have N_ := Aside0.mk (below_step HB.out hb); clear HB; have HB := N_; clear N_; clear hb)
  go_ret
  exact ⟨rfl, HB.out⟩
end Go.Proofs.Ytfppehhhgbkhcaa.QValuesGatesW
