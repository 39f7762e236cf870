/- The walk of GatesNames: what the law function does, step by step, given what the functions that it calls return. -/
import Derived.Test.YtnllcdihmpdhhaaQGatesBeforex0
import Derived.Test.YtnllcdihmpdhhaaQGatesBeforex1
import Derived.Test.YtnllcdihmpdhhaaQGatesBeforex3
import Derived.Test.YtnllcdihmpdhhaaQGatesBeforex4
import Derived.Deep.CutBlock
import Derived.Deep.RegionLaw
namespace Go.Proofs.Ytnllcdihmpdhhaa.QGatesNames
open Go.RowKit Go.Proofs.YtnllcdihmpdhhaaW.PrintWords Go.Proofs.YtnllcdihmpdhhaaW.PrintLast Go.Proofs.YtnllcdihmpdhhaaW.PrintMore Go.Proofs.Ytnllcdihmpdhhaa.QGatesBefore
attribute [local go_sem] max2_int min2_int max_two min_two max_three min_three max_four min_four
set_option linter.unusedVariables false
set_option linter.unusedSimpArgs false
/-- PrintLast: the operations of the list L, in its order, are taken first. -/
theorem tk_ (L : List Nat) {P : Program} {ops : Array Oper} {Q : Exit → Act → World → Prop} {S : World → Prop} {ds : List Nat} {oi : Oper} {v : Value} {fuel : Nat} {l : Array Bool} {a : Act} {w : World} (hi : ops[L.getD (ops.size - (fuel + 1)) 0]? = some oi)
    (hc : (Region.noSelect ops && Region.free .any ops l (L.getD (ops.size - (fuel + 1)) 0) && (Region.ready .any ops l).contains (L.getD (ops.size - (fuel + 1)) 0) && Region.closedB .any ops l && Region.lastB .any ops l ds (L.getD (ops.size - (fuel + 1)) 0)) = true)
    (hQ : ∀ c a w, Q (.panic c) (a.put oi.dst v) w → Q (.panic c) a w) (hy : YieldsIf P ops S oi v a) (hS : S w)
    (h : wpAnyLast P .any ops Q S ds fuel (l.setIfInBounds (L.getD (ops.size - (fuel + 1)) 0) true) (a.put oi.dst v) w) : wpAnyLast P .any ops Q S ds (fuel + 1) l a w := by
  simp only [Bool.and_eq_true] at hc
  exact wpAnyLast_take hi hc.1.1.1.1 hc.1.1.1.2 hc.1.1.2 hc.1.2 hc.2 hQ hy hS h
theorem os_ (i : Nat) {P : Program} {ops : Array Oper} {Q : Exit → Act → World → Prop} {S : World → Prop} {ds : List Nat} {o : Oper} {fuel : Nat} {l : Array Bool} {a : Act} {w : World} (hi : ops[i]? = some o)
    (hc : ((Region.ready .any ops l == [i]) && !ds.contains i) = true)
    (h : ∀ K : Act → World → Prop, Shut (∀ a w, S w → (S w → wpAnyLast P .any ops Q S ds fuel (l.setIfInBounds i true) a w) → K a w) → if Region.wanted o (yielded ops a.tmps) = true then Oper.wp P o a w K Q else K (a.put o.dst undef) w) : wpAnyLast P .any ops Q S ds (fuel + 1) l a w := by
  simp at hc
  exact wpAnyLast_ready hc.1 (by simp) (AllReadyL.cons hi hc.2 h AllReadyL.nil)
theorem ol_ (i : Nat) {P : Program} {ops : Array Oper} {Q : Exit → Act → World → Prop} {S : World → Prop} {ds : List Nat} {o : Oper} {fuel : Nat} {l : Array Bool} {a : Act} {w : World} (hi : ops[i]? = some o)
    (hc : ((Region.ready .any ops l == [i]) && ds.contains i) = true)
    (h : ∀ K : Act → World → Prop, Shut (∀ a w, wpAnyLast P .any ops Q S ds fuel (l.setIfInBounds i true) a w → K a w) → if Region.wanted o (yielded ops a.tmps) = true then Oper.wp P o a w K Q else K (a.put o.dst undef) w) : wpAnyLast P .any ops Q S ds (fuel + 1) l a w := by
  simp at hc
  exact wpAnyLast_ready hc.1 (by simp) (AllReadyL.cons_last hi hc.2 h AllReadyL.nil)
/-- A circuit's box, and the rows that it names. -/
structure Box (W : World) (gc : Nat) (a : Int) (A1 : Option Addr) (c1 : Nat) (L : List S53) (A2 : Option Addr) (c2 : Nat) (G : List S50) (A3 : Option Addr) (c3 : Nat) (B : List Int) (A4 : Option Addr) (c4 : Nat) (D : List Int) : Prop where
  box : W.heap[gc]? = some (.cells #[.int .i64 a, .slice A1 L.length c1, .slice A2 G.length c2, .slice A3 B.length c3, .slice A4 D.length c4] 26 (0, 0))
  h1 : Kd.C k53 W A1 L.length L
  l1 : L.length ≤ c1
  h2 : Kd.C k50 W A2 G.length G
  l2 : G.length ≤ c2
  h3 : Kd.C (Kd.int .i64) W A3 B.length B
  l3 : B.length ≤ c3
  h4 : Kd.C (Kd.int .i64) W A4 D.length D
  l4 : D.length ≤ c4
theorem Box.below {W W' : World} {gc : Nat} {a : Int} {A1 : Option Addr} {c1 : Nat} {L : List S53} {A2 : Option Addr} {c2 : Nat} {G : List S50} {A3 : Option Addr} {c3 : Nat} {B : List Int} {A4 : Option Addr} {c4 : Nat} {D : List Int} (h : Box W gc a A1 c1 L A2 c2 G A3 c3 B A4 c4 D) (hb : Below W.heap.size W W') : Box W' gc a A1 c1 L A2 c2 G A3 c3 B A4 c4 D :=
  ⟨blk_below h.box hb, Kd.C_below h.h1 hb, h.l1, Kd.C_below h.h2 hb, h.l2, Kd.C_below h.h3 hb, h.l3, Kd.C_below h.h4 hb, h.l4⟩
/-- What the five functions say of a circuit that is not valid. -/
structure Bad (k : Nat) (e a : Int) (L : List S53) (G : List S50) (B D : List Int) : Prop where
  v : gates_Vars.f a L G B D = some (0, e)
  i : gates_Kind.f a L G B D (-1) = some (0, 0, e)
  c : gates_Cone.f k a L G B D (-1) = some ([], e)
  d : gates_Depth.f k a L G B D = some (0, e)
  t : gates_Check.f a L G B D = some e
theorem C53 {W : World} {g : Nat} {xs : List S53} (hl : xs.length ≤ 9) (h : ∀ i (hi : i < xs.length), W.cell? ⟨g, i * 2, none⟩ = some (.int .i64 (xs[i]).f0) ∧ W.cell? ⟨g, i * 2 + 1, none⟩ = some (.int .i64 (xs[i]).f1)) : Kd.C k53 W (some ⟨g, 0, none⟩) xs.length xs := by
  refine ⟨rfl, by omega, fun _ => ⟨_, rfl, fun j p hp => ?_⟩⟩
  obtain ⟨hj, rfl⟩ := List.getElem?_eq_some_iff.1 hp
  refine ⟨_, rfl, k53_mk W xs[j], fun i u hu => ?_⟩
  have e : ∀ m, (⟨g, 0, none⟩ : Addr).add m = ⟨g, m, none⟩ := fun m => by unfold Addr.add; split <;> simp_all
  rw [e]
  rcases i with _ | _ | i
  · obtain rfl := Option.some.inj hu; exact (h j hj).1
  · obtain rfl := Option.some.inj hu; exact (h j hj).2
  · simp at hu
theorem C50 {W : World} {g : Nat} {xs : List S50} (hl : xs.length ≤ 9) (h : ∀ i (hi : i < xs.length), W.cell? ⟨g, i * 2, none⟩ = some (.int .i64 (xs[i]).f0) ∧ W.cell? ⟨g, i * 2 + 1, none⟩ = some (.int .i64 (xs[i]).f1)) : Kd.C k50 W (some ⟨g, 0, none⟩) xs.length xs := by
  refine ⟨rfl, by omega, fun _ => ⟨_, rfl, fun j p hp => ?_⟩⟩
  obtain ⟨hj, rfl⟩ := List.getElem?_eq_some_iff.1 hp
  refine ⟨_, rfl, k50_mk W xs[j], fun i u hu => ?_⟩
  have e : ∀ m, (⟨g, 0, none⟩ : Addr).add m = ⟨g, m, none⟩ := fun m => by unfold Addr.add; split <;> simp_all
  rw [e]
  rcases i with _ | _ | i
  · obtain rfl := Option.some.inj hu; exact (h j hj).1
  · obtain rfl := Option.some.inj hu; exact (h j hj).2
  · simp at hu
theorem blkT {W : World} {a b t t' : Nat} {c c' : Array Value} (h : W.heap[a]? = some (.cells c t (0, 0))) (h' : W.heap[b]? = some (.cells c' t' (0, 0))) (ne : t ≠ t') : a ≠ b := by
  rintro rfl
  rw [h] at h'
  injection h' with h'
  injection h' with _ h'
  exact ne h'
set_option maxHeartbeats 40000000 in
set_option maxRecDepth 100000 in
theorem names_walk (k : Nat) (w : World) (q0 : Bad k 8 (-1) [⟨10, 2⟩] [⟨4, 2⟩, ⟨8, 7⟩] [11] []) (q1 : Bad k 4 998 [⟨10, 2⟩] [⟨4, 2⟩, ⟨8, 7⟩] [11] []) (q2 : Bad k 4 9223372036854775807 [⟨10, 2⟩] [⟨4, 2⟩, ⟨8, 7⟩] [11] []) (q3 : Bad k 4 2 [⟨10, 2⟩] [⟨4, 2⟩, ⟨8, 7⟩] (List.replicate 101 0) []) (q4 : Bad k 4 2 [⟨10, 2⟩] [⟨4, 2⟩, ⟨8, 7⟩] [11] (List.replicate 101 0)) (q5 : Bad k 8 2 [⟨10, 2⟩] [⟨4, 2⟩, ⟨8, 7⟩] [12] []) (q6 : Bad k 8 2 [⟨10, 2⟩] [⟨4, 2⟩, ⟨8, 7⟩] [11] [-1]) (q7 : Bad k 8 2 [⟨12, 2⟩] [⟨4, 2⟩, ⟨8, 7⟩] [11] []) (q8 : Bad k 8 2 [⟨-1, 2⟩] [⟨4, 2⟩, ⟨8, 7⟩] [11] []) (q9 : Bad k 8 2 [⟨10, 3⟩] [⟨4, 2⟩, ⟨8, 7⟩] [11] []) (q10 : Bad k 8 2 [⟨10, -1⟩] [⟨4, 2⟩, ⟨8, 7⟩] [11] []) (q11 : Bad k 8 2 [⟨10, 2⟩] [⟨4, 2⟩, ⟨10, 7⟩] [11] []) (q12 : Bad k 8 2 [⟨10, 2⟩] [⟨4, 2⟩, ⟨8, 9⟩] [11] []) (q13 : Bad k 8 2 [⟨10, 2⟩] [⟨4, -1⟩, ⟨8, 7⟩] [11] []) (q14 : Bad k 8 2 [⟨10, 2⟩] [⟨9, 0⟩, ⟨8, 7⟩] [11] []) (q15 : Bad k 8 (-1) [⟨10, 2⟩] [⟨4, 2⟩, ⟨8, 7⟩] (List.replicate 101 0) []) (d0 : gates_Kind.f 2 [⟨10, 2⟩] [⟨4, 2⟩, ⟨8, 7⟩] [11] [] 0 = some (0, 0, 0)) (d1 : gates_Kind.f 2 [⟨10, 2⟩] [⟨4, 2⟩, ⟨8, 7⟩] [11] [] 1 = some (1, 0, 0)) (d2 : gates_Kind.f 2 [⟨10, 2⟩] [⟨4, 2⟩, ⟨8, 7⟩] [11] [] 2 = some (1, 1, 0)) (d3 : gates_Kind.f 2 [⟨10, 2⟩] [⟨4, 2⟩, ⟨8, 7⟩] [11] [] 3 = some (2, 0, 0)) (d4 : gates_Kind.f 2 [⟨10, 2⟩] [⟨4, 2⟩, ⟨8, 7⟩] [11] [] 4 = some (3, 0, 0)) (d5 : gates_Kind.f 2 [⟨10, 2⟩] [⟨4, 2⟩, ⟨8, 7⟩] [11] [] 5 = some (3, 1, 0)) (m1 : gates_Vars.f 1000 [] [] (List.replicate 100 0) [2001] = some (1000, 0)) (m2 : gates_Vars.f 0 [] [] [] [] = some (0, 0)) (m3 : gates_Kind.f 2 [⟨10, 2⟩] [⟨4, 2⟩, ⟨8, 7⟩] [11] [] 6 = some (0, 0, 2)) (m4 : gates_Cone.f k 2 [⟨10, 2⟩] [⟨4, 2⟩, ⟨8, 7⟩] [11] [] 12 = some ([], 2)) (m5 : gates_Cone.f k 2 [⟨10, 2⟩] [⟨4, 2⟩, ⟨8, 7⟩] [11] [] 1 = some ([], 0)) (m6 : gates_Depth.f k 1000 [] [] (List.replicate 100 0) [2001] = some (0, 0)) (al : spiritlevellaw02_alive.f k = some true) :
    Calls Try.prog 8 #[] w fun e w' => e = .returned (.bool true) ∧ Below w.heap.size w w' := by
  have Q0_ := Aside0.mk q0
  clear q0
  have Q1_ := Aside0.mk q1
  clear q1
  have Q2_ := Aside0.mk q2
  clear q2
  have Q3_ := Aside0.mk q3
  clear q3
  have Q4_ := Aside0.mk q4
  clear q4
  have Q5_ := Aside0.mk q5
  clear q5
  have Q6_ := Aside0.mk q6
  clear q6
  have Q7_ := Aside0.mk q7
  clear q7
  have Q8_ := Aside0.mk q8
  clear q8
  have Q9_ := Aside0.mk q9
  clear q9
  have Q10_ := Aside0.mk q10
  clear q10
  have Q11_ := Aside0.mk q11
  clear q11
  have Q12_ := Aside0.mk q12
  clear q12
  have Q13_ := Aside0.mk q13
  clear q13
  have Q14_ := Aside0.mk q14
  clear q14
  have Q15_ := Aside0.mk q15
  clear q15
  have D0_ := Aside0.mk d0
  clear d0
  have D1_ := Aside0.mk d1
  clear d1
  have D2_ := Aside0.mk d2
  clear d2
  have D3_ := Aside0.mk d3
  clear d3
  have D4_ := Aside0.mk d4
  clear d4
  have D5_ := Aside0.mk d5
  clear d5
  have M1_ := Aside0.mk m1
  clear m1
  have M2_ := Aside0.mk m2
  clear m2
  have M3_ := Aside0.mk m3
  clear m3
  have M4_ := Aside0.mk m4
  clear m4
  have M5_ := Aside0.mk m5
  clear m5
  have M6_ := Aside0.mk m6
  clear m6
  have AL_ := Aside0.mk al
  clear al
  have hu26 := Try.underlying26
  have hu50 := Try.underlying50
  have hu53 := Try.underlying53
  have HBW := Aside0.mk (Below.refl w.heap.size w)
  go_enter Try.func8, Try.ntmps8
  go_upto_block 0 with fail
  go_cut [] (fun wx => Aside0 (Below w.heap.size w wx))
  case first =>
    go_wp2
    go_loopg [1] 17 (fun kq v1 w' => ∃ i : Int, v1 = .int .i64 i ∧ Aside0 (0 ≤ i ∧ i ≤ 16 ∧ (kq : Int) + i = 17) ∧ Aside0 (Below w.heap.size w w'))
    case atStart => exact ⟨0, rfl, ⟨by omega, by omega, by omega⟩, HBW⟩
    case round =>
      obtain ⟨i, rfl, HI, HBI⟩ := hrel
      by_cases c : i < 16
      · have HC := Aside0.mk c
        have cb : decide (i < 16) = true := decide_eq_true c
        clear c
        go_upto_region 5 with ((with_reducible refine gate_callee (f := 28) rfl ?_); refine goesL_ (some 37) rfl rfl Try.func28 (by kernel_rfl) rfl #[] rfl (by (try simp only [List.map_toArray, List.map_cons, List.map_nil]); first | done | rfl) ?_; (refine (spiritlevellaw02_example.calls 2 [⟨10, 2⟩] [⟨4, 2⟩, ⟨8, 7⟩] [11] [] _ rfl).mono ?_); rintro e we ⟨v1, v2, v3, v4, rfl, h1, h2, h3, h4, hb⟩; refine ⟨_, rfl, ?_⟩; have HBE := Aside0.mk (below_step HBI.out hb); obtain ⟨gL, cL, rfl, oL, lL, csL, hcL⟩ := Kd.R_form h1 (by decide); obtain ⟨gG, cG, rfl, oG, lG, csG, hcG⟩ := Kd.R_form h2 (by decide); have HGL := Aside0.mk (Nat.le_trans HBI.out.size oL); have HGG := Aside0.mk (Nat.le_trans HBI.out.size oG); replace h3 := Kd.R_mono (ok' := fun _ => True) h3 (fun _ _ => trivial); replace h4 := Kd.R_mono (ok' := fun _ => True) h4 (fun _ _ => trivial); obtain ⟨AB, cB, rfl⟩ := Kd.R_slice h3; obtain ⟨AD, cD, rfl⟩ := Kd.R_slice h4; have E1 := Aside0.mk h1; have E2 := Aside0.mk h2; have E3 := Aside0.mk h3; have E4 := Aside0.mk h4; have EL := Aside0.mk (And.intro lL hcL); have EG := Aside0.mk (And.intro lG hcG); clear hb h1 h2 h3 h4 lL hcL lG hcG)
        obtain ⟨wb, hwb⟩ : ∃ x, x = we.alloc (.cells #[.int .i64 2, .slice (some ⟨gL, 0, none⟩) 1 cL, .slice (some ⟨gG, 0, none⟩) 2 cG, .slice AB 1 cB, .slice AD 0 cD] 26) := ⟨_, rfl⟩
        have BC : Aside0 (wb.heap[we.heap.size]? = some (.cells #[.int .i64 2, .slice (some ⟨gL, 0, none⟩) 1 cL, .slice (some ⟨gG, 0, none⟩) 2 cG, .slice AB 1 cB, .slice AD 0 cD] 26 (0, 0))) := ⟨by rw [hwb]; exact heap_alloc_new we _⟩
        have hb : Below we.heap.size we wb := by rw [hwb]; exact below_alloc (Below.refl _ _) _
        have E1n := Aside0.mk (Kd.R_below E1.out hb)
        have E2n := Aside0.mk (Kd.R_below E2.out hb)
        have E3n := Aside0.mk (Kd.R_below E3.out hb)
        have E4n := Aside0.mk (Kd.R_below E4.out hb)
        have HL := Aside0.mk (blk_below EL.out.2 hb)
        have HG := Aside0.mk (blk_below EG.out.2 hb)
        have HBb := Aside0.mk (below_step HBE.out hb)
        have HSZ := Aside0.mk (show w.heap.size ≤ we.heap.size from HBE.out.size)
        rw [← hwb]
        clear hwb hb E1 E2 E3 E4 EL EG HBE
        obtain ⟨gc, hgc⟩ : ∃ x, x = we.heap.size := ⟨_, rfl⟩
        rw [← hgc] at BC HSZ ⊢
        clear hgc
        obtain ⟨cs1, -, hM1, hc1, hf1⟩ := Kd.R_elem E1n.out z53 0 (by decide) (by decide)
        have e1 := k53_openM hM1
        have t0 := hc1 0 (.int .i64 10) (by rw [e1]; rfl)
        have t1 := hc1 1 (.int .i64 2) (by rw [e1]; rfl)
        have TL := Aside0.mk (show wb.cell? ⟨gL, 0, none⟩ = some (.int .i64 10) ∧ wb.cell? ⟨gL, 1, none⟩ = some (.int .i64 2) ∧ wb.frozen? ⟨gL, 0, none⟩ = false ∧ wb.frozen? ⟨gL, 1, none⟩ = false from ⟨t0, t1, hf1 0, hf1 1⟩)
        clear hM1 hc1 hf1 e1 t0 t1
        obtain ⟨cs1, -, hM1, hc1, hf1⟩ := Kd.R_elem E2n.out z50 0 (by decide) (by decide)
        have e1 := k50_openM hM1
        have t0 := hc1 0 (.int .i64 4) (by rw [e1]; rfl)
        have t1 := hc1 1 (.int .i64 2) (by rw [e1]; rfl)
        obtain ⟨cs2, -, hM2, hc2, hf2⟩ := Kd.R_elem E2n.out z50 1 (by decide) (by decide)
        have e2 := k50_openM hM2
        have t2 := hc2 0 (.int .i64 8) (by rw [e2]; rfl)
        have t3 := hc2 1 (.int .i64 7) (by rw [e2]; rfl)
        have TG := Aside0.mk (show (wb.cell? ⟨gG, 0, none⟩ = some (.int .i64 4) ∧ wb.cell? ⟨gG, 1, none⟩ = some (.int .i64 2) ∧ wb.cell? ⟨gG, 2, none⟩ = some (.int .i64 8) ∧ wb.cell? ⟨gG, 3, none⟩ = some (.int .i64 7)) ∧ wb.frozen? ⟨gG, 0, none⟩ = false ∧ wb.frozen? ⟨gG, 1, none⟩ = false ∧ wb.frozen? ⟨gG, 2, none⟩ = false ∧ wb.frozen? ⟨gG, 3, none⟩ = false from ⟨⟨t0, t1, t2, t3⟩, hf1 0, hf1 1, hf2 0, hf2 1⟩)
        clear hM1 hc1 hf1 e1 t0 t1 hM2 hc2 hf2 e2 t2 t3
        have NL := Aside0.mk (blkT BC.out HL.out (by decide))
        have NG := Aside0.mk (blkT BC.out HG.out (by decide))
        have NLG := Aside0.mk (blkT HL.out HG.out (by decide))
        go_upto_block 2 with fail
        go_cut [3] (fun v3 wx => ∃ (e a : Int) (A1 : Option Addr) (c1 : Nat) (L : List S53) (A2 : Option Addr) (c2 : Nat) (G : List S50) (A3 : Option Addr) (c3 : Nat) (B : List Int) (A4 : Option Addr) (c4 : Nat) (D : List Int), v3 = .int .i64 e ∧ Aside0 (Box wx gc a A1 c1 L A2 c2 G A3 c3 B A4 c4 D) ∧ Aside0 (Bad k e a L G B D) ∧ Aside0 (Below w.heap.size w wx))
        case first =>
          rcases (show i = 0 ∨ i = 1 ∨ i = 2 ∨ i = 3 ∨ i = 4 ∨ i = 5 ∨ i = 6 ∨ i = 7 ∨ i = 8 ∨ i = 9 ∨ i = 10 ∨ i = 11 ∨ i = 12 ∨ i = 13 ∨ i = 14 ∨ i = 15 by have h1 := HI.out; have h2 := HC.out; omega) with rfl | rfl | rfl | rfl | rfl | rfl | rfl | rfl | rfl | rfl | rfl | rfl | rfl | rfl | rfl | rfl
          · as_aux_lemma =>
            have y0 := (blk_cell BC.out 0).trans (show _ = some (.int .i64 2) from rfl)
            have fz0 := blk_frozen BC.out 0
            have y1 := (blk_cell BC.out 1).trans (show _ = some (.slice (some ⟨gL, 0, none⟩) 1 cL) from rfl)
            have fz1 := blk_frozen BC.out 1
            have y2 := (blk_cell BC.out 2).trans (show _ = some (.slice (some ⟨gG, 0, none⟩) 2 cG) from rfl)
            have fz2 := blk_frozen BC.out 2
            have y3 := (blk_cell BC.out 3).trans (show _ = some (.slice AB 1 cB) from rfl)
            have fz3 := blk_frozen BC.out 3
            have y4 := (blk_cell BC.out 4).trans (show _ = some (.slice AD 0 cD) from rfl)
            have fz4 := blk_frozen BC.out 4
            obtain ⟨tl0, tl1, fl0, fl1⟩ := TL.out
            obtain ⟨⟨tg0, tg1, tg2, tg3⟩, fg0, fg1, fg2, fg3⟩ := TG.out
            go_wp2_with fail
            go_meet
            exact ⟨8, (-1), _, cL, [⟨10, 2⟩], _, cG, [⟨4, 2⟩, ⟨8, 7⟩], AB, cB, [11], AD, cD, [], rfl, ⟨⟨blk_set BC.out 0 (.int .i64 (-1)), (Kd.R_reads' (Kd.R_set E1n.out BC.out (by decide) 0 (.int .i64 (-1)))).2.2, (Kd.R_reads' E1n.out).2.1, (Kd.R_reads' (Kd.R_set E2n.out BC.out (by decide) 0 (.int .i64 (-1)))).2.2, (Kd.R_reads' E2n.out).2.1, (Kd.R_reads' (Kd.R_set E3n.out BC.out (by decide) 0 (.int .i64 (-1)))).2.2, (Kd.R_reads' E3n.out).2.1, (Kd.R_reads' (Kd.R_set E4n.out BC.out (by decide) 0 (.int .i64 (-1)))).2.2, (Kd.R_reads' E4n.out).2.1⟩⟩, Q0_, ⟨HBb.out.setCell HSZ.out _⟩⟩
          · as_aux_lemma =>
            have y0 := (blk_cell BC.out 0).trans (show _ = some (.int .i64 2) from rfl)
            have fz0 := blk_frozen BC.out 0
            have y1 := (blk_cell BC.out 1).trans (show _ = some (.slice (some ⟨gL, 0, none⟩) 1 cL) from rfl)
            have fz1 := blk_frozen BC.out 1
            have y2 := (blk_cell BC.out 2).trans (show _ = some (.slice (some ⟨gG, 0, none⟩) 2 cG) from rfl)
            have fz2 := blk_frozen BC.out 2
            have y3 := (blk_cell BC.out 3).trans (show _ = some (.slice AB 1 cB) from rfl)
            have fz3 := blk_frozen BC.out 3
            have y4 := (blk_cell BC.out 4).trans (show _ = some (.slice AD 0 cD) from rfl)
            have fz4 := blk_frozen BC.out 4
            obtain ⟨tl0, tl1, fl0, fl1⟩ := TL.out
            obtain ⟨⟨tg0, tg1, tg2, tg3⟩, fg0, fg1, fg2, fg3⟩ := TG.out
            go_wp2_with fail
            go_meet
            exact ⟨4, 998, _, cL, [⟨10, 2⟩], _, cG, [⟨4, 2⟩, ⟨8, 7⟩], AB, cB, [11], AD, cD, [], rfl, ⟨⟨blk_set BC.out 0 (.int .i64 998), (Kd.R_reads' (Kd.R_set E1n.out BC.out (by decide) 0 (.int .i64 998))).2.2, (Kd.R_reads' E1n.out).2.1, (Kd.R_reads' (Kd.R_set E2n.out BC.out (by decide) 0 (.int .i64 998))).2.2, (Kd.R_reads' E2n.out).2.1, (Kd.R_reads' (Kd.R_set E3n.out BC.out (by decide) 0 (.int .i64 998))).2.2, (Kd.R_reads' E3n.out).2.1, (Kd.R_reads' (Kd.R_set E4n.out BC.out (by decide) 0 (.int .i64 998))).2.2, (Kd.R_reads' E4n.out).2.1⟩⟩, Q1_, ⟨HBb.out.setCell HSZ.out _⟩⟩
          · as_aux_lemma =>
            have y0 := (blk_cell BC.out 0).trans (show _ = some (.int .i64 2) from rfl)
            have fz0 := blk_frozen BC.out 0
            have y1 := (blk_cell BC.out 1).trans (show _ = some (.slice (some ⟨gL, 0, none⟩) 1 cL) from rfl)
            have fz1 := blk_frozen BC.out 1
            have y2 := (blk_cell BC.out 2).trans (show _ = some (.slice (some ⟨gG, 0, none⟩) 2 cG) from rfl)
            have fz2 := blk_frozen BC.out 2
            have y3 := (blk_cell BC.out 3).trans (show _ = some (.slice AB 1 cB) from rfl)
            have fz3 := blk_frozen BC.out 3
            have y4 := (blk_cell BC.out 4).trans (show _ = some (.slice AD 0 cD) from rfl)
            have fz4 := blk_frozen BC.out 4
            obtain ⟨tl0, tl1, fl0, fl1⟩ := TL.out
            obtain ⟨⟨tg0, tg1, tg2, tg3⟩, fg0, fg1, fg2, fg3⟩ := TG.out
            go_wp2_with fail
            go_meet
            exact ⟨4, 9223372036854775807, _, cL, [⟨10, 2⟩], _, cG, [⟨4, 2⟩, ⟨8, 7⟩], AB, cB, [11], AD, cD, [], rfl, ⟨⟨blk_set BC.out 0 (.int .i64 9223372036854775807), (Kd.R_reads' (Kd.R_set E1n.out BC.out (by decide) 0 (.int .i64 9223372036854775807))).2.2, (Kd.R_reads' E1n.out).2.1, (Kd.R_reads' (Kd.R_set E2n.out BC.out (by decide) 0 (.int .i64 9223372036854775807))).2.2, (Kd.R_reads' E2n.out).2.1, (Kd.R_reads' (Kd.R_set E3n.out BC.out (by decide) 0 (.int .i64 9223372036854775807))).2.2, (Kd.R_reads' E3n.out).2.1, (Kd.R_reads' (Kd.R_set E4n.out BC.out (by decide) 0 (.int .i64 9223372036854775807))).2.2, (Kd.R_reads' E4n.out).2.1⟩⟩, Q2_, ⟨HBb.out.setCell HSZ.out _⟩⟩
          · as_aux_lemma =>
            have y0 := (blk_cell BC.out 0).trans (show _ = some (.int .i64 2) from rfl)
            have fz0 := blk_frozen BC.out 0
            have y1 := (blk_cell BC.out 1).trans (show _ = some (.slice (some ⟨gL, 0, none⟩) 1 cL) from rfl)
            have fz1 := blk_frozen BC.out 1
            have y2 := (blk_cell BC.out 2).trans (show _ = some (.slice (some ⟨gG, 0, none⟩) 2 cG) from rfl)
            have fz2 := blk_frozen BC.out 2
            have y3 := (blk_cell BC.out 3).trans (show _ = some (.slice AB 1 cB) from rfl)
            have fz3 := blk_frozen BC.out 3
            have y4 := (blk_cell BC.out 4).trans (show _ = some (.slice AD 0 cD) from rfl)
            have fz4 := blk_frozen BC.out 4
            obtain ⟨tl0, tl1, fl0, fl1⟩ := TL.out
            obtain ⟨⟨tg0, tg1, tg2, tg3⟩, fg0, fg1, fg2, fg3⟩ := TG.out
            go_wp2_with ((with_reducible refine gate_dst (N := 53) rfl ?_); refine Kd.R_make (Kd.int .i64) _ 3 rfl (N := 53) rfl 24 _ _ rfl 101 rfl rfl Try.underlying24 (.int .i64 0) 8 info3 rfl (by decide) (by decide) (0 : Int) (ok := fun _ => True) (okp := fun _ => True) rfl (fun _ hk => hk) trivial (by decide) (by decide) (Below.refl _ _) (Nat.le_refl _) ?_; intro v1 w1 ho hb hg hn; clear hg hn; have N_ := Aside0.mk (Kd.R_below E1n.out hb); clear E1n; have E1n := N_; clear N_; have N_ := Aside0.mk (Kd.R_below E2n.out hb); clear E2n; have E2n := N_; clear N_; have N_ := Aside0.mk (Kd.R_below E3n.out hb); clear E3n; have E3n := N_; clear N_; have N_ := Aside0.mk (Kd.R_below E4n.out hb); clear E4n; have E4n := N_; clear N_; have N_ := Aside0.mk (blk_below BC.out hb); clear BC; have BC := N_; clear N_; have N_ := Aside0.mk (below_step HBb.out hb); clear HBb; have HBb := N_; clear N_; replace ho : Kd.R (Kd.int .i64) 3 w1 _ (fun _ => True) v1 (List.replicate 101 0) := ho; obtain ⟨A0, c0, rfl⟩ := Kd.R_slice ho; have LR := Aside0.mk ho; have H0 := Aside0.mk (Kd.R_reads' ho).2.1; clear ho hb; clear y0 y1 y2 y3 y4 fz0 fz1 fz2 fz3 fz4 tl0 tl1 fl0 fl1 tg0 tg1 tg2 tg3 fg0 fg1 fg2 fg3; have y0 := (blk_cell BC.out 0).trans (show _ = some (.int .i64 2) from rfl); have fz0 := blk_frozen BC.out 0; have y1 := (blk_cell BC.out 1).trans (show _ = some (.slice (some ⟨gL, 0, none⟩) 1 cL) from rfl); have fz1 := blk_frozen BC.out 1; have y2 := (blk_cell BC.out 2).trans (show _ = some (.slice (some ⟨gG, 0, none⟩) 2 cG) from rfl); have fz2 := blk_frozen BC.out 2; have y3 := (blk_cell BC.out 3).trans (show _ = some (.slice AB 1 cB) from rfl); have fz3 := blk_frozen BC.out 3; have y4 := (blk_cell BC.out 4).trans (show _ = some (.slice AD 0 cD) from rfl); have fz4 := blk_frozen BC.out 4; skip)
            go_meet
            have LN : Kd.C (Kd.int .i64) (w1.setCell ⟨gc, 3, none⟩ (.slice A0 101 c0)) A0 101 (List.replicate 101 0) := (Kd.R_reads' (Kd.R_set LR.out BC.out (by decide) 3 (.slice A0 101 c0))).2.2
            exact ⟨4, 2, _, cL, [⟨10, 2⟩], _, cG, [⟨4, 2⟩, ⟨8, 7⟩], A0, c0, (List.replicate 101 0), AD, cD, [], rfl, ⟨⟨blk_set BC.out 3 (.slice A0 101 c0), (Kd.R_reads' (Kd.R_set E1n.out BC.out (by decide) 3 (.slice A0 101 c0))).2.2, (Kd.R_reads' E1n.out).2.1, (Kd.R_reads' (Kd.R_set E2n.out BC.out (by decide) 3 (.slice A0 101 c0))).2.2, (Kd.R_reads' E2n.out).2.1, LN, H0.out, (Kd.R_reads' (Kd.R_set E4n.out BC.out (by decide) 3 (.slice A0 101 c0))).2.2, (Kd.R_reads' E4n.out).2.1⟩⟩, Q3_, ⟨HBb.out.setCell HSZ.out _⟩⟩
          · as_aux_lemma =>
            have y0 := (blk_cell BC.out 0).trans (show _ = some (.int .i64 2) from rfl)
            have fz0 := blk_frozen BC.out 0
            have y1 := (blk_cell BC.out 1).trans (show _ = some (.slice (some ⟨gL, 0, none⟩) 1 cL) from rfl)
            have fz1 := blk_frozen BC.out 1
            have y2 := (blk_cell BC.out 2).trans (show _ = some (.slice (some ⟨gG, 0, none⟩) 2 cG) from rfl)
            have fz2 := blk_frozen BC.out 2
            have y3 := (blk_cell BC.out 3).trans (show _ = some (.slice AB 1 cB) from rfl)
            have fz3 := blk_frozen BC.out 3
            have y4 := (blk_cell BC.out 4).trans (show _ = some (.slice AD 0 cD) from rfl)
            have fz4 := blk_frozen BC.out 4
            obtain ⟨tl0, tl1, fl0, fl1⟩ := TL.out
            obtain ⟨⟨tg0, tg1, tg2, tg3⟩, fg0, fg1, fg2, fg3⟩ := TG.out
            go_wp2_with ((with_reducible refine gate_dst (N := 57) rfl ?_); refine Kd.R_make (Kd.int .i64) _ 3 rfl (N := 57) rfl 24 _ _ rfl 101 rfl rfl Try.underlying24 (.int .i64 0) 8 info3 rfl (by decide) (by decide) (0 : Int) (ok := fun _ => True) (okp := fun _ => True) rfl (fun _ hk => hk) trivial (by decide) (by decide) (Below.refl _ _) (Nat.le_refl _) ?_; intro v1 w1 ho hb hg hn; clear hg hn; have N_ := Aside0.mk (Kd.R_below E1n.out hb); clear E1n; have E1n := N_; clear N_; have N_ := Aside0.mk (Kd.R_below E2n.out hb); clear E2n; have E2n := N_; clear N_; have N_ := Aside0.mk (Kd.R_below E3n.out hb); clear E3n; have E3n := N_; clear N_; have N_ := Aside0.mk (Kd.R_below E4n.out hb); clear E4n; have E4n := N_; clear N_; have N_ := Aside0.mk (blk_below BC.out hb); clear BC; have BC := N_; clear N_; have N_ := Aside0.mk (below_step HBb.out hb); clear HBb; have HBb := N_; clear N_; replace ho : Kd.R (Kd.int .i64) 3 w1 _ (fun _ => True) v1 (List.replicate 101 0) := ho; obtain ⟨A0, c0, rfl⟩ := Kd.R_slice ho; have LR := Aside0.mk ho; have H0 := Aside0.mk (Kd.R_reads' ho).2.1; clear ho hb; clear y0 y1 y2 y3 y4 fz0 fz1 fz2 fz3 fz4 tl0 tl1 fl0 fl1 tg0 tg1 tg2 tg3 fg0 fg1 fg2 fg3; have y0 := (blk_cell BC.out 0).trans (show _ = some (.int .i64 2) from rfl); have fz0 := blk_frozen BC.out 0; have y1 := (blk_cell BC.out 1).trans (show _ = some (.slice (some ⟨gL, 0, none⟩) 1 cL) from rfl); have fz1 := blk_frozen BC.out 1; have y2 := (blk_cell BC.out 2).trans (show _ = some (.slice (some ⟨gG, 0, none⟩) 2 cG) from rfl); have fz2 := blk_frozen BC.out 2; have y3 := (blk_cell BC.out 3).trans (show _ = some (.slice AB 1 cB) from rfl); have fz3 := blk_frozen BC.out 3; have y4 := (blk_cell BC.out 4).trans (show _ = some (.slice AD 0 cD) from rfl); have fz4 := blk_frozen BC.out 4; skip)
            go_meet
            have LN : Kd.C (Kd.int .i64) (w1.setCell ⟨gc, 4, none⟩ (.slice A0 101 c0)) A0 101 (List.replicate 101 0) := (Kd.R_reads' (Kd.R_set LR.out BC.out (by decide) 4 (.slice A0 101 c0))).2.2
            exact ⟨4, 2, _, cL, [⟨10, 2⟩], _, cG, [⟨4, 2⟩, ⟨8, 7⟩], AB, cB, [11], A0, c0, (List.replicate 101 0), rfl, ⟨⟨blk_set BC.out 4 (.slice A0 101 c0), (Kd.R_reads' (Kd.R_set E1n.out BC.out (by decide) 4 (.slice A0 101 c0))).2.2, (Kd.R_reads' E1n.out).2.1, (Kd.R_reads' (Kd.R_set E2n.out BC.out (by decide) 4 (.slice A0 101 c0))).2.2, (Kd.R_reads' E2n.out).2.1, (Kd.R_reads' (Kd.R_set E3n.out BC.out (by decide) 4 (.slice A0 101 c0))).2.2, (Kd.R_reads' E3n.out).2.1, LN, H0.out⟩⟩, Q4_, ⟨HBb.out.setCell HSZ.out _⟩⟩
          · as_aux_lemma =>
            have y0 := (blk_cell BC.out 0).trans (show _ = some (.int .i64 2) from rfl)
            have fz0 := blk_frozen BC.out 0
            have y1 := (blk_cell BC.out 1).trans (show _ = some (.slice (some ⟨gL, 0, none⟩) 1 cL) from rfl)
            have fz1 := blk_frozen BC.out 1
            have y2 := (blk_cell BC.out 2).trans (show _ = some (.slice (some ⟨gG, 0, none⟩) 2 cG) from rfl)
            have fz2 := blk_frozen BC.out 2
            have y3 := (blk_cell BC.out 3).trans (show _ = some (.slice AB 1 cB) from rfl)
            have fz3 := blk_frozen BC.out 3
            have y4 := (blk_cell BC.out 4).trans (show _ = some (.slice AD 0 cD) from rfl)
            have fz4 := blk_frozen BC.out 4
            obtain ⟨tl0, tl1, fl0, fl1⟩ := TL.out
            obtain ⟨⟨tg0, tg1, tg2, tg3⟩, fg0, fg1, fg2, fg3⟩ := TG.out
            go_wp2_with ((with_reducible refine gate_dst (N := 61) rfl ?_); refine Kd.R_lit (Kd.int .i64) _ 3 ?hg (N := 61) ?hd (xs := ([12] : List Int)) (inner := [.int .i64 12]) (ok := fun _ => True) (okp := fun _ => True) ?hr ?hp (fun _ hk => hk) trivial (Below.refl _ _) (Nat.le_refl _) (by simp) ?_; (case hd => rfl); (case hg => rfl); (case hr => first | (go_simp; done) | (go_simp; rfl)); (case hp => exact (Reps.one (show Kd.M (Kd.int .i64) _ _ _ 12 [.int .i64 12] from rfl) (Reps.none _ _))); intro v1 w1 ho hb hg hn; clear hg hn; have N_ := Aside0.mk (Kd.R_below E1n.out hb); clear E1n; have E1n := N_; clear N_; have N_ := Aside0.mk (Kd.R_below E2n.out hb); clear E2n; have E2n := N_; clear N_; have N_ := Aside0.mk (Kd.R_below E3n.out hb); clear E3n; have E3n := N_; clear N_; have N_ := Aside0.mk (Kd.R_below E4n.out hb); clear E4n; have E4n := N_; clear N_; have N_ := Aside0.mk (blk_below BC.out hb); clear BC; have BC := N_; clear N_; have N_ := Aside0.mk (below_step HBb.out hb); clear HBb; have HBb := N_; clear N_; obtain ⟨A0, c0, rfl⟩ := Kd.R_slice ho; have LR := Aside0.mk ho; have H0 := Aside0.mk (Kd.R_reads' ho).2.1; clear ho hb; clear y0 y1 y2 y3 y4 fz0 fz1 fz2 fz3 fz4 tl0 tl1 fl0 fl1 tg0 tg1 tg2 tg3 fg0 fg1 fg2 fg3; have y0 := (blk_cell BC.out 0).trans (show _ = some (.int .i64 2) from rfl); have fz0 := blk_frozen BC.out 0; have y1 := (blk_cell BC.out 1).trans (show _ = some (.slice (some ⟨gL, 0, none⟩) 1 cL) from rfl); have fz1 := blk_frozen BC.out 1; have y2 := (blk_cell BC.out 2).trans (show _ = some (.slice (some ⟨gG, 0, none⟩) 2 cG) from rfl); have fz2 := blk_frozen BC.out 2; have y3 := (blk_cell BC.out 3).trans (show _ = some (.slice AB 1 cB) from rfl); have fz3 := blk_frozen BC.out 3; have y4 := (blk_cell BC.out 4).trans (show _ = some (.slice AD 0 cD) from rfl); have fz4 := blk_frozen BC.out 4; skip)
            go_meet
            have LN : Kd.C (Kd.int .i64) (w1.setCell ⟨gc, 3, none⟩ (.slice A0 1 c0)) A0 1 [12] := (Kd.R_reads' (Kd.R_set LR.out BC.out (by decide) 3 (.slice A0 1 c0))).2.2
            exact ⟨8, 2, _, cL, [⟨10, 2⟩], _, cG, [⟨4, 2⟩, ⟨8, 7⟩], A0, c0, [12], AD, cD, [], rfl, ⟨⟨blk_set BC.out 3 (.slice A0 1 c0), (Kd.R_reads' (Kd.R_set E1n.out BC.out (by decide) 3 (.slice A0 1 c0))).2.2, (Kd.R_reads' E1n.out).2.1, (Kd.R_reads' (Kd.R_set E2n.out BC.out (by decide) 3 (.slice A0 1 c0))).2.2, (Kd.R_reads' E2n.out).2.1, LN, H0.out, (Kd.R_reads' (Kd.R_set E4n.out BC.out (by decide) 3 (.slice A0 1 c0))).2.2, (Kd.R_reads' E4n.out).2.1⟩⟩, Q5_, ⟨HBb.out.setCell HSZ.out _⟩⟩
          · as_aux_lemma =>
            have y0 := (blk_cell BC.out 0).trans (show _ = some (.int .i64 2) from rfl)
            have fz0 := blk_frozen BC.out 0
            have y1 := (blk_cell BC.out 1).trans (show _ = some (.slice (some ⟨gL, 0, none⟩) 1 cL) from rfl)
            have fz1 := blk_frozen BC.out 1
            have y2 := (blk_cell BC.out 2).trans (show _ = some (.slice (some ⟨gG, 0, none⟩) 2 cG) from rfl)
            have fz2 := blk_frozen BC.out 2
            have y3 := (blk_cell BC.out 3).trans (show _ = some (.slice AB 1 cB) from rfl)
            have fz3 := blk_frozen BC.out 3
            have y4 := (blk_cell BC.out 4).trans (show _ = some (.slice AD 0 cD) from rfl)
            have fz4 := blk_frozen BC.out 4
            obtain ⟨tl0, tl1, fl0, fl1⟩ := TL.out
            obtain ⟨⟨tg0, tg1, tg2, tg3⟩, fg0, fg1, fg2, fg3⟩ := TG.out
            go_wp2_with ((with_reducible refine gate_dst (N := 65) rfl ?_); refine Kd.R_lit (Kd.int .i64) _ 3 ?hg (N := 65) ?hd (xs := ([-1] : List Int)) (inner := [.int .i64 (-1)]) (ok := fun _ => True) (okp := fun _ => True) ?hr ?hp (fun _ hk => hk) trivial (Below.refl _ _) (Nat.le_refl _) (by simp) ?_; (case hd => rfl); (case hg => rfl); (case hr => first | (go_simp; done) | (go_simp; rfl)); (case hp => exact (Reps.one (show Kd.M (Kd.int .i64) _ _ _ (-1) [.int .i64 (-1)] from rfl) (Reps.none _ _))); intro v1 w1 ho hb hg hn; clear hg hn; have N_ := Aside0.mk (Kd.R_below E1n.out hb); clear E1n; have E1n := N_; clear N_; have N_ := Aside0.mk (Kd.R_below E2n.out hb); clear E2n; have E2n := N_; clear N_; have N_ := Aside0.mk (Kd.R_below E3n.out hb); clear E3n; have E3n := N_; clear N_; have N_ := Aside0.mk (Kd.R_below E4n.out hb); clear E4n; have E4n := N_; clear N_; have N_ := Aside0.mk (blk_below BC.out hb); clear BC; have BC := N_; clear N_; have N_ := Aside0.mk (below_step HBb.out hb); clear HBb; have HBb := N_; clear N_; obtain ⟨A0, c0, rfl⟩ := Kd.R_slice ho; have LR := Aside0.mk ho; have H0 := Aside0.mk (Kd.R_reads' ho).2.1; clear ho hb; clear y0 y1 y2 y3 y4 fz0 fz1 fz2 fz3 fz4 tl0 tl1 fl0 fl1 tg0 tg1 tg2 tg3 fg0 fg1 fg2 fg3; have y0 := (blk_cell BC.out 0).trans (show _ = some (.int .i64 2) from rfl); have fz0 := blk_frozen BC.out 0; have y1 := (blk_cell BC.out 1).trans (show _ = some (.slice (some ⟨gL, 0, none⟩) 1 cL) from rfl); have fz1 := blk_frozen BC.out 1; have y2 := (blk_cell BC.out 2).trans (show _ = some (.slice (some ⟨gG, 0, none⟩) 2 cG) from rfl); have fz2 := blk_frozen BC.out 2; have y3 := (blk_cell BC.out 3).trans (show _ = some (.slice AB 1 cB) from rfl); have fz3 := blk_frozen BC.out 3; have y4 := (blk_cell BC.out 4).trans (show _ = some (.slice AD 0 cD) from rfl); have fz4 := blk_frozen BC.out 4; skip)
            go_meet
            have LN : Kd.C (Kd.int .i64) (w1.setCell ⟨gc, 4, none⟩ (.slice A0 1 c0)) A0 1 [-1] := (Kd.R_reads' (Kd.R_set LR.out BC.out (by decide) 4 (.slice A0 1 c0))).2.2
            exact ⟨8, 2, _, cL, [⟨10, 2⟩], _, cG, [⟨4, 2⟩, ⟨8, 7⟩], AB, cB, [11], A0, c0, [-1], rfl, ⟨⟨blk_set BC.out 4 (.slice A0 1 c0), (Kd.R_reads' (Kd.R_set E1n.out BC.out (by decide) 4 (.slice A0 1 c0))).2.2, (Kd.R_reads' E1n.out).2.1, (Kd.R_reads' (Kd.R_set E2n.out BC.out (by decide) 4 (.slice A0 1 c0))).2.2, (Kd.R_reads' E2n.out).2.1, (Kd.R_reads' (Kd.R_set E3n.out BC.out (by decide) 4 (.slice A0 1 c0))).2.2, (Kd.R_reads' E3n.out).2.1, LN, H0.out⟩⟩, Q6_, ⟨HBb.out.setCell HSZ.out _⟩⟩
          · as_aux_lemma =>
            have y0 := (blk_cell BC.out 0).trans (show _ = some (.int .i64 2) from rfl)
            have fz0 := blk_frozen BC.out 0
            have y1 := (blk_cell BC.out 1).trans (show _ = some (.slice (some ⟨gL, 0, none⟩) 1 cL) from rfl)
            have fz1 := blk_frozen BC.out 1
            have y2 := (blk_cell BC.out 2).trans (show _ = some (.slice (some ⟨gG, 0, none⟩) 2 cG) from rfl)
            have fz2 := blk_frozen BC.out 2
            have y3 := (blk_cell BC.out 3).trans (show _ = some (.slice AB 1 cB) from rfl)
            have fz3 := blk_frozen BC.out 3
            have y4 := (blk_cell BC.out 4).trans (show _ = some (.slice AD 0 cD) from rfl)
            have fz4 := blk_frozen BC.out 4
            obtain ⟨tl0, tl1, fl0, fl1⟩ := TL.out
            obtain ⟨⟨tg0, tg1, tg2, tg3⟩, fg0, fg1, fg2, fg3⟩ := TG.out
            go_wp2_with fail
            go_meet
            have sf : ∀ q, q ≠ 0 → (wb.setCell ⟨gL, 0, none⟩ (.int .i64 12)).cell? ⟨gL, q, none⟩ = wb.cell? ⟨gL, q, none⟩ := fun q hq => World.cell?_setCell_other _ _ _ _ (fun e => hq (by injection e with _ e _; exact e.symm))
            have ss : (wb.setCell ⟨gL, 0, none⟩ (.int .i64 12)).cell? ⟨gL, 0, none⟩ = some (.int .i64 12) := World.cell?_setCell_same' _ _ _ (by simp [tl0])
            have CN : Kd.C k53 (wb.setCell ⟨gL, 0, none⟩ (.int .i64 12)) (some ⟨gL, 0, none⟩) 1 [⟨12, 2⟩] := C53 (by decide) (fun | 0, _ => ⟨ss, (sf 1 (by decide)).trans tl1⟩ | _ + 1, hi => absurd hi (by simp))
            exact ⟨8, 2, _, cL, [⟨12, 2⟩], _, cG, [⟨4, 2⟩, ⟨8, 7⟩], AB, cB, [11], AD, cD, [], rfl, ⟨⟨(blk_far BC.out (p := ⟨gL, 0, none⟩) NL.out (.int .i64 12)), CN, (Kd.R_reads' E1n.out).2.1, (Kd.R_reads' (Kd.R_set E2n.out HL.out (by decide) 0 (.int .i64 12))).2.2, (Kd.R_reads' E2n.out).2.1, (Kd.R_reads' (Kd.R_set E3n.out HL.out (by decide) 0 (.int .i64 12))).2.2, (Kd.R_reads' E3n.out).2.1, (Kd.R_reads' (Kd.R_set E4n.out HL.out (by decide) 0 (.int .i64 12))).2.2, (Kd.R_reads' E4n.out).2.1⟩⟩, Q7_, ⟨HBb.out.setCell HGL.out _⟩⟩
          · as_aux_lemma =>
            have y0 := (blk_cell BC.out 0).trans (show _ = some (.int .i64 2) from rfl)
            have fz0 := blk_frozen BC.out 0
            have y1 := (blk_cell BC.out 1).trans (show _ = some (.slice (some ⟨gL, 0, none⟩) 1 cL) from rfl)
            have fz1 := blk_frozen BC.out 1
            have y2 := (blk_cell BC.out 2).trans (show _ = some (.slice (some ⟨gG, 0, none⟩) 2 cG) from rfl)
            have fz2 := blk_frozen BC.out 2
            have y3 := (blk_cell BC.out 3).trans (show _ = some (.slice AB 1 cB) from rfl)
            have fz3 := blk_frozen BC.out 3
            have y4 := (blk_cell BC.out 4).trans (show _ = some (.slice AD 0 cD) from rfl)
            have fz4 := blk_frozen BC.out 4
            obtain ⟨tl0, tl1, fl0, fl1⟩ := TL.out
            obtain ⟨⟨tg0, tg1, tg2, tg3⟩, fg0, fg1, fg2, fg3⟩ := TG.out
            go_wp2_with fail
            go_meet
            have sf : ∀ q, q ≠ 0 → (wb.setCell ⟨gL, 0, none⟩ (.int .i64 (-1))).cell? ⟨gL, q, none⟩ = wb.cell? ⟨gL, q, none⟩ := fun q hq => World.cell?_setCell_other _ _ _ _ (fun e => hq (by injection e with _ e _; exact e.symm))
            have ss : (wb.setCell ⟨gL, 0, none⟩ (.int .i64 (-1))).cell? ⟨gL, 0, none⟩ = some (.int .i64 (-1)) := World.cell?_setCell_same' _ _ _ (by simp [tl0])
            have CN : Kd.C k53 (wb.setCell ⟨gL, 0, none⟩ (.int .i64 (-1))) (some ⟨gL, 0, none⟩) 1 [⟨-1, 2⟩] := C53 (by decide) (fun | 0, _ => ⟨ss, (sf 1 (by decide)).trans tl1⟩ | _ + 1, hi => absurd hi (by simp))
            exact ⟨8, 2, _, cL, [⟨-1, 2⟩], _, cG, [⟨4, 2⟩, ⟨8, 7⟩], AB, cB, [11], AD, cD, [], rfl, ⟨⟨(blk_far BC.out (p := ⟨gL, 0, none⟩) NL.out (.int .i64 (-1))), CN, (Kd.R_reads' E1n.out).2.1, (Kd.R_reads' (Kd.R_set E2n.out HL.out (by decide) 0 (.int .i64 (-1)))).2.2, (Kd.R_reads' E2n.out).2.1, (Kd.R_reads' (Kd.R_set E3n.out HL.out (by decide) 0 (.int .i64 (-1)))).2.2, (Kd.R_reads' E3n.out).2.1, (Kd.R_reads' (Kd.R_set E4n.out HL.out (by decide) 0 (.int .i64 (-1)))).2.2, (Kd.R_reads' E4n.out).2.1⟩⟩, Q8_, ⟨HBb.out.setCell HGL.out _⟩⟩
          · as_aux_lemma =>
            have y0 := (blk_cell BC.out 0).trans (show _ = some (.int .i64 2) from rfl)
            have fz0 := blk_frozen BC.out 0
            have y1 := (blk_cell BC.out 1).trans (show _ = some (.slice (some ⟨gL, 0, none⟩) 1 cL) from rfl)
            have fz1 := blk_frozen BC.out 1
            have y2 := (blk_cell BC.out 2).trans (show _ = some (.slice (some ⟨gG, 0, none⟩) 2 cG) from rfl)
            have fz2 := blk_frozen BC.out 2
            have y3 := (blk_cell BC.out 3).trans (show _ = some (.slice AB 1 cB) from rfl)
            have fz3 := blk_frozen BC.out 3
            have y4 := (blk_cell BC.out 4).trans (show _ = some (.slice AD 0 cD) from rfl)
            have fz4 := blk_frozen BC.out 4
            obtain ⟨tl0, tl1, fl0, fl1⟩ := TL.out
            obtain ⟨⟨tg0, tg1, tg2, tg3⟩, fg0, fg1, fg2, fg3⟩ := TG.out
            go_wp2_with fail
            go_meet
            have sf : ∀ q, q ≠ 1 → (wb.setCell ⟨gL, 1, none⟩ (.int .i64 3)).cell? ⟨gL, q, none⟩ = wb.cell? ⟨gL, q, none⟩ := fun q hq => World.cell?_setCell_other _ _ _ _ (fun e => hq (by injection e with _ e _; exact e.symm))
            have ss : (wb.setCell ⟨gL, 1, none⟩ (.int .i64 3)).cell? ⟨gL, 1, none⟩ = some (.int .i64 3) := World.cell?_setCell_same' _ _ _ (by simp [tl1])
            have CN : Kd.C k53 (wb.setCell ⟨gL, 1, none⟩ (.int .i64 3)) (some ⟨gL, 0, none⟩) 1 [⟨10, 3⟩] := C53 (by decide) (fun | 0, _ => ⟨(sf 0 (by decide)).trans tl0, ss⟩ | _ + 1, hi => absurd hi (by simp))
            exact ⟨8, 2, _, cL, [⟨10, 3⟩], _, cG, [⟨4, 2⟩, ⟨8, 7⟩], AB, cB, [11], AD, cD, [], rfl, ⟨⟨(blk_far BC.out (p := ⟨gL, 1, none⟩) NL.out (.int .i64 3)), CN, (Kd.R_reads' E1n.out).2.1, (Kd.R_reads' (Kd.R_set E2n.out HL.out (by decide) 1 (.int .i64 3))).2.2, (Kd.R_reads' E2n.out).2.1, (Kd.R_reads' (Kd.R_set E3n.out HL.out (by decide) 1 (.int .i64 3))).2.2, (Kd.R_reads' E3n.out).2.1, (Kd.R_reads' (Kd.R_set E4n.out HL.out (by decide) 1 (.int .i64 3))).2.2, (Kd.R_reads' E4n.out).2.1⟩⟩, Q9_, ⟨HBb.out.setCell HGL.out _⟩⟩
          · as_aux_lemma =>
            have y0 := (blk_cell BC.out 0).trans (show _ = some (.int .i64 2) from rfl)
            have fz0 := blk_frozen BC.out 0
            have y1 := (blk_cell BC.out 1).trans (show _ = some (.slice (some ⟨gL, 0, none⟩) 1 cL) from rfl)
            have fz1 := blk_frozen BC.out 1
            have y2 := (blk_cell BC.out 2).trans (show _ = some (.slice (some ⟨gG, 0, none⟩) 2 cG) from rfl)
            have fz2 := blk_frozen BC.out 2
            have y3 := (blk_cell BC.out 3).trans (show _ = some (.slice AB 1 cB) from rfl)
            have fz3 := blk_frozen BC.out 3
            have y4 := (blk_cell BC.out 4).trans (show _ = some (.slice AD 0 cD) from rfl)
            have fz4 := blk_frozen BC.out 4
            obtain ⟨tl0, tl1, fl0, fl1⟩ := TL.out
            obtain ⟨⟨tg0, tg1, tg2, tg3⟩, fg0, fg1, fg2, fg3⟩ := TG.out
            go_wp2_with fail
            go_meet
            have sf : ∀ q, q ≠ 1 → (wb.setCell ⟨gL, 1, none⟩ (.int .i64 (-1))).cell? ⟨gL, q, none⟩ = wb.cell? ⟨gL, q, none⟩ := fun q hq => World.cell?_setCell_other _ _ _ _ (fun e => hq (by injection e with _ e _; exact e.symm))
            have ss : (wb.setCell ⟨gL, 1, none⟩ (.int .i64 (-1))).cell? ⟨gL, 1, none⟩ = some (.int .i64 (-1)) := World.cell?_setCell_same' _ _ _ (by simp [tl1])
            have CN : Kd.C k53 (wb.setCell ⟨gL, 1, none⟩ (.int .i64 (-1))) (some ⟨gL, 0, none⟩) 1 [⟨10, -1⟩] := C53 (by decide) (fun | 0, _ => ⟨(sf 0 (by decide)).trans tl0, ss⟩ | _ + 1, hi => absurd hi (by simp))
            exact ⟨8, 2, _, cL, [⟨10, -1⟩], _, cG, [⟨4, 2⟩, ⟨8, 7⟩], AB, cB, [11], AD, cD, [], rfl, ⟨⟨(blk_far BC.out (p := ⟨gL, 1, none⟩) NL.out (.int .i64 (-1))), CN, (Kd.R_reads' E1n.out).2.1, (Kd.R_reads' (Kd.R_set E2n.out HL.out (by decide) 1 (.int .i64 (-1)))).2.2, (Kd.R_reads' E2n.out).2.1, (Kd.R_reads' (Kd.R_set E3n.out HL.out (by decide) 1 (.int .i64 (-1)))).2.2, (Kd.R_reads' E3n.out).2.1, (Kd.R_reads' (Kd.R_set E4n.out HL.out (by decide) 1 (.int .i64 (-1)))).2.2, (Kd.R_reads' E4n.out).2.1⟩⟩, Q10_, ⟨HBb.out.setCell HGL.out _⟩⟩
          · as_aux_lemma =>
            have y0 := (blk_cell BC.out 0).trans (show _ = some (.int .i64 2) from rfl)
            have fz0 := blk_frozen BC.out 0
            have y1 := (blk_cell BC.out 1).trans (show _ = some (.slice (some ⟨gL, 0, none⟩) 1 cL) from rfl)
            have fz1 := blk_frozen BC.out 1
            have y2 := (blk_cell BC.out 2).trans (show _ = some (.slice (some ⟨gG, 0, none⟩) 2 cG) from rfl)
            have fz2 := blk_frozen BC.out 2
            have y3 := (blk_cell BC.out 3).trans (show _ = some (.slice AB 1 cB) from rfl)
            have fz3 := blk_frozen BC.out 3
            have y4 := (blk_cell BC.out 4).trans (show _ = some (.slice AD 0 cD) from rfl)
            have fz4 := blk_frozen BC.out 4
            obtain ⟨tl0, tl1, fl0, fl1⟩ := TL.out
            obtain ⟨⟨tg0, tg1, tg2, tg3⟩, fg0, fg1, fg2, fg3⟩ := TG.out
            go_wp2_with fail
            go_meet
            have sf : ∀ q, q ≠ 2 → (wb.setCell ⟨gG, 2, none⟩ (.int .i64 10)).cell? ⟨gG, q, none⟩ = wb.cell? ⟨gG, q, none⟩ := fun q hq => World.cell?_setCell_other _ _ _ _ (fun e => hq (by injection e with _ e _; exact e.symm))
            have ss : (wb.setCell ⟨gG, 2, none⟩ (.int .i64 10)).cell? ⟨gG, 2, none⟩ = some (.int .i64 10) := World.cell?_setCell_same' _ _ _ (by simp [tg2])
            have CN : Kd.C k50 (wb.setCell ⟨gG, 2, none⟩ (.int .i64 10)) (some ⟨gG, 0, none⟩) 2 [⟨4, 2⟩, ⟨10, 7⟩] := C50 (by decide) (fun | 0, _ => ⟨(sf 0 (by decide)).trans tg0, (sf 1 (by decide)).trans tg1⟩ | 1, _ => ⟨ss, (sf 3 (by decide)).trans tg3⟩ | _ + 2, hi => absurd hi (by simp))
            exact ⟨8, 2, _, cL, [⟨10, 2⟩], _, cG, [⟨4, 2⟩, ⟨10, 7⟩], AB, cB, [11], AD, cD, [], rfl, ⟨⟨(blk_far BC.out (p := ⟨gG, 2, none⟩) NG.out (.int .i64 10)), (Kd.R_reads' (Kd.R_set E1n.out HG.out (by decide) 2 (.int .i64 10))).2.2, (Kd.R_reads' E1n.out).2.1, CN, (Kd.R_reads' E2n.out).2.1, (Kd.R_reads' (Kd.R_set E3n.out HG.out (by decide) 2 (.int .i64 10))).2.2, (Kd.R_reads' E3n.out).2.1, (Kd.R_reads' (Kd.R_set E4n.out HG.out (by decide) 2 (.int .i64 10))).2.2, (Kd.R_reads' E4n.out).2.1⟩⟩, Q11_, ⟨HBb.out.setCell HGG.out _⟩⟩
          · as_aux_lemma =>
            have y0 := (blk_cell BC.out 0).trans (show _ = some (.int .i64 2) from rfl)
            have fz0 := blk_frozen BC.out 0
            have y1 := (blk_cell BC.out 1).trans (show _ = some (.slice (some ⟨gL, 0, none⟩) 1 cL) from rfl)
            have fz1 := blk_frozen BC.out 1
            have y2 := (blk_cell BC.out 2).trans (show _ = some (.slice (some ⟨gG, 0, none⟩) 2 cG) from rfl)
            have fz2 := blk_frozen BC.out 2
            have y3 := (blk_cell BC.out 3).trans (show _ = some (.slice AB 1 cB) from rfl)
            have fz3 := blk_frozen BC.out 3
            have y4 := (blk_cell BC.out 4).trans (show _ = some (.slice AD 0 cD) from rfl)
            have fz4 := blk_frozen BC.out 4
            obtain ⟨tl0, tl1, fl0, fl1⟩ := TL.out
            obtain ⟨⟨tg0, tg1, tg2, tg3⟩, fg0, fg1, fg2, fg3⟩ := TG.out
            go_wp2_with fail
            go_meet
            have sf : ∀ q, q ≠ 3 → (wb.setCell ⟨gG, 3, none⟩ (.int .i64 9)).cell? ⟨gG, q, none⟩ = wb.cell? ⟨gG, q, none⟩ := fun q hq => World.cell?_setCell_other _ _ _ _ (fun e => hq (by injection e with _ e _; exact e.symm))
            have ss : (wb.setCell ⟨gG, 3, none⟩ (.int .i64 9)).cell? ⟨gG, 3, none⟩ = some (.int .i64 9) := World.cell?_setCell_same' _ _ _ (by simp [tg3])
            have CN : Kd.C k50 (wb.setCell ⟨gG, 3, none⟩ (.int .i64 9)) (some ⟨gG, 0, none⟩) 2 [⟨4, 2⟩, ⟨8, 9⟩] := C50 (by decide) (fun | 0, _ => ⟨(sf 0 (by decide)).trans tg0, (sf 1 (by decide)).trans tg1⟩ | 1, _ => ⟨(sf 2 (by decide)).trans tg2, ss⟩ | _ + 2, hi => absurd hi (by simp))
            exact ⟨8, 2, _, cL, [⟨10, 2⟩], _, cG, [⟨4, 2⟩, ⟨8, 9⟩], AB, cB, [11], AD, cD, [], rfl, ⟨⟨(blk_far BC.out (p := ⟨gG, 3, none⟩) NG.out (.int .i64 9)), (Kd.R_reads' (Kd.R_set E1n.out HG.out (by decide) 3 (.int .i64 9))).2.2, (Kd.R_reads' E1n.out).2.1, CN, (Kd.R_reads' E2n.out).2.1, (Kd.R_reads' (Kd.R_set E3n.out HG.out (by decide) 3 (.int .i64 9))).2.2, (Kd.R_reads' E3n.out).2.1, (Kd.R_reads' (Kd.R_set E4n.out HG.out (by decide) 3 (.int .i64 9))).2.2, (Kd.R_reads' E4n.out).2.1⟩⟩, Q12_, ⟨HBb.out.setCell HGG.out _⟩⟩
          · as_aux_lemma =>
            have y0 := (blk_cell BC.out 0).trans (show _ = some (.int .i64 2) from rfl)
            have fz0 := blk_frozen BC.out 0
            have y1 := (blk_cell BC.out 1).trans (show _ = some (.slice (some ⟨gL, 0, none⟩) 1 cL) from rfl)
            have fz1 := blk_frozen BC.out 1
            have y2 := (blk_cell BC.out 2).trans (show _ = some (.slice (some ⟨gG, 0, none⟩) 2 cG) from rfl)
            have fz2 := blk_frozen BC.out 2
            have y3 := (blk_cell BC.out 3).trans (show _ = some (.slice AB 1 cB) from rfl)
            have fz3 := blk_frozen BC.out 3
            have y4 := (blk_cell BC.out 4).trans (show _ = some (.slice AD 0 cD) from rfl)
            have fz4 := blk_frozen BC.out 4
            obtain ⟨tl0, tl1, fl0, fl1⟩ := TL.out
            obtain ⟨⟨tg0, tg1, tg2, tg3⟩, fg0, fg1, fg2, fg3⟩ := TG.out
            go_wp2_with fail
            go_meet
            have sf : ∀ q, q ≠ 1 → (wb.setCell ⟨gG, 1, none⟩ (.int .i64 (-1))).cell? ⟨gG, q, none⟩ = wb.cell? ⟨gG, q, none⟩ := fun q hq => World.cell?_setCell_other _ _ _ _ (fun e => hq (by injection e with _ e _; exact e.symm))
            have ss : (wb.setCell ⟨gG, 1, none⟩ (.int .i64 (-1))).cell? ⟨gG, 1, none⟩ = some (.int .i64 (-1)) := World.cell?_setCell_same' _ _ _ (by simp [tg1])
            have CN : Kd.C k50 (wb.setCell ⟨gG, 1, none⟩ (.int .i64 (-1))) (some ⟨gG, 0, none⟩) 2 [⟨4, -1⟩, ⟨8, 7⟩] := C50 (by decide) (fun | 0, _ => ⟨(sf 0 (by decide)).trans tg0, ss⟩ | 1, _ => ⟨(sf 2 (by decide)).trans tg2, (sf 3 (by decide)).trans tg3⟩ | _ + 2, hi => absurd hi (by simp))
            exact ⟨8, 2, _, cL, [⟨10, 2⟩], _, cG, [⟨4, -1⟩, ⟨8, 7⟩], AB, cB, [11], AD, cD, [], rfl, ⟨⟨(blk_far BC.out (p := ⟨gG, 1, none⟩) NG.out (.int .i64 (-1))), (Kd.R_reads' (Kd.R_set E1n.out HG.out (by decide) 1 (.int .i64 (-1)))).2.2, (Kd.R_reads' E1n.out).2.1, CN, (Kd.R_reads' E2n.out).2.1, (Kd.R_reads' (Kd.R_set E3n.out HG.out (by decide) 1 (.int .i64 (-1)))).2.2, (Kd.R_reads' E3n.out).2.1, (Kd.R_reads' (Kd.R_set E4n.out HG.out (by decide) 1 (.int .i64 (-1)))).2.2, (Kd.R_reads' E4n.out).2.1⟩⟩, Q13_, ⟨HBb.out.setCell HGG.out _⟩⟩
          · as_aux_lemma =>
            have y0 := (blk_cell BC.out 0).trans (show _ = some (.int .i64 2) from rfl)
            have fz0 := blk_frozen BC.out 0
            have y1 := (blk_cell BC.out 1).trans (show _ = some (.slice (some ⟨gL, 0, none⟩) 1 cL) from rfl)
            have fz1 := blk_frozen BC.out 1
            have y2 := (blk_cell BC.out 2).trans (show _ = some (.slice (some ⟨gG, 0, none⟩) 2 cG) from rfl)
            have fz2 := blk_frozen BC.out 2
            have y3 := (blk_cell BC.out 3).trans (show _ = some (.slice AB 1 cB) from rfl)
            have fz3 := blk_frozen BC.out 3
            have y4 := (blk_cell BC.out 4).trans (show _ = some (.slice AD 0 cD) from rfl)
            have fz4 := blk_frozen BC.out 4
            obtain ⟨tl0, tl1, fl0, fl1⟩ := TL.out
            obtain ⟨⟨tg0, tg1, tg2, tg3⟩, fg0, fg1, fg2, fg3⟩ := TG.out
            go_wp2_with fail
            go_meet
            have HG2 := blk_set HG.out 0 (.int .i64 9)
            have sf : ∀ q v (W : World) p, q ≠ p → (W.setCell ⟨gG, p, none⟩ v).cell? ⟨gG, q, none⟩ = W.cell? ⟨gG, q, none⟩ := fun q v W p hq => World.cell?_setCell_other _ _ _ _ (fun e => hq (by injection e with _ e _; exact e.symm))
            have s0 : (wb.setCell ⟨gG, 0, none⟩ (.int .i64 9)).cell? ⟨gG, 0, none⟩ = some (.int .i64 9) := World.cell?_setCell_same' _ _ _ (by simp [tg0])
            have s1 : ((wb.setCell ⟨gG, 0, none⟩ (.int .i64 9)).setCell ⟨gG, 1, none⟩ (.int .i64 0)).cell? ⟨gG, 1, none⟩ = some (.int .i64 0) := World.cell?_setCell_same' _ _ _ (by rw [sf 1 _ _ 0 (by decide), tg1]; rfl)
            have CN : Kd.C k50 ((wb.setCell ⟨gG, 0, none⟩ (.int .i64 9)).setCell ⟨gG, 1, none⟩ (.int .i64 0)) (some ⟨gG, 0, none⟩) 2 [⟨9, 0⟩, ⟨8, 7⟩] := C50 (by decide) (fun | 0, _ => ⟨(sf 0 _ _ 1 (by decide)).trans s0, s1⟩ | 1, _ => ⟨((sf 2 _ _ 1 (by decide)).trans (sf 2 _ _ 0 (by decide))).trans tg2, ((sf 3 _ _ 1 (by decide)).trans (sf 3 _ _ 0 (by decide))).trans tg3⟩ | _ + 2, hi => absurd hi (by simp))
            exact ⟨8, 2, _, cL, [⟨10, 2⟩], _, cG, [⟨9, 0⟩, ⟨8, 7⟩], AB, cB, [11], AD, cD, [], rfl, ⟨⟨(blk_far (p := ⟨gG, 1, none⟩) (blk_far BC.out (p := ⟨gG, 0, none⟩) NG.out (.int .i64 9)) NG.out (.int .i64 0)), (Kd.R_reads' (Kd.R_set (Kd.R_set E1n.out HG.out (by decide) 0 (.int .i64 9)) HG2 (by decide) 1 (.int .i64 0))).2.2, (Kd.R_reads' E1n.out).2.1, CN, (Kd.R_reads' E2n.out).2.1, (Kd.R_reads' (Kd.R_set (Kd.R_set E3n.out HG.out (by decide) 0 (.int .i64 9)) HG2 (by decide) 1 (.int .i64 0))).2.2, (Kd.R_reads' E3n.out).2.1, (Kd.R_reads' (Kd.R_set (Kd.R_set E4n.out HG.out (by decide) 0 (.int .i64 9)) HG2 (by decide) 1 (.int .i64 0))).2.2, (Kd.R_reads' E4n.out).2.1⟩⟩, Q14_, ⟨(HBb.out.setCell HGG.out _).setCell HGG.out _⟩⟩
          · as_aux_lemma =>
            have y0 := (blk_cell BC.out 0).trans (show _ = some (.int .i64 2) from rfl)
            have fz0 := blk_frozen BC.out 0
            have y1 := (blk_cell BC.out 1).trans (show _ = some (.slice (some ⟨gL, 0, none⟩) 1 cL) from rfl)
            have fz1 := blk_frozen BC.out 1
            have y2 := (blk_cell BC.out 2).trans (show _ = some (.slice (some ⟨gG, 0, none⟩) 2 cG) from rfl)
            have fz2 := blk_frozen BC.out 2
            have y3 := (blk_cell BC.out 3).trans (show _ = some (.slice AB 1 cB) from rfl)
            have fz3 := blk_frozen BC.out 3
            have y4 := (blk_cell BC.out 4).trans (show _ = some (.slice AD 0 cD) from rfl)
            have fz4 := blk_frozen BC.out 4
            obtain ⟨tl0, tl1, fl0, fl1⟩ := TL.out
            obtain ⟨⟨tg0, tg1, tg2, tg3⟩, fg0, fg1, fg2, fg3⟩ := TG.out
            go_upto_region 7 with fail
            clear y0 y1 y2 y3 y4 fz0 fz1 fz2 fz3 fz4 tl0 tl1 fl0 fl1 tg0 tg1 tg2 tg3 fg0 fg1 fg2 fg3
            have N_ := Aside0.mk (Kd.R_drew E1n.out); clear E1n; have E1n := N_; clear N_
            have N_ := Aside0.mk (Kd.R_drew E2n.out); clear E2n; have E2n := N_; clear N_
            have N_ := Aside0.mk (Kd.R_drew E3n.out); clear E3n; have E3n := N_; clear N_
            have N_ := Aside0.mk (Kd.R_drew E4n.out); clear E4n; have E4n := N_; clear N_
            have N_ := Aside0.mk (blk_drew BC.out); clear BC; have BC := N_; clear N_
            have N_ := Aside0.mk (below_drew HBb.out); clear HBb; have HBb := N_; clear N_
            refine wp_region_last_drew (S := fun _ => True) (ds := []) (by kernel_rfl) trivial (fun hH => ?_)
            (refine tk_ [1] (v := ?_) (by simp; rfl) (by kernel_rfl) (by exact fun _ _ _ h => h) (Or.inl ⟨by rfl, ?_⟩) hH ?_; rotate_left; (intro _ hS; go_simp; (try with_reducible rfl)); simp only [Act.put, List.setIfInBounds_toArray, List.set_cons_zero, List.set_cons_succ])
            refine wpAnyLast_ready (rs := [0, 2]) (by kernel_rfl) (by simp) (AllReadyL.cons (by simp; rfl) (by decide) (fun K hK => ?_) (AllReadyL.cons (by simp; rfl) (by decide) (fun K hK => ?_) AllReadyL.nil))
            · refine Kd.R_make_step (Kd.int .i64) _ 3 (by rfl) (N := 39) rfl 24 _ _ rfl 101 rfl rfl Try.underlying24 (.int .i64 0) 8 info3 rfl (by decide) (by decide) (0 : Int) (ok := fun _ => True) (okp := fun _ => True) rfl (fun _ hk => hk) trivial (by decide) (by decide) (Below.refl _ _) (Nat.le_refl _) ?_
              intro v1 w1 ho hb hg hn
              clear hg hn
              have N_ := Aside0.mk (Kd.R_below E1n.out hb); clear E1n; have E1n := N_; clear N_; have N_ := Aside0.mk (Kd.R_below E2n.out hb); clear E2n; have E2n := N_; clear N_; have N_ := Aside0.mk (Kd.R_below E3n.out hb); clear E3n; have E3n := N_; clear N_; have N_ := Aside0.mk (Kd.R_below E4n.out hb); clear E4n; have E4n := N_; clear N_; have N_ := Aside0.mk (blk_below BC.out hb); clear BC; have BC := N_; clear N_; have N_ := Aside0.mk (below_step HBb.out hb); clear HBb; have HBb := N_; clear N_
              replace ho : Kd.R (Kd.int .i64) 3 w1 _ (fun _ => True) v1 (List.replicate 101 0) := ho
              obtain ⟨A0, c0, rfl⟩ := Kd.R_slice ho
              have LR := Aside0.mk ho
              have H0 := Aside0.mk (Kd.R_reads' ho).2.1
              clear ho hb
              refine hK.out _ _ trivial (fun hH => ?_)
              clear hK K
              have y0 := (blk_cell BC.out 0).trans (show _ = some (.int .i64 2) from rfl); have fz0 := blk_frozen BC.out 0
              refine os_ 2 (by simp; rfl) (by kernel_rfl) (fun K hK => ?_)
              go_simp
              refine hK.out _ _ trivial (fun hH => ?_)
              clear hK K
              have BD := blk_set BC.out 0 (.int .i64 (-1))
              have y3 := (blk_cell BD 3).trans (show _ = some (.slice AB 1 cB) from rfl)
              have fz3 := blk_frozen BD 3
              (refine tk_ [1,0,0,3] (v := ?_) (by simp; rfl) (by kernel_rfl) (by exact fun _ _ _ h => h) (Or.inl ⟨by rfl, ?_⟩) hH ?_; rotate_left; (intro _ hS; go_simp; (try with_reducible rfl)); simp only [Act.put, List.setIfInBounds_toArray, List.set_cons_zero, List.set_cons_succ])
              refine os_ 4 (by simp; rfl) (by kernel_rfl) (fun K hK => ?_)
              go_simp
              refine hK.out _ _ trivial (fun hH => ?_)
              clear hK K
              refine os_ 5 (by simp; rfl) (by kernel_rfl) (fun K hK => ?_)
              go_simp
              refine hK.out _ _ trivial (fun hH => ?_)
              clear hK K
              refine wpAnyLast_done (by kernel_rfl) ?_ _
              go_wp2_with fail
              go_meet
              have LN : Kd.C (Kd.int .i64) ((w1.setCell ⟨gc, 0, none⟩ (.int .i64 (-1))).setCell ⟨gc, 3, none⟩ (.slice A0 101 c0)) A0 101 (List.replicate 101 0) := (Kd.R_reads' (Kd.R_set (Kd.R_set LR.out BC.out (by decide) 0 (.int .i64 (-1))) BD (by decide) 3 (.slice A0 101 c0))).2.2
              exact ⟨8, (-1), _, cL, [⟨10, 2⟩], _, cG, [⟨4, 2⟩, ⟨8, 7⟩], A0, c0, (List.replicate 101 0), AD, cD, [], rfl, ⟨⟨blk_set BD 3 (.slice A0 101 c0), (Kd.R_reads' (Kd.R_set (Kd.R_set E1n.out BC.out (by decide) 0 (.int .i64 (-1))) BD (by decide) 3 (.slice A0 101 c0))).2.2, (Kd.R_reads' E1n.out).2.1, (Kd.R_reads' (Kd.R_set (Kd.R_set E2n.out BC.out (by decide) 0 (.int .i64 (-1))) BD (by decide) 3 (.slice A0 101 c0))).2.2, (Kd.R_reads' E2n.out).2.1, LN, H0.out, (Kd.R_reads' (Kd.R_set (Kd.R_set E4n.out BC.out (by decide) 0 (.int .i64 (-1))) BD (by decide) 3 (.slice A0 101 c0))).2.2, (Kd.R_reads' E4n.out).2.1⟩⟩, Q15_, ⟨(HBb.out.setCell HSZ.out _).setCell HSZ.out _⟩⟩
            · have y0 := (blk_cell BC.out 0).trans (show _ = some (.int .i64 2) from rfl); have fz0 := blk_frozen BC.out 0
              go_simp
              refine hK.out _ _ trivial (fun hH => ?_)
              clear hK K y0 fz0
              have N_ := Aside0.mk (Kd.R_set E1n.out BC.out (by decide) 0 (.int .i64 (-1))); clear E1n; have E1n := N_; clear N_
              have N_ := Aside0.mk (Kd.R_set E2n.out BC.out (by decide) 0 (.int .i64 (-1))); clear E2n; have E2n := N_; clear N_
              have N_ := Aside0.mk (Kd.R_set E3n.out BC.out (by decide) 0 (.int .i64 (-1))); clear E3n; have E3n := N_; clear N_
              have N_ := Aside0.mk (Kd.R_set E4n.out BC.out (by decide) 0 (.int .i64 (-1))); clear E4n; have E4n := N_; clear N_
              have N_ := Aside0.mk (blk_set BC.out 0 (.int .i64 (-1))); clear BC; have BC := N_; clear N_
              have N_ := Aside0.mk (HBb.out.setCell (p := ⟨gc, 0, none⟩) HSZ.out (.int .i64 (-1))); clear HBb; have HBb := N_; clear N_
              refine os_ 0 (by simp; rfl) (by kernel_rfl) (fun K hK => ?_)
              refine Kd.R_make_step (Kd.int .i64) _ 3 (by rfl) (N := 39) rfl 24 _ _ rfl 101 rfl rfl Try.underlying24 (.int .i64 0) 8 info3 rfl (by decide) (by decide) (0 : Int) (ok := fun _ => True) (okp := fun _ => True) rfl (fun _ hk => hk) trivial (by decide) (by decide) (Below.refl _ _) (Nat.le_refl _) ?_
              intro v1 w1 ho hb hg hn
              clear hg hn
              have N_ := Aside0.mk (Kd.R_below E1n.out hb); clear E1n; have E1n := N_; clear N_; have N_ := Aside0.mk (Kd.R_below E2n.out hb); clear E2n; have E2n := N_; clear N_; have N_ := Aside0.mk (Kd.R_below E3n.out hb); clear E3n; have E3n := N_; clear N_; have N_ := Aside0.mk (Kd.R_below E4n.out hb); clear E4n; have E4n := N_; clear N_; have N_ := Aside0.mk (blk_below BC.out hb); clear BC; have BC := N_; clear N_; have N_ := Aside0.mk (below_step HBb.out hb); clear HBb; have HBb := N_; clear N_
              replace ho : Kd.R (Kd.int .i64) 3 w1 _ (fun _ => True) v1 (List.replicate 101 0) := ho
              obtain ⟨A0, c0, rfl⟩ := Kd.R_slice ho
              have LR := Aside0.mk ho
              have H0 := Aside0.mk (Kd.R_reads' ho).2.1
              clear ho hb
              refine hK.out _ _ trivial (fun hH => ?_)
              clear hK K
              have y3 := (blk_cell BC.out 3).trans (show _ = some (.slice AB 1 cB) from rfl)
              have fz3 := blk_frozen BC.out 3
              (refine tk_ [1,0,0,3] (v := ?_) (by simp; rfl) (by kernel_rfl) (by exact fun _ _ _ h => h) (Or.inl ⟨by rfl, ?_⟩) hH ?_; rotate_left; (intro _ hS; go_simp; (try with_reducible rfl)); simp only [Act.put, List.setIfInBounds_toArray, List.set_cons_zero, List.set_cons_succ])
              refine os_ 4 (by simp; rfl) (by kernel_rfl) (fun K hK => ?_)
              go_simp
              refine hK.out _ _ trivial (fun hH => ?_)
              clear hK K
              refine os_ 5 (by simp; rfl) (by kernel_rfl) (fun K hK => ?_)
              go_simp
              refine hK.out _ _ trivial (fun hH => ?_)
              clear hK K
              refine wpAnyLast_done (by kernel_rfl) ?_ _
              go_wp2_with fail
              go_meet
              have LN : Kd.C (Kd.int .i64) (w1.setCell ⟨gc, 3, none⟩ (.slice A0 101 c0)) A0 101 (List.replicate 101 0) := (Kd.R_reads' (Kd.R_set LR.out BC.out (by decide) 3 (.slice A0 101 c0))).2.2
              exact ⟨8, (-1), _, cL, [⟨10, 2⟩], _, cG, [⟨4, 2⟩, ⟨8, 7⟩], A0, c0, (List.replicate 101 0), AD, cD, [], rfl, ⟨⟨blk_set BC.out 3 (.slice A0 101 c0), (Kd.R_reads' (Kd.R_set E1n.out BC.out (by decide) 3 (.slice A0 101 c0))).2.2, (Kd.R_reads' E1n.out).2.1, (Kd.R_reads' (Kd.R_set E2n.out BC.out (by decide) 3 (.slice A0 101 c0))).2.2, (Kd.R_reads' E2n.out).2.1, LN, H0.out, (Kd.R_reads' (Kd.R_set E4n.out BC.out (by decide) 3 (.slice A0 101 c0))).2.2, (Kd.R_reads' E4n.out).2.1⟩⟩, Q15_, ⟨HBb.out.setCell HSZ.out _⟩⟩
        case rest =>
        obtain ⟨e, a, A1, c1, L, A2, c2, G, A3, c3, B, A4, c4, D, rfl, HX, HQ, HB⟩ := hcut
        clear E1n E2n E3n E4n HL HG HBb HSZ BC TL TG NL NG NLG
        have y0 := (blk_cell HX.out.box 0).trans (show _ = some (.int .i64 a) from rfl)
        have y1 := (blk_cell HX.out.box 1).trans (show _ = some (.slice A1 L.length c1) from rfl)
        have y2 := (blk_cell HX.out.box 2).trans (show _ = some (.slice A2 G.length c2) from rfl)
        have y3 := (blk_cell HX.out.box 3).trans (show _ = some (.slice A3 B.length c3) from rfl)
        have y4 := (blk_cell HX.out.box 4).trans (show _ = some (.slice A4 D.length c4) from rfl)
        go_upto_region 39 with ((with_reducible refine gate_callee (f := 12) rfl ?_); refine goesL_ (some 117) rfl rfl Try.func12 (by kernel_rfl) rfl #[.agg #[.int .i64 a, .slice A1 L.length c1, .slice A2 G.length c2, .slice A3 B.length c3, .slice A4 D.length c4]] rfl (by (try simp only [List.map_toArray, List.map_cons, List.map_nil]); first | done | rfl) ?_; (refine (gates_Vars.calls a _ _ L _ _ G _ _ B _ _ D 0 e _ ?s0 ?s1 ?s2 ?s3 ?s4 ?s5 ?s6 ?s7 HQ.out.v).mono ?_); (case s0 => exact HX.out.h1); (case s1 => exact HX.out.l1); (case s2 => exact HX.out.h2); (case s3 => exact HX.out.l2); (case s4 => exact HX.out.h3); (case s5 => exact HX.out.l3); (case s6 => exact HX.out.h4); (case s7 => exact HX.out.l4); rintro e w5 ⟨rfl, hb⟩; refine ⟨_, rfl, ?_⟩; have N_ := Aside0.mk (HX.out.below hb); clear HX; have HX := N_; clear N_; have N_ := Aside0.mk (below_step HB.out hb); clear HB; have HB := N_; clear N_; clear hb)
        clear y0 y1 y2 y3 y4
        have y0 := (blk_cell HX.out.box 0).trans (show _ = some (.int .i64 a) from rfl)
        have y1 := (blk_cell HX.out.box 1).trans (show _ = some (.slice A1 L.length c1) from rfl)
        have y2 := (blk_cell HX.out.box 2).trans (show _ = some (.slice A2 G.length c2) from rfl)
        have y3 := (blk_cell HX.out.box 3).trans (show _ = some (.slice A3 B.length c3) from rfl)
        have y4 := (blk_cell HX.out.box 4).trans (show _ = some (.slice A4 D.length c4) from rfl)
        go_upto_region 40 with ((with_reducible refine gate_callee (f := 14) rfl ?_); refine goesL_ (some 122) rfl rfl Try.func14 (by kernel_rfl) rfl #[.agg #[.int .i64 a, .slice A1 L.length c1, .slice A2 G.length c2, .slice A3 B.length c3, .slice A4 D.length c4], .int .i64 (-1)] rfl (by (try simp only [List.map_toArray, List.map_cons, List.map_nil]); first | done | rfl) ?_; (refine (gates_Kind.calls a _ _ L _ _ G _ _ B _ _ D (-1) 0 0 e _ ?s0 ?s1 ?s2 ?s3 ?s4 ?s5 ?s6 ?s7 HQ.out.i).mono ?_); (case s0 => exact HX.out.h1); (case s1 => exact HX.out.l1); (case s2 => exact HX.out.h2); (case s3 => exact HX.out.l2); (case s4 => exact HX.out.h3); (case s5 => exact HX.out.l3); (case s6 => exact HX.out.h4); (case s7 => exact HX.out.l4); rintro e w5 ⟨rfl, hb⟩; refine ⟨_, rfl, ?_⟩; have N_ := Aside0.mk (HX.out.below hb); clear HX; have HX := N_; clear N_; have N_ := Aside0.mk (below_step HB.out hb); clear HB; have HB := N_; clear N_; clear hb)
        clear y0 y1 y2 y3 y4
        have y0 := (blk_cell HX.out.box 0).trans (show _ = some (.int .i64 a) from rfl)
        have y1 := (blk_cell HX.out.box 1).trans (show _ = some (.slice A1 L.length c1) from rfl)
        have y2 := (blk_cell HX.out.box 2).trans (show _ = some (.slice A2 G.length c2) from rfl)
        have y3 := (blk_cell HX.out.box 3).trans (show _ = some (.slice A3 B.length c3) from rfl)
        have y4 := (blk_cell HX.out.box 4).trans (show _ = some (.slice A4 D.length c4) from rfl)
        go_upto_region 41 with ((with_reducible refine gate_callee (f := 19) rfl ?_); refine goesL_ (some 128) rfl rfl Try.func19 (by kernel_rfl) rfl #[.agg #[.int .i64 a, .slice A1 L.length c1, .slice A2 G.length c2, .slice A3 B.length c3, .slice A4 D.length c4], .int .i64 (-1)] rfl (by (try simp only [List.map_toArray, List.map_cons, List.map_nil]); first | done | rfl) ?_; (refine (gates_Cone.calls k a _ _ L _ _ G _ _ B _ _ D (-1) [] e _ ?s0 ?s1 ?s2 ?s3 ?s4 ?s5 ?s6 ?s7 HQ.out.c).mono ?_); (case s0 => exact HX.out.h1); (case s1 => exact HX.out.l1); (case s2 => exact HX.out.h2); (case s3 => exact HX.out.l2); (case s4 => exact HX.out.h3); (case s5 => exact HX.out.l3); (case s6 => exact HX.out.h4); (case s7 => exact HX.out.l4); rintro e w5 ⟨v, rfl, ho, hb⟩; refine ⟨_, rfl, ?_⟩; have N_ := Aside0.mk (HX.out.below hb); clear HX; have HX := N_; clear N_; have N_ := Aside0.mk (below_step HB.out hb); clear HB; have HB := N_; clear N_; clear hb ho)
        clear y0 y1 y2 y3 y4
        have y0 := (blk_cell HX.out.box 0).trans (show _ = some (.int .i64 a) from rfl)
        have y1 := (blk_cell HX.out.box 1).trans (show _ = some (.slice A1 L.length c1) from rfl)
        have y2 := (blk_cell HX.out.box 2).trans (show _ = some (.slice A2 G.length c2) from rfl)
        have y3 := (blk_cell HX.out.box 3).trans (show _ = some (.slice A3 B.length c3) from rfl)
        have y4 := (blk_cell HX.out.box 4).trans (show _ = some (.slice A4 D.length c4) from rfl)
        go_upto_region 42 with ((with_reducible refine gate_callee (f := 21) rfl ?_); refine goesL_ (some 133) rfl rfl Try.func21 (by kernel_rfl) rfl #[.agg #[.int .i64 a, .slice A1 L.length c1, .slice A2 G.length c2, .slice A3 B.length c3, .slice A4 D.length c4]] rfl (by (try simp only [List.map_toArray, List.map_cons, List.map_nil]); first | done | rfl) ?_; (refine (gates_Depth.calls k a _ _ L _ _ G _ _ B _ _ D 0 e _ ?s0 ?s1 ?s2 ?s3 ?s4 ?s5 ?s6 ?s7 HQ.out.d).mono ?_); (case s0 => exact HX.out.h1); (case s1 => exact HX.out.l1); (case s2 => exact HX.out.h2); (case s3 => exact HX.out.l2); (case s4 => exact HX.out.h3); (case s5 => exact HX.out.l3); (case s6 => exact HX.out.h4); (case s7 => exact HX.out.l4); rintro e w5 ⟨rfl, hb⟩; refine ⟨_, rfl, ?_⟩; have N_ := Aside0.mk (HX.out.below hb); clear HX; have HX := N_; clear N_; have N_ := Aside0.mk (below_step HB.out hb); clear HB; have HB := N_; clear N_; clear hb)
        clear y0 y1 y2 y3 y4
        have y0 := (blk_cell HX.out.box 0).trans (show _ = some (.int .i64 a) from rfl)
        have y1 := (blk_cell HX.out.box 1).trans (show _ = some (.slice A1 L.length c1) from rfl)
        have y2 := (blk_cell HX.out.box 2).trans (show _ = some (.slice A2 G.length c2) from rfl)
        have y3 := (blk_cell HX.out.box 3).trans (show _ = some (.slice A3 B.length c3) from rfl)
        have y4 := (blk_cell HX.out.box 4).trans (show _ = some (.slice A4 D.length c4) from rfl)
        have hw1 : wrap64 (i + 1) = i + 1 := by have h1 := HI.out; have h2 := HC.out; unfold wrap64; omega
        have hw2 : IntKind.i64.wrap (i + 1) = i + 1 := by rw [IntKind.wrap_i64]; have h1 := HI.out; have h2 := HC.out; omega
        go_wp2_with ((with_reducible refine gate_callee (f := 16) rfl ?_); refine goesL_ (some 137) rfl rfl Try.func16 (by kernel_rfl) rfl #[.agg #[.int .i64 a, .slice A1 L.length c1, .slice A2 G.length c2, .slice A3 B.length c3, .slice A4 D.length c4]] rfl (by (try simp only [List.map_toArray, List.map_cons, List.map_nil]); first | done | rfl) ?_; (refine (gates_Check.calls a _ _ L _ _ G _ _ B _ _ D e _ ?s0 ?s1 ?s2 ?s3 ?s4 ?s5 ?s6 ?s7 HQ.out.t).mono ?_); (case s0 => exact HX.out.h1); (case s1 => exact HX.out.l1); (case s2 => exact HX.out.h2); (case s3 => exact HX.out.l2); (case s4 => exact HX.out.h3); (case s5 => exact HX.out.l3); (case s6 => exact HX.out.h4); (case s7 => exact HX.out.l4); rintro e w5 ⟨rfl, hb⟩; refine ⟨_, rfl, ?_⟩; have N_ := Aside0.mk (HX.out.below hb); clear HX; have HX := N_; clear N_; have N_ := Aside0.mk (below_step HB.out hb); clear HB; have HB := N_; clear N_; clear hb)
        go_roundg (gk - 1)
        case rel => exact ⟨i + 1, congrArg (Value.int .i64) (by first | rfl | exact hw1 | exact hw2 | omega), ⟨by have := HI.out; omega, by have := HC.out; omega, by have := HI.out; have := HC.out; omega⟩, HB⟩
        case measure => have := HI.out; have := HC.out; omega
      · have hi : i = 16 := by have := HI.out; omega
        subst hi
        go_wp2_with fail
        go_meet
        exact HBI
  case rest =>
  have HB := hcut
  clear hcut HBW Q0_ Q1_ Q2_ Q3_ Q4_ Q5_ Q6_ Q7_ Q8_ Q9_ Q10_ Q11_ Q12_ Q13_ Q14_ Q15_
  go_upto_block 3 with (first
    | ((with_reducible refine gate_dst (N := 160) rfl ?_); refine Kd.R_lit (Kd.int .i64) _ 3 ?hg (N := 160) ?hd (xs := ([0, 1, 1, 2, 3, 3] : List Int)) (inner := [.int .i64 0, .int .i64 1, .int .i64 1, .int .i64 2, .int .i64 3, .int .i64 3]) (ok := fun _ => True) (okp := fun _ => True) ?hr ?hp (fun _ hk => hk) trivial (Below.refl _ _) (Nat.le_refl _) (by simp) ?_; (case hd => rfl); (case hg => rfl); (case hr => first | (go_simp; done) | (go_simp; rfl)); (case hp => exact (Reps.one (show Kd.M (Kd.int .i64) _ _ _ 0 [.int .i64 0] from rfl) (Reps.one (show Kd.M (Kd.int .i64) _ _ _ 1 [.int .i64 1] from rfl) (Reps.one (show Kd.M (Kd.int .i64) _ _ _ 1 [.int .i64 1] from rfl) (Reps.one (show Kd.M (Kd.int .i64) _ _ _ 2 [.int .i64 2] from rfl) (Reps.one (show Kd.M (Kd.int .i64) _ _ _ 3 [.int .i64 3] from rfl) (Reps.one (show Kd.M (Kd.int .i64) _ _ _ 3 [.int .i64 3] from rfl) (Reps.none _ _)))))))); intro v1 wk0 ho hb hg hn; clear hg hn; have N_ := Aside0.mk (below_step HB.out hb); clear HB; have HB := N_; clear N_; obtain ⟨AK, cK, rfl⟩ := Kd.R_slice ho; have LK := Aside0.mk (Kd.R_reads' ho).2.2; have HK := Aside0.mk (Kd.R_reads' ho).2.1; clear ho hb)
    | ((with_reducible refine gate_dst (N := 161) rfl ?_); refine Kd.R_lit (Kd.int .i64) _ 3 ?hg (N := 161) ?hd (xs := ([0, 0, 1, 0, 0, 1] : List Int)) (inner := [.int .i64 0, .int .i64 0, .int .i64 1, .int .i64 0, .int .i64 0, .int .i64 1]) (ok := fun _ => True) (okp := fun _ => True) ?hr ?hp (fun _ hk => hk) trivial (Below.refl _ _) (Nat.le_refl _) (by simp) ?_; (case hd => rfl); (case hg => rfl); (case hr => first | (go_simp; done) | (go_simp; rfl)); (case hp => exact (Reps.one (show Kd.M (Kd.int .i64) _ _ _ 0 [.int .i64 0] from rfl) (Reps.one (show Kd.M (Kd.int .i64) _ _ _ 0 [.int .i64 0] from rfl) (Reps.one (show Kd.M (Kd.int .i64) _ _ _ 1 [.int .i64 1] from rfl) (Reps.one (show Kd.M (Kd.int .i64) _ _ _ 0 [.int .i64 0] from rfl) (Reps.one (show Kd.M (Kd.int .i64) _ _ _ 0 [.int .i64 0] from rfl) (Reps.one (show Kd.M (Kd.int .i64) _ _ _ 1 [.int .i64 1] from rfl) (Reps.none _ _)))))))); intro v1 wk ho hb hg hn; clear hg hn; have N_ := Aside0.mk (below_step HB.out hb); clear HB; have HB := N_; clear N_; have N_ := Aside0.mk (Kd.C_below LK.out hb); clear LK; have LK := N_; clear N_; obtain ⟨AJ, cJ, rfl⟩ := Kd.R_slice ho; have LJ := Aside0.mk (Kd.R_reads' ho).2.2; have HJ := Aside0.mk (Kd.R_reads' ho).2.1; clear ho hb))
  obtain ⟨ak, rfl, -⟩ := Kd.at_int LK.out 0 (by decide) (by decide)
  obtain ⟨aj, rfl, -⟩ := Kd.at_int LJ.out 0 (by decide) (by decide)
  have HBK := HB
  clear HB
  go_cut [] (fun wx => Aside0 (Below w.heap.size w wx))
  case first =>
    go_wp2
    go_loopg [15] 7 (fun kq v15 w' => ∃ i : Int, v15 = .int .i64 i ∧ Aside0 (0 ≤ i ∧ i ≤ 6 ∧ (kq : Int) + i = 7) ∧ Aside0 (Below wk.heap.size wk w'))
    case atStart => exact ⟨0, rfl, ⟨by omega, by omega, by omega⟩, ⟨Below.refl _ _⟩⟩
    case round =>
      obtain ⟨i, rfl, HI, HBI⟩ := hrel
      rcases (show i = 0 ∨ i = 1 ∨ i = 2 ∨ i = 3 ∨ i = 4 ∨ i = 5 ∨ i = 6 by have h1 := HI.out; omega) with rfl | rfl | rfl | rfl | rfl | rfl | rfl
      · as_aux_lemma =>
        have hbi := HBI
        go_upto_region 50 with (first
          | ((with_reducible refine gate_callee (f := 28) rfl ?_); refine goesL_ (some 167) rfl rfl Try.func28 (by kernel_rfl) rfl #[] rfl (by (try simp only [List.map_toArray, List.map_cons, List.map_nil]); first | done | rfl) ?_; (refine (spiritlevellaw02_example.calls 2 [⟨10, 2⟩] [⟨4, 2⟩, ⟨8, 7⟩] [11] [] _ rfl).mono ?_); rintro e we ⟨v1, v2, v3, v4, rfl, h1, h2, h3, h4, hb⟩; refine ⟨_, rfl, ?_⟩; have N_ := Aside0.mk (below_step HBI.out hb); clear HBI; have HBI := N_; clear N_; obtain ⟨X1, d1, rfl⟩ := Kd.R_slice h1; obtain ⟨X2, d2, rfl⟩ := Kd.R_slice h2; obtain ⟨X3, d3, rfl⟩ := Kd.R_slice h3; obtain ⟨X4, d4, rfl⟩ := Kd.R_slice h4; have J1 := Aside0.mk (Kd.R_reads' h1).2.2; have M1 := Aside0.mk (Kd.R_reads' h1).2.1; have J2 := Aside0.mk (Kd.R_reads' h2).2.2; have M2 := Aside0.mk (Kd.R_reads' h2).2.1; have J3 := Aside0.mk (Kd.R_reads' h3).2.2; have M3 := Aside0.mk (Kd.R_reads' h3).2.1; have J4 := Aside0.mk (Kd.R_reads' h4).2.2; have M4 := Aside0.mk (Kd.R_reads' h4).2.1; clear hb h1 h2 h3 h4)
          | ((with_reducible refine gate_callee (f := 14) rfl ?_); refine goesL_ (some 169) rfl rfl Try.func14 (by kernel_rfl) rfl #[.agg #[.int .i64 2, .slice X1 ([⟨10, 2⟩] : List S53).length d1, .slice X2 ([⟨4, 2⟩, ⟨8, 7⟩] : List S50).length d2, .slice X3 ([11] : List Int).length d3, .slice X4 ([] : List Int).length d4], .int .i64 0] rfl (by (try simp only [List.map_toArray, List.map_cons, List.map_nil]); first | done | rfl) ?_; (refine (gates_Kind.calls 2 _ _ [⟨10, 2⟩] _ _ [⟨4, 2⟩, ⟨8, 7⟩] _ _ [11] _ _ [] 0 0 0 0 _ ?s0 ?s1 ?s2 ?s3 ?s4 ?s5 ?s6 ?s7 D0_.out).mono ?_); (case s0 => exact J1.out); (case s1 => exact M1.out); (case s2 => exact J2.out); (case s3 => exact M2.out); (case s4 => exact J3.out); (case s5 => exact M3.out); (case s6 => exact J4.out); (case s7 => exact M4.out); rintro e w5 ⟨rfl, hb⟩; refine ⟨_, rfl, ?_⟩; have N_ := Aside0.mk (below_step HBI.out hb); clear HBI; have HBI := N_; clear N_; clear hb J1 J2 J3 J4 M1 M2 M3 M4))
        clear hbi
        obtain ⟨ad, e1, x1⟩ := Kd.at_int (Kd.C_below LK.out HBI.out) 0 (by decide) (by decide)
        obtain rfl := Option.some.inj e1
        obtain ⟨ad, e2, x2⟩ := Kd.at_int (Kd.C_below LJ.out HBI.out) 0 (by decide) (by decide)
        obtain rfl := Option.some.inj e2
        have x3 := x1.trans (show _ = some (.int .i64 0) from rfl)
        have x4 := x2.trans (show _ = some (.int .i64 0) from rfl)
        clear x1 x2
        have x1 := x3
        have x2 := x4
        rw [show Int.toNat 0 = 0 from rfl] at x3 x4
        try simp [Addr.add] at x1 x2
        clear e1 e2
        go_wp2
        go_roundg (gk - 1)
        case rel => exact ⟨1, rfl, ⟨by omega, by omega, by have := HI.out; omega⟩, HBI⟩
        case measure => have := HI.out; omega
      · as_aux_lemma =>
        have hbi := HBI
        go_upto_region 50 with (first
          | ((with_reducible refine gate_callee (f := 28) rfl ?_); refine goesL_ (some 167) rfl rfl Try.func28 (by kernel_rfl) rfl #[] rfl (by (try simp only [List.map_toArray, List.map_cons, List.map_nil]); first | done | rfl) ?_; (refine (spiritlevellaw02_example.calls 2 [⟨10, 2⟩] [⟨4, 2⟩, ⟨8, 7⟩] [11] [] _ rfl).mono ?_); rintro e we ⟨v1, v2, v3, v4, rfl, h1, h2, h3, h4, hb⟩; refine ⟨_, rfl, ?_⟩; have N_ := Aside0.mk (below_step HBI.out hb); clear HBI; have HBI := N_; clear N_; obtain ⟨X1, d1, rfl⟩ := Kd.R_slice h1; obtain ⟨X2, d2, rfl⟩ := Kd.R_slice h2; obtain ⟨X3, d3, rfl⟩ := Kd.R_slice h3; obtain ⟨X4, d4, rfl⟩ := Kd.R_slice h4; have J1 := Aside0.mk (Kd.R_reads' h1).2.2; have M1 := Aside0.mk (Kd.R_reads' h1).2.1; have J2 := Aside0.mk (Kd.R_reads' h2).2.2; have M2 := Aside0.mk (Kd.R_reads' h2).2.1; have J3 := Aside0.mk (Kd.R_reads' h3).2.2; have M3 := Aside0.mk (Kd.R_reads' h3).2.1; have J4 := Aside0.mk (Kd.R_reads' h4).2.2; have M4 := Aside0.mk (Kd.R_reads' h4).2.1; clear hb h1 h2 h3 h4)
          | ((with_reducible refine gate_callee (f := 14) rfl ?_); refine goesL_ (some 169) rfl rfl Try.func14 (by kernel_rfl) rfl #[.agg #[.int .i64 2, .slice X1 ([⟨10, 2⟩] : List S53).length d1, .slice X2 ([⟨4, 2⟩, ⟨8, 7⟩] : List S50).length d2, .slice X3 ([11] : List Int).length d3, .slice X4 ([] : List Int).length d4], .int .i64 1] rfl (by (try simp only [List.map_toArray, List.map_cons, List.map_nil]); first | done | rfl) ?_; (refine (gates_Kind.calls 2 _ _ [⟨10, 2⟩] _ _ [⟨4, 2⟩, ⟨8, 7⟩] _ _ [11] _ _ [] 1 1 0 0 _ ?s0 ?s1 ?s2 ?s3 ?s4 ?s5 ?s6 ?s7 D1_.out).mono ?_); (case s0 => exact J1.out); (case s1 => exact M1.out); (case s2 => exact J2.out); (case s3 => exact M2.out); (case s4 => exact J3.out); (case s5 => exact M3.out); (case s6 => exact J4.out); (case s7 => exact M4.out); rintro e w5 ⟨rfl, hb⟩; refine ⟨_, rfl, ?_⟩; have N_ := Aside0.mk (below_step HBI.out hb); clear HBI; have HBI := N_; clear N_; clear hb J1 J2 J3 J4 M1 M2 M3 M4))
        clear hbi
        obtain ⟨ad, e1, x1⟩ := Kd.at_int (Kd.C_below LK.out HBI.out) 1 (by decide) (by decide)
        obtain rfl := Option.some.inj e1
        obtain ⟨ad, e2, x2⟩ := Kd.at_int (Kd.C_below LJ.out HBI.out) 1 (by decide) (by decide)
        obtain rfl := Option.some.inj e2
        have x3 := x1.trans (show _ = some (.int .i64 1) from rfl)
        have x4 := x2.trans (show _ = some (.int .i64 0) from rfl)
        clear x1 x2
        have x1 := x3
        have x2 := x4
        rw [show Int.toNat 1 = 1 from rfl] at x3 x4
        try simp [Addr.add] at x1 x2
        clear e1 e2
        go_wp2
        go_roundg (gk - 1)
        case rel => exact ⟨2, rfl, ⟨by omega, by omega, by have := HI.out; omega⟩, HBI⟩
        case measure => have := HI.out; omega
      · as_aux_lemma =>
        have hbi := HBI
        go_upto_region 50 with (first
          | ((with_reducible refine gate_callee (f := 28) rfl ?_); refine goesL_ (some 167) rfl rfl Try.func28 (by kernel_rfl) rfl #[] rfl (by (try simp only [List.map_toArray, List.map_cons, List.map_nil]); first | done | rfl) ?_; (refine (spiritlevellaw02_example.calls 2 [⟨10, 2⟩] [⟨4, 2⟩, ⟨8, 7⟩] [11] [] _ rfl).mono ?_); rintro e we ⟨v1, v2, v3, v4, rfl, h1, h2, h3, h4, hb⟩; refine ⟨_, rfl, ?_⟩; have N_ := Aside0.mk (below_step HBI.out hb); clear HBI; have HBI := N_; clear N_; obtain ⟨X1, d1, rfl⟩ := Kd.R_slice h1; obtain ⟨X2, d2, rfl⟩ := Kd.R_slice h2; obtain ⟨X3, d3, rfl⟩ := Kd.R_slice h3; obtain ⟨X4, d4, rfl⟩ := Kd.R_slice h4; have J1 := Aside0.mk (Kd.R_reads' h1).2.2; have M1 := Aside0.mk (Kd.R_reads' h1).2.1; have J2 := Aside0.mk (Kd.R_reads' h2).2.2; have M2 := Aside0.mk (Kd.R_reads' h2).2.1; have J3 := Aside0.mk (Kd.R_reads' h3).2.2; have M3 := Aside0.mk (Kd.R_reads' h3).2.1; have J4 := Aside0.mk (Kd.R_reads' h4).2.2; have M4 := Aside0.mk (Kd.R_reads' h4).2.1; clear hb h1 h2 h3 h4)
          | ((with_reducible refine gate_callee (f := 14) rfl ?_); refine goesL_ (some 169) rfl rfl Try.func14 (by kernel_rfl) rfl #[.agg #[.int .i64 2, .slice X1 ([⟨10, 2⟩] : List S53).length d1, .slice X2 ([⟨4, 2⟩, ⟨8, 7⟩] : List S50).length d2, .slice X3 ([11] : List Int).length d3, .slice X4 ([] : List Int).length d4], .int .i64 2] rfl (by (try simp only [List.map_toArray, List.map_cons, List.map_nil]); first | done | rfl) ?_; (refine (gates_Kind.calls 2 _ _ [⟨10, 2⟩] _ _ [⟨4, 2⟩, ⟨8, 7⟩] _ _ [11] _ _ [] 2 1 1 0 _ ?s0 ?s1 ?s2 ?s3 ?s4 ?s5 ?s6 ?s7 D2_.out).mono ?_); (case s0 => exact J1.out); (case s1 => exact M1.out); (case s2 => exact J2.out); (case s3 => exact M2.out); (case s4 => exact J3.out); (case s5 => exact M3.out); (case s6 => exact J4.out); (case s7 => exact M4.out); rintro e w5 ⟨rfl, hb⟩; refine ⟨_, rfl, ?_⟩; have N_ := Aside0.mk (below_step HBI.out hb); clear HBI; have HBI := N_; clear N_; clear hb J1 J2 J3 J4 M1 M2 M3 M4))
        clear hbi
        obtain ⟨ad, e1, x1⟩ := Kd.at_int (Kd.C_below LK.out HBI.out) 2 (by decide) (by decide)
        obtain rfl := Option.some.inj e1
        obtain ⟨ad, e2, x2⟩ := Kd.at_int (Kd.C_below LJ.out HBI.out) 2 (by decide) (by decide)
        obtain rfl := Option.some.inj e2
        have x3 := x1.trans (show _ = some (.int .i64 1) from rfl)
        have x4 := x2.trans (show _ = some (.int .i64 1) from rfl)
        clear x1 x2
        have x1 := x3
        have x2 := x4
        rw [show Int.toNat 2 = 2 from rfl] at x3 x4
        try simp [Addr.add] at x1 x2
        clear e1 e2
        go_wp2
        go_roundg (gk - 1)
        case rel => exact ⟨3, rfl, ⟨by omega, by omega, by have := HI.out; omega⟩, HBI⟩
        case measure => have := HI.out; omega
      · as_aux_lemma =>
        have hbi := HBI
        go_upto_region 50 with (first
          | ((with_reducible refine gate_callee (f := 28) rfl ?_); refine goesL_ (some 167) rfl rfl Try.func28 (by kernel_rfl) rfl #[] rfl (by (try simp only [List.map_toArray, List.map_cons, List.map_nil]); first | done | rfl) ?_; (refine (spiritlevellaw02_example.calls 2 [⟨10, 2⟩] [⟨4, 2⟩, ⟨8, 7⟩] [11] [] _ rfl).mono ?_); rintro e we ⟨v1, v2, v3, v4, rfl, h1, h2, h3, h4, hb⟩; refine ⟨_, rfl, ?_⟩; have N_ := Aside0.mk (below_step HBI.out hb); clear HBI; have HBI := N_; clear N_; obtain ⟨X1, d1, rfl⟩ := Kd.R_slice h1; obtain ⟨X2, d2, rfl⟩ := Kd.R_slice h2; obtain ⟨X3, d3, rfl⟩ := Kd.R_slice h3; obtain ⟨X4, d4, rfl⟩ := Kd.R_slice h4; have J1 := Aside0.mk (Kd.R_reads' h1).2.2; have M1 := Aside0.mk (Kd.R_reads' h1).2.1; have J2 := Aside0.mk (Kd.R_reads' h2).2.2; have M2 := Aside0.mk (Kd.R_reads' h2).2.1; have J3 := Aside0.mk (Kd.R_reads' h3).2.2; have M3 := Aside0.mk (Kd.R_reads' h3).2.1; have J4 := Aside0.mk (Kd.R_reads' h4).2.2; have M4 := Aside0.mk (Kd.R_reads' h4).2.1; clear hb h1 h2 h3 h4)
          | ((with_reducible refine gate_callee (f := 14) rfl ?_); refine goesL_ (some 169) rfl rfl Try.func14 (by kernel_rfl) rfl #[.agg #[.int .i64 2, .slice X1 ([⟨10, 2⟩] : List S53).length d1, .slice X2 ([⟨4, 2⟩, ⟨8, 7⟩] : List S50).length d2, .slice X3 ([11] : List Int).length d3, .slice X4 ([] : List Int).length d4], .int .i64 3] rfl (by (try simp only [List.map_toArray, List.map_cons, List.map_nil]); first | done | rfl) ?_; (refine (gates_Kind.calls 2 _ _ [⟨10, 2⟩] _ _ [⟨4, 2⟩, ⟨8, 7⟩] _ _ [11] _ _ [] 3 2 0 0 _ ?s0 ?s1 ?s2 ?s3 ?s4 ?s5 ?s6 ?s7 D3_.out).mono ?_); (case s0 => exact J1.out); (case s1 => exact M1.out); (case s2 => exact J2.out); (case s3 => exact M2.out); (case s4 => exact J3.out); (case s5 => exact M3.out); (case s6 => exact J4.out); (case s7 => exact M4.out); rintro e w5 ⟨rfl, hb⟩; refine ⟨_, rfl, ?_⟩; have N_ := Aside0.mk (below_step HBI.out hb); clear HBI; have HBI := N_; clear N_; clear hb J1 J2 J3 J4 M1 M2 M3 M4))
        clear hbi
        obtain ⟨ad, e1, x1⟩ := Kd.at_int (Kd.C_below LK.out HBI.out) 3 (by decide) (by decide)
        obtain rfl := Option.some.inj e1
        obtain ⟨ad, e2, x2⟩ := Kd.at_int (Kd.C_below LJ.out HBI.out) 3 (by decide) (by decide)
        obtain rfl := Option.some.inj e2
        have x3 := x1.trans (show _ = some (.int .i64 2) from rfl)
        have x4 := x2.trans (show _ = some (.int .i64 0) from rfl)
        clear x1 x2
        have x1 := x3
        have x2 := x4
        rw [show Int.toNat 3 = 3 from rfl] at x3 x4
        try simp [Addr.add] at x1 x2
        clear e1 e2
        go_wp2
        go_roundg (gk - 1)
        case rel => exact ⟨4, rfl, ⟨by omega, by omega, by have := HI.out; omega⟩, HBI⟩
        case measure => have := HI.out; omega
      · as_aux_lemma =>
        have hbi := HBI
        go_upto_region 50 with (first
          | ((with_reducible refine gate_callee (f := 28) rfl ?_); refine goesL_ (some 167) rfl rfl Try.func28 (by kernel_rfl) rfl #[] rfl (by (try simp only [List.map_toArray, List.map_cons, List.map_nil]); first | done | rfl) ?_; (refine (spiritlevellaw02_example.calls 2 [⟨10, 2⟩] [⟨4, 2⟩, ⟨8, 7⟩] [11] [] _ rfl).mono ?_); rintro e we ⟨v1, v2, v3, v4, rfl, h1, h2, h3, h4, hb⟩; refine ⟨_, rfl, ?_⟩; have N_ := Aside0.mk (below_step HBI.out hb); clear HBI; have HBI := N_; clear N_; obtain ⟨X1, d1, rfl⟩ := Kd.R_slice h1; obtain ⟨X2, d2, rfl⟩ := Kd.R_slice h2; obtain ⟨X3, d3, rfl⟩ := Kd.R_slice h3; obtain ⟨X4, d4, rfl⟩ := Kd.R_slice h4; have J1 := Aside0.mk (Kd.R_reads' h1).2.2; have M1 := Aside0.mk (Kd.R_reads' h1).2.1; have J2 := Aside0.mk (Kd.R_reads' h2).2.2; have M2 := Aside0.mk (Kd.R_reads' h2).2.1; have J3 := Aside0.mk (Kd.R_reads' h3).2.2; have M3 := Aside0.mk (Kd.R_reads' h3).2.1; have J4 := Aside0.mk (Kd.R_reads' h4).2.2; have M4 := Aside0.mk (Kd.R_reads' h4).2.1; clear hb h1 h2 h3 h4)
          | ((with_reducible refine gate_callee (f := 14) rfl ?_); refine goesL_ (some 169) rfl rfl Try.func14 (by kernel_rfl) rfl #[.agg #[.int .i64 2, .slice X1 ([⟨10, 2⟩] : List S53).length d1, .slice X2 ([⟨4, 2⟩, ⟨8, 7⟩] : List S50).length d2, .slice X3 ([11] : List Int).length d3, .slice X4 ([] : List Int).length d4], .int .i64 4] rfl (by (try simp only [List.map_toArray, List.map_cons, List.map_nil]); first | done | rfl) ?_; (refine (gates_Kind.calls 2 _ _ [⟨10, 2⟩] _ _ [⟨4, 2⟩, ⟨8, 7⟩] _ _ [11] _ _ [] 4 3 0 0 _ ?s0 ?s1 ?s2 ?s3 ?s4 ?s5 ?s6 ?s7 D4_.out).mono ?_); (case s0 => exact J1.out); (case s1 => exact M1.out); (case s2 => exact J2.out); (case s3 => exact M2.out); (case s4 => exact J3.out); (case s5 => exact M3.out); (case s6 => exact J4.out); (case s7 => exact M4.out); rintro e w5 ⟨rfl, hb⟩; refine ⟨_, rfl, ?_⟩; have N_ := Aside0.mk (below_step HBI.out hb); clear HBI; have HBI := N_; clear N_; clear hb J1 J2 J3 J4 M1 M2 M3 M4))
        clear hbi
        obtain ⟨ad, e1, x1⟩ := Kd.at_int (Kd.C_below LK.out HBI.out) 4 (by decide) (by decide)
        obtain rfl := Option.some.inj e1
        obtain ⟨ad, e2, x2⟩ := Kd.at_int (Kd.C_below LJ.out HBI.out) 4 (by decide) (by decide)
        obtain rfl := Option.some.inj e2
        have x3 := x1.trans (show _ = some (.int .i64 3) from rfl)
        have x4 := x2.trans (show _ = some (.int .i64 0) from rfl)
        clear x1 x2
        have x1 := x3
        have x2 := x4
        rw [show Int.toNat 4 = 4 from rfl] at x3 x4
        try simp [Addr.add] at x1 x2
        clear e1 e2
        go_wp2
        go_roundg (gk - 1)
        case rel => exact ⟨5, rfl, ⟨by omega, by omega, by have := HI.out; omega⟩, HBI⟩
        case measure => have := HI.out; omega
      · as_aux_lemma =>
        have hbi := HBI
        go_upto_region 50 with (first
          | ((with_reducible refine gate_callee (f := 28) rfl ?_); refine goesL_ (some 167) rfl rfl Try.func28 (by kernel_rfl) rfl #[] rfl (by (try simp only [List.map_toArray, List.map_cons, List.map_nil]); first | done | rfl) ?_; (refine (spiritlevellaw02_example.calls 2 [⟨10, 2⟩] [⟨4, 2⟩, ⟨8, 7⟩] [11] [] _ rfl).mono ?_); rintro e we ⟨v1, v2, v3, v4, rfl, h1, h2, h3, h4, hb⟩; refine ⟨_, rfl, ?_⟩; have N_ := Aside0.mk (below_step HBI.out hb); clear HBI; have HBI := N_; clear N_; obtain ⟨X1, d1, rfl⟩ := Kd.R_slice h1; obtain ⟨X2, d2, rfl⟩ := Kd.R_slice h2; obtain ⟨X3, d3, rfl⟩ := Kd.R_slice h3; obtain ⟨X4, d4, rfl⟩ := Kd.R_slice h4; have J1 := Aside0.mk (Kd.R_reads' h1).2.2; have M1 := Aside0.mk (Kd.R_reads' h1).2.1; have J2 := Aside0.mk (Kd.R_reads' h2).2.2; have M2 := Aside0.mk (Kd.R_reads' h2).2.1; have J3 := Aside0.mk (Kd.R_reads' h3).2.2; have M3 := Aside0.mk (Kd.R_reads' h3).2.1; have J4 := Aside0.mk (Kd.R_reads' h4).2.2; have M4 := Aside0.mk (Kd.R_reads' h4).2.1; clear hb h1 h2 h3 h4)
          | ((with_reducible refine gate_callee (f := 14) rfl ?_); refine goesL_ (some 169) rfl rfl Try.func14 (by kernel_rfl) rfl #[.agg #[.int .i64 2, .slice X1 ([⟨10, 2⟩] : List S53).length d1, .slice X2 ([⟨4, 2⟩, ⟨8, 7⟩] : List S50).length d2, .slice X3 ([11] : List Int).length d3, .slice X4 ([] : List Int).length d4], .int .i64 5] rfl (by (try simp only [List.map_toArray, List.map_cons, List.map_nil]); first | done | rfl) ?_; (refine (gates_Kind.calls 2 _ _ [⟨10, 2⟩] _ _ [⟨4, 2⟩, ⟨8, 7⟩] _ _ [11] _ _ [] 5 3 1 0 _ ?s0 ?s1 ?s2 ?s3 ?s4 ?s5 ?s6 ?s7 D5_.out).mono ?_); (case s0 => exact J1.out); (case s1 => exact M1.out); (case s2 => exact J2.out); (case s3 => exact M2.out); (case s4 => exact J3.out); (case s5 => exact M3.out); (case s6 => exact J4.out); (case s7 => exact M4.out); rintro e w5 ⟨rfl, hb⟩; refine ⟨_, rfl, ?_⟩; have N_ := Aside0.mk (below_step HBI.out hb); clear HBI; have HBI := N_; clear N_; clear hb J1 J2 J3 J4 M1 M2 M3 M4))
        clear hbi
        obtain ⟨ad, e1, x1⟩ := Kd.at_int (Kd.C_below LK.out HBI.out) 5 (by decide) (by decide)
        obtain rfl := Option.some.inj e1
        obtain ⟨ad, e2, x2⟩ := Kd.at_int (Kd.C_below LJ.out HBI.out) 5 (by decide) (by decide)
        obtain rfl := Option.some.inj e2
        have x3 := x1.trans (show _ = some (.int .i64 3) from rfl)
        have x4 := x2.trans (show _ = some (.int .i64 1) from rfl)
        clear x1 x2
        have x1 := x3
        have x2 := x4
        rw [show Int.toNat 5 = 5 from rfl] at x3 x4
        try simp [Addr.add] at x1 x2
        clear e1 e2
        go_wp2
        go_roundg (gk - 1)
        case rel => exact ⟨6, rfl, ⟨by omega, by omega, by have := HI.out; omega⟩, HBI⟩
        case measure => have := HI.out; omega
      · have HE := Aside0.mk (below_step HBK.out HBI.out)
        go_wp2_with fail
        go_meet
        exact HE
  case rest =>
  have HB := hcut
  clear hcut HBK LK LJ HK HJ
  as_aux_lemma =>
    go_upto_region 53 with (first
      | ((with_reducible refine gate_dst (N := 191) rfl ?_); refine Kd.R_make (Kd.int .i64) _ 3 rfl (N := 191) rfl 24 _ _ rfl 100 rfl rfl Try.underlying24 (.int .i64 0) 8 info3 rfl (by decide) (by decide) (0 : Int) (ok := fun _ => True) (okp := fun _ => True) rfl (fun _ hk => hk) trivial (by decide) (by decide) (Below.refl _ _) (Nat.le_refl _) ?_; intro v1 w1 ho hb hg hn; clear hg hn; have N_ := Aside0.mk (below_step HB.out hb); clear HB; have HB := N_; clear N_; replace ho : Kd.R (Kd.int .i64) 3 w1 _ (fun _ => True) v1 (List.replicate 100 0) := ho; obtain ⟨A0, c0, rfl⟩ := Kd.R_slice ho; have L0 := Aside0.mk (Kd.R_reads' ho).2.2; have H0 := Aside0.mk (Kd.R_reads' ho).2.1; clear ho hb)
      | ((with_reducible refine gate_dst (N := 192) rfl ?_); refine Kd.R_lit (Kd.int .i64) _ 3 ?hg (N := 192) ?hd (xs := ([2001] : List Int)) (inner := [.int .i64 2001]) (ok := fun _ => True) (okp := fun _ => True) ?hr ?hp (fun _ hk => hk) trivial (Below.refl _ _) (Nat.le_refl _) (by simp) ?_; (case hd => rfl); (case hg => rfl); (case hr => first | (go_simp; done) | (go_simp; rfl)); (case hp => exact (Reps.one (show Kd.M (Kd.int .i64) _ _ _ 2001 [.int .i64 2001] from rfl) (Reps.none _ _))); intro v1 wm ho hb hg hn; clear hg hn; have N_ := Aside0.mk (below_step HB.out hb); clear HB; have HB := N_; clear N_; have N_ := Aside0.mk (Kd.C_below L0.out hb); clear L0; have L0 := N_; clear N_; obtain ⟨A1, c1, rfl⟩ := Kd.R_slice ho; have L1 := Aside0.mk (Kd.R_reads' ho).2.2; have H1 := Aside0.mk (Kd.R_reads' ho).2.1; clear ho hb))
    obtain ⟨wn, hwn⟩ : ∃ x, x = wm.alloc (.cells #[.int .i64 1000, .slice none 0 0, .slice none 0 0, .slice A0 100 c0, .slice A1 1 c1] 26) := ⟨_, rfl⟩
    have hb : Below wm.heap.size wm wn := by rw [hwn]; exact below_alloc (Below.refl _ _) _
    have HX : Aside0 (Box wn wm.heap.size 1000 none 0 [] none 0 [] A0 c0 (List.replicate 100 0) A1 c1 [2001]) := ⟨⟨by rw [hwn]; exact heap_alloc_new wm _, Kd.C_nil _ _, Nat.le_refl _, Kd.C_nil _ _, Nat.le_refl _, Kd.C_below L0.out hb, H0.out, Kd.C_below L1.out hb, H1.out⟩⟩
    have N_ := Aside0.mk (below_step HB.out hb); clear HB; have HB := N_; clear N_
    clear L0 L1 H0 H1 hb
    rw [← hwn]
    clear hwn
    have y0 := (blk_cell HX.out.box 0).trans (show _ = some (.int .i64 1000) from rfl)
    have y1 := (blk_cell HX.out.box 1).trans (show _ = some (.slice none 0 0) from rfl)
    have y2 := (blk_cell HX.out.box 2).trans (show _ = some (.slice none 0 0) from rfl)
    have y3 := (blk_cell HX.out.box 3).trans (show _ = some (.slice A0 100 c0) from rfl)
    have y4 := (blk_cell HX.out.box 4).trans (show _ = some (.slice A1 1 c1) from rfl)
    go_upto_region 54 with ((with_reducible refine gate_callee (f := 12) rfl ?_); refine goesL_ (some 196) rfl rfl Try.func12 (by kernel_rfl) rfl #[.agg #[.int .i64 1000, .slice none ([] : List S53).length 0, .slice none ([] : List S50).length 0, .slice A0 (List.replicate 100 (0 : Int)).length c0, .slice A1 ([2001] : List Int).length c1]] rfl (by (try simp only [List.map_toArray, List.map_cons, List.map_nil]); first | done | rfl) ?_; (refine (gates_Vars.calls 1000 _ _ [] _ _ [] _ _ (List.replicate 100 0) _ _ [2001] 1000 0 _ ?s0 ?s1 ?s2 ?s3 ?s4 ?s5 ?s6 ?s7 M1_.out).mono ?_); (case s0 => exact HX.out.h1); (case s1 => exact HX.out.l1); (case s2 => exact HX.out.h2); (case s3 => exact HX.out.l2); (case s4 => exact HX.out.h3); (case s5 => exact HX.out.l3); (case s6 => exact HX.out.h4); (case s7 => exact HX.out.l4); rintro e w5 ⟨rfl, hb⟩; refine ⟨_, rfl, ?_⟩; have N_ := Aside0.mk (HX.out.below hb); clear HX; have HX := N_; clear N_; have N_ := Aside0.mk (below_step HB.out hb); clear HB; have HB := N_; clear N_; clear hb)
    clear y0 y1 y2 y3 y4
    go_upto_region 55 with ((with_reducible refine gate_callee (f := 12) rfl ?_); refine goesL_ (some 201) rfl rfl Try.func12 (by kernel_rfl) rfl #[.agg #[.int .i64 0, .slice none ([] : List S53).length 0, .slice none ([] : List S50).length 0, .slice none ([] : List Int).length 0, .slice none ([] : List Int).length 0]] rfl (by (try simp only [List.map_toArray, List.map_cons, List.map_nil]); first | done | rfl) ?_; (refine (gates_Vars.calls 0 _ _ [] _ _ [] _ _ [] _ _ [] 0 0 _ ?s0 ?s1 ?s2 ?s3 ?s4 ?s5 ?s6 ?s7 M2_.out).mono ?_); (case s0 => exact Kd.C_nil _ _); (case s1 => exact Nat.le_refl _); (case s2 => exact Kd.C_nil _ _); (case s3 => exact Nat.le_refl _); (case s4 => exact Kd.C_nil _ _); (case s5 => exact Nat.le_refl _); (case s6 => exact Kd.C_nil _ _); (case s7 => exact Nat.le_refl _); rintro e w5 ⟨rfl, hb⟩; refine ⟨_, rfl, ?_⟩; have N_ := Aside0.mk (HX.out.below hb); clear HX; have HX := N_; clear N_; have N_ := Aside0.mk (below_step HB.out hb); clear HB; have HB := N_; clear N_; clear hb)
    go_upto_region 56 with (first
      | ((with_reducible refine gate_callee (f := 28) rfl ?_); refine goesL_ (some 205) rfl rfl Try.func28 (by kernel_rfl) rfl #[] rfl (by (try simp only [List.map_toArray, List.map_cons, List.map_nil]); first | done | rfl) ?_; (refine (spiritlevellaw02_example.calls 2 [⟨10, 2⟩] [⟨4, 2⟩, ⟨8, 7⟩] [11] [] _ rfl).mono ?_); rintro e we ⟨v1, v2, v3, v4, rfl, h1, h2, h3, h4, hb⟩; refine ⟨_, rfl, ?_⟩; have N_ := Aside0.mk (HX.out.below hb); clear HX; have HX := N_; clear N_; have N_ := Aside0.mk (below_step HB.out hb); clear HB; have HB := N_; clear N_; obtain ⟨X1, d1, rfl⟩ := Kd.R_slice h1; obtain ⟨X2, d2, rfl⟩ := Kd.R_slice h2; obtain ⟨X3, d3, rfl⟩ := Kd.R_slice h3; obtain ⟨X4, d4, rfl⟩ := Kd.R_slice h4; have J1 := Aside0.mk (Kd.R_reads' h1).2.2; have M1 := Aside0.mk (Kd.R_reads' h1).2.1; have J2 := Aside0.mk (Kd.R_reads' h2).2.2; have M2 := Aside0.mk (Kd.R_reads' h2).2.1; have J3 := Aside0.mk (Kd.R_reads' h3).2.2; have M3 := Aside0.mk (Kd.R_reads' h3).2.1; have J4 := Aside0.mk (Kd.R_reads' h4).2.2; have M4 := Aside0.mk (Kd.R_reads' h4).2.1; clear hb h1 h2 h3 h4)
      | ((with_reducible refine gate_callee (f := 14) rfl ?_); refine goesL_ (some 206) rfl rfl Try.func14 (by kernel_rfl) rfl #[.agg #[.int .i64 2, .slice X1 ([⟨10, 2⟩] : List S53).length d1, .slice X2 ([⟨4, 2⟩, ⟨8, 7⟩] : List S50).length d2, .slice X3 ([11] : List Int).length d3, .slice X4 ([] : List Int).length d4], .int .i64 6] rfl (by (try simp only [List.map_toArray, List.map_cons, List.map_nil]); first | done | rfl) ?_; (refine (gates_Kind.calls 2 _ _ [⟨10, 2⟩] _ _ [⟨4, 2⟩, ⟨8, 7⟩] _ _ [11] _ _ [] 6 0 0 2 _ ?s0 ?s1 ?s2 ?s3 ?s4 ?s5 ?s6 ?s7 M3_.out).mono ?_); (case s0 => exact J1.out); (case s1 => exact M1.out); (case s2 => exact J2.out); (case s3 => exact M2.out); (case s4 => exact J3.out); (case s5 => exact M3.out); (case s6 => exact J4.out); (case s7 => exact M4.out); rintro e w5 ⟨rfl, hb⟩; refine ⟨_, rfl, ?_⟩; have N_ := Aside0.mk (HX.out.below hb); clear HX; have HX := N_; clear N_; have N_ := Aside0.mk (below_step HB.out hb); clear HB; have HB := N_; clear N_; clear hb J1 J2 J3 J4 M1 M2 M3 M4))
    go_upto_region 57 with (first
      | ((with_reducible refine gate_callee (f := 28) rfl ?_); refine goesL_ (some 211) rfl rfl Try.func28 (by kernel_rfl) rfl #[] rfl (by (try simp only [List.map_toArray, List.map_cons, List.map_nil]); first | done | rfl) ?_; (refine (spiritlevellaw02_example.calls 2 [⟨10, 2⟩] [⟨4, 2⟩, ⟨8, 7⟩] [11] [] _ rfl).mono ?_); rintro e we ⟨v1, v2, v3, v4, rfl, h1, h2, h3, h4, hb⟩; refine ⟨_, rfl, ?_⟩; have N_ := Aside0.mk (HX.out.below hb); clear HX; have HX := N_; clear N_; have N_ := Aside0.mk (below_step HB.out hb); clear HB; have HB := N_; clear N_; obtain ⟨X1, d1, rfl⟩ := Kd.R_slice h1; obtain ⟨X2, d2, rfl⟩ := Kd.R_slice h2; obtain ⟨X3, d3, rfl⟩ := Kd.R_slice h3; obtain ⟨X4, d4, rfl⟩ := Kd.R_slice h4; have J1 := Aside0.mk (Kd.R_reads' h1).2.2; have M1 := Aside0.mk (Kd.R_reads' h1).2.1; have J2 := Aside0.mk (Kd.R_reads' h2).2.2; have M2 := Aside0.mk (Kd.R_reads' h2).2.1; have J3 := Aside0.mk (Kd.R_reads' h3).2.2; have M3 := Aside0.mk (Kd.R_reads' h3).2.1; have J4 := Aside0.mk (Kd.R_reads' h4).2.2; have M4 := Aside0.mk (Kd.R_reads' h4).2.1; clear hb h1 h2 h3 h4)
      | ((with_reducible refine gate_callee (f := 19) rfl ?_); refine goesL_ (some 212) rfl rfl Try.func19 (by kernel_rfl) rfl #[.agg #[.int .i64 2, .slice X1 ([⟨10, 2⟩] : List S53).length d1, .slice X2 ([⟨4, 2⟩, ⟨8, 7⟩] : List S50).length d2, .slice X3 ([11] : List Int).length d3, .slice X4 ([] : List Int).length d4], .int .i64 12] rfl (by (try simp only [List.map_toArray, List.map_cons, List.map_nil]); first | done | rfl) ?_; (refine (gates_Cone.calls k 2 _ _ [⟨10, 2⟩] _ _ [⟨4, 2⟩, ⟨8, 7⟩] _ _ [11] _ _ [] 12 [] 2 _ ?s0 ?s1 ?s2 ?s3 ?s4 ?s5 ?s6 ?s7 M4_.out).mono ?_); (case s0 => exact J1.out); (case s1 => exact M1.out); (case s2 => exact J2.out); (case s3 => exact M2.out); (case s4 => exact J3.out); (case s5 => exact M3.out); (case s6 => exact J4.out); (case s7 => exact M4.out); rintro e w5 ⟨v, rfl, ho, hb⟩; refine ⟨_, rfl, ?_⟩; have N_ := Aside0.mk (HX.out.below hb); clear HX; have HX := N_; clear N_; have N_ := Aside0.mk (below_step HB.out hb); clear HB; have HB := N_; clear N_; clear hb ho J1 J2 J3 J4 M1 M2 M3 M4))
    go_upto_region 58 with (first
      | ((with_reducible refine gate_callee (f := 28) rfl ?_); refine goesL_ (some 216) rfl rfl Try.func28 (by kernel_rfl) rfl #[] rfl (by (try simp only [List.map_toArray, List.map_cons, List.map_nil]); first | done | rfl) ?_; (refine (spiritlevellaw02_example.calls 2 [⟨10, 2⟩] [⟨4, 2⟩, ⟨8, 7⟩] [11] [] _ rfl).mono ?_); rintro e we ⟨v1, v2, v3, v4, rfl, h1, h2, h3, h4, hb⟩; refine ⟨_, rfl, ?_⟩; have N_ := Aside0.mk (HX.out.below hb); clear HX; have HX := N_; clear N_; have N_ := Aside0.mk (below_step HB.out hb); clear HB; have HB := N_; clear N_; obtain ⟨X1, d1, rfl⟩ := Kd.R_slice h1; obtain ⟨X2, d2, rfl⟩ := Kd.R_slice h2; obtain ⟨X3, d3, rfl⟩ := Kd.R_slice h3; obtain ⟨X4, d4, rfl⟩ := Kd.R_slice h4; have J1 := Aside0.mk (Kd.R_reads' h1).2.2; have M1 := Aside0.mk (Kd.R_reads' h1).2.1; have J2 := Aside0.mk (Kd.R_reads' h2).2.2; have M2 := Aside0.mk (Kd.R_reads' h2).2.1; have J3 := Aside0.mk (Kd.R_reads' h3).2.2; have M3 := Aside0.mk (Kd.R_reads' h3).2.1; have J4 := Aside0.mk (Kd.R_reads' h4).2.2; have M4 := Aside0.mk (Kd.R_reads' h4).2.1; clear hb h1 h2 h3 h4)
      | ((with_reducible refine gate_callee (f := 19) rfl ?_); refine goesL_ (some 217) rfl rfl Try.func19 (by kernel_rfl) rfl #[.agg #[.int .i64 2, .slice X1 ([⟨10, 2⟩] : List S53).length d1, .slice X2 ([⟨4, 2⟩, ⟨8, 7⟩] : List S50).length d2, .slice X3 ([11] : List Int).length d3, .slice X4 ([] : List Int).length d4], .int .i64 1] rfl (by (try simp only [List.map_toArray, List.map_cons, List.map_nil]); first | done | rfl) ?_; (refine (gates_Cone.calls k 2 _ _ [⟨10, 2⟩] _ _ [⟨4, 2⟩, ⟨8, 7⟩] _ _ [11] _ _ [] 1 [] 0 _ ?s0 ?s1 ?s2 ?s3 ?s4 ?s5 ?s6 ?s7 M5_.out).mono ?_); (case s0 => exact J1.out); (case s1 => exact M1.out); (case s2 => exact J2.out); (case s3 => exact M2.out); (case s4 => exact J3.out); (case s5 => exact M3.out); (case s6 => exact J4.out); (case s7 => exact M4.out); rintro e w5 ⟨v, rfl, ho, hb⟩; refine ⟨_, rfl, ?_⟩; have N_ := Aside0.mk (HX.out.below hb); clear HX; have HX := N_; clear N_; have N_ := Aside0.mk (below_step HB.out hb); clear HB; have HB := N_; clear N_; obtain ⟨AZ, cZ, rfl⟩ := Kd.R_slice ho; clear hb ho J1 J2 J3 J4 M1 M2 M3 M4))
    have y0 := (blk_cell HX.out.box 0).trans (show _ = some (.int .i64 1000) from rfl)
    have y1 := (blk_cell HX.out.box 1).trans (show _ = some (.slice none 0 0) from rfl)
    have y2 := (blk_cell HX.out.box 2).trans (show _ = some (.slice none 0 0) from rfl)
    have y3 := (blk_cell HX.out.box 3).trans (show _ = some (.slice A0 100 c0) from rfl)
    have y4 := (blk_cell HX.out.box 4).trans (show _ = some (.slice A1 1 c1) from rfl)
    go_upto_region 59 with ((with_reducible refine gate_callee (f := 21) rfl ?_); refine goesL_ (some 222) rfl rfl Try.func21 (by kernel_rfl) rfl #[.agg #[.int .i64 1000, .slice none ([] : List S53).length 0, .slice none ([] : List S50).length 0, .slice A0 (List.replicate 100 (0 : Int)).length c0, .slice A1 ([2001] : List Int).length c1]] rfl (by (try simp only [List.map_toArray, List.map_cons, List.map_nil]); first | done | rfl) ?_; (refine (gates_Depth.calls k 1000 _ _ [] _ _ [] _ _ (List.replicate 100 0) _ _ [2001] 0 0 _ ?s0 ?s1 ?s2 ?s3 ?s4 ?s5 ?s6 ?s7 M6_.out).mono ?_); (case s0 => exact HX.out.h1); (case s1 => exact HX.out.l1); (case s2 => exact HX.out.h2); (case s3 => exact HX.out.l2); (case s4 => exact HX.out.h3); (case s5 => exact HX.out.l3); (case s6 => exact HX.out.h4); (case s7 => exact HX.out.l4); rintro e w5 ⟨rfl, hb⟩; refine ⟨_, rfl, ?_⟩; have N_ := Aside0.mk (HX.out.below hb); clear HX; have HX := N_; clear N_; have N_ := Aside0.mk (below_step HB.out hb); clear HB; have HB := N_; clear N_; clear hb)
    clear y0 y1 y2 y3 y4
    go_wp2_with (go_at_call 25; (with_reducible refine (spiritlevellaw02_alive.calls k true _ AL_.out).mono ?_); rintro e w5 ⟨rfl, hb⟩; have N_ := Aside0.mk (HX.out.below hb); clear HX; have HX := N_; clear N_; have N_ := Aside0.mk (below_step HB.out hb); clear HB; have HB := N_; clear N_; clear hb)
    go_ret
    exact ⟨rfl, HB.out⟩
end Go.Proofs.Ytnllcdihmpdhhaa.QGatesNames
