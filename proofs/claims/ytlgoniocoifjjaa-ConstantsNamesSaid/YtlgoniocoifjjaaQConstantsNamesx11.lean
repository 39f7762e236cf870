-- The walk of ConstantsNames: what the law function does, step by step, given what the functions that it calls return (wip/gen/cnames).
import Derived.Test.YtlgoniocoifjjaaQConstantsNamesx0
import Derived.Test.YtlgoniocoifjjaaQConstantsNamesx1
import Derived.Test.YtlgoniocoifjjaaQConstantsNamesx2
import Derived.Test.YtlgoniocoifjjaaQConstantsNamesx3
import Derived.Test.YtlgoniocoifjjaaQConstantsNamesx4
import Derived.Test.YtlgoniocoifjjaaQConstantsNamesx5
import Derived.Test.YtlgoniocoifjjaaQConstantsNamesx6
import Derived.Test.YtlgoniocoifjjaaQConstantsNamesx7
import Derived.Test.YtlgoniocoifjjaaQConstantsNamesx8
import Derived.Test.YtlgoniocoifjjaaQConstantsNamesx9
import Derived.Test.YtlgoniocoifjjaaQConstantsNamesx10
import Derived.Deep.CutBlock
import Derived.Deep.RegionLaw
namespace Go.Proofs.Ytlgoniocoifjjaa.QConstantsNamesW
open Go.RowKit Go.Proofs.YtlgoniocoifjjaaW.PrintWords Go.Proofs.YtlgoniocoifjjaaW.PrintLast Go.Proofs.YtlgoniocoifjjaaW.PrintMore Go.Proofs.Ytlgoniocoifjjaa.QConstantsNames
attribute [local go_sem] max2_int min2_int max_two min_two max_three min_three max_four min_four
set_option linter.unusedVariables false
set_option linter.unusedSimpArgs false
/-- PrintLast: the operations of the list L, in its order, are taken first. -/
theorem tk_ (L : List Nat) {P : Program} {ops : Array Oper} {Q : Exit → Act → World → Prop} {S : World → Prop} {ds : List Nat} {oi : Oper} {v : Value} {fuel : Nat} {l : Array Bool} {a : Act} {w : World} (hi : ops[L.getD (ops.size - (fuel + 1)) 0]? = some oi)
  (hc : (Region.noSelect ops && Region.free .any ops l (L.getD (ops.size - (fuel + 1)) 0) && (Region.ready .any ops l).contains (L.getD (ops.size - (fuel + 1)) 0) && Region.closedB .any ops l && Region.lastB .any ops l ds (L.getD (ops.size - (fuel + 1)) 0)) = true)
  (hQ : ∀ c a w, Q (.panic c) (a.put oi.dst v) w → Q (.panic c) a w) (hy : YieldsIf P ops S oi v a) (hS : S w)
  (h : wpAnyLast P .any ops Q S ds fuel (l.setIfInBounds (L.getD (ops.size - (fuel + 1)) 0) true) (a.put oi.dst v) w) : wpAnyLast P .any ops Q S ds (fuel + 1) l a w := by
 simp only [Bool.and_eq_true] at hc
 exact wpAnyLast_take hi hc.1.1.1.1 hc.1.1.1.2 hc.1.1.2 hc.1.2 hc.2 hQ hy hS h
theorem os_ (i : Nat) {P : Program} {ops : Array Oper} {Q : Exit → Act → World → Prop} {S : World → Prop} {ds : List Nat} {o : Oper} {fuel : Nat} {l : Array Bool} {a : Act} {w : World} (hi : ops[i]? = some o)
  (hc : ((Region.ready .any ops l == [i]) && !ds.contains i) = true)
  (h : ∀ K : Act → World → Prop, Shut (∀ a w, S w → (S w → wpAnyLast P .any ops Q S ds fuel (l.setIfInBounds i true) a w) → K a w) → if Region.wanted o (yielded ops a.tmps) = true then Oper.wp P o a w K Q else K (a.put o.dst undef) w) : wpAnyLast P .any ops Q S ds (fuel + 1) l a w := by
 simp at hc
 exact wpAnyLast_ready hc.1 (by simp) (AllReadyL.cons hi hc.2 h AllReadyL.nil)
theorem ol_ (i : Nat) {P : Program} {ops : Array Oper} {Q : Exit → Act → World → Prop} {S : World → Prop} {ds : List Nat} {o : Oper} {fuel : Nat} {l : Array Bool} {a : Act} {w : World} (hi : ops[i]? = some o)
  (hc : ((Region.ready .any ops l == [i]) && ds.contains i) = true)
  (h : ∀ K : Act → World → Prop, Shut (∀ a w, wpAnyLast P .any ops Q S ds fuel (l.setIfInBounds i true) a w → K a w) → if Region.wanted o (yielded ops a.tmps) = true then Oper.wp P o a w K Q else K (a.put o.dst undef) w) : wpAnyLast P .any ops Q S ds (fuel + 1) l a w := by
 simp at hc
 exact wpAnyLast_ready hc.1 (by simp) (AllReadyL.cons_last hi hc.2 h AllReadyL.nil)
/-- The cells that the last region reads. -/
structure CB (W : World) (g8 g9 g11 g12 g14 : Nat) (Ar1 : Option Addr) (cr1 : Nat) (Ar2 : Option Addr) (cr2 : Nat) (Ar3 : Option Addr) (cr3 : Nat) (Ar4 : Option Addr) (cr4 : Nat) (ApA : Option Addr) (cpA : Nat) (An1 : Option Addr) (cn1 : Nat) (An2 : Option Addr) (cn2 : Nat) (An3 : Option Addr) (cn3 : Nat) (An4 : Option Addr) (cn4 : Nat) (AnA : Option Addr) (cnA : Nat) (AP : Option Addr) (cP : Nat) (AH : Option Addr) (cH : Nat) (r1 : List S45) (r2 : List S55) (r3 r4 : List Int) (ri : Int) (pA : List S55) (pl : Int) (ni nl : Int) (n1 : List S45) (n2 : List S55) (n3 n4 : List Int) (nA : List S55) : Prop where
 c0_ : W.cell? ⟨g8, 0, none⟩ = some (.int .i64 ri)
 c1_ : W.cell? ⟨g8, 1, none⟩ = some (.slice Ar1 r1.length cr1)
 c2_ : W.cell? ⟨g8, 2, none⟩ = some (.slice Ar2 r2.length cr2)
 c3_ : W.cell? ⟨g8, 3, none⟩ = some (.slice Ar3 r3.length cr3)
 c4_ : W.cell? ⟨g8, 4, none⟩ = some (.slice Ar4 r4.length cr4)
 c5_ : W.cell? ⟨g9, 10, none⟩ = some (.slice ApA pA.length cpA)
 c6_ : W.cell? ⟨g9, 11, none⟩ = some (.int .i64 pl)
 c7_ : W.cell? ⟨g11, 0, none⟩ = some (.slice AP 2 cP)
 c8_ : W.cell? ⟨g11, 1, none⟩ = some (.int .i64 10)
 c9_ : W.cell? ⟨g12, 0, none⟩ = some (.int .i64 ni)
 c10_ : W.cell? ⟨g12, 1, none⟩ = some (.slice An1 n1.length cn1)
 c11_ : W.cell? ⟨g12, 2, none⟩ = some (.slice An2 n2.length cn2)
 c12_ : W.cell? ⟨g12, 3, none⟩ = some (.slice An3 n3.length cn3)
 c13_ : W.cell? ⟨g12, 4, none⟩ = some (.slice An4 n4.length cn4)
 c14_ : W.cell? ⟨g12, 10, none⟩ = some (.slice AnA nA.length cnA)
 c15_ : W.cell? ⟨g12, 11, none⟩ = some (.int .i64 nl)
 c16_ : W.cell? ⟨g14, 0, none⟩ = some (.int .i64 0)
 c17_ : W.cell? ⟨g14, 1, none⟩ = some (.slice AH 4 cH)
 c18_ : W.cell? ⟨g14, 2, none⟩ = some (.slice none 0 0)
 c19_ : W.cell? ⟨g14, 3, none⟩ = some (.slice none 0 0)
 c20_ : W.cell? ⟨g14, 4, none⟩ = some (.slice none 0 0)
theorem CB.below {W W' : World} {g8 g9 g11 g12 g14 : Nat} {Ar1 : Option Addr} {cr1 : Nat} {Ar2 : Option Addr} {cr2 : Nat} {Ar3 : Option Addr} {cr3 : Nat} {Ar4 : Option Addr} {cr4 : Nat} {ApA : Option Addr} {cpA : Nat} {An1 : Option Addr} {cn1 : Nat} {An2 : Option Addr} {cn2 : Nat} {An3 : Option Addr} {cn3 : Nat} {An4 : Option Addr} {cn4 : Nat} {AnA : Option Addr} {cnA : Nat} {AP : Option Addr} {cP : Nat} {AH : Option Addr} {cH : Nat} {r1 : List S45} {r2 : List S55} {r3 r4 : List Int} {ri : Int} {pA : List S55} {pl : Int} {ni nl : Int} {n1 : List S45} {n2 : List S55} {n3 n4 : List Int} {nA : List S55} (h : CB W g8 g9 g11 g12 g14 Ar1 cr1 Ar2 cr2 Ar3 cr3 Ar4 cr4 ApA cpA An1 cn1 An2 cn2 An3 cn3 An4 cn4 AnA cnA AP cP AH cH r1 r2 r3 r4 ri pA pl ni nl n1 n2 n3 n4 nA) (hb : Below W.heap.size W W') : CB W' g8 g9 g11 g12 g14 Ar1 cr1 Ar2 cr2 Ar3 cr3 Ar4 cr4 ApA cpA An1 cn1 An2 cn2 An3 cn3 An4 cn4 AnA cnA AP cP AH cH r1 r2 r3 r4 ri pA pl ni nl n1 n2 n3 n4 nA := ⟨pw_cell_below hb h.c0_, pw_cell_below hb h.c1_, pw_cell_below hb h.c2_, pw_cell_below hb h.c3_, pw_cell_below hb h.c4_, pw_cell_below hb h.c5_, pw_cell_below hb h.c6_, pw_cell_below hb h.c7_, pw_cell_below hb h.c8_, pw_cell_below hb h.c9_, pw_cell_below hb h.c10_, pw_cell_below hb h.c11_, pw_cell_below hb h.c12_, pw_cell_below hb h.c13_, pw_cell_below hb h.c14_, pw_cell_below hb h.c15_, pw_cell_below hb h.c16_, pw_cell_below hb h.c17_, pw_cell_below hb h.c18_, pw_cell_below hb h.c19_, pw_cell_below hb h.c20_⟩
set_option maxHeartbeats 40000000 in
set_option maxRecDepth 100000 in
theorem names_walk (k : Nat) (w : World) (b0 : List Int) (ti ui : Int) (bi bs bp bl : Int) (b1 : List S45) (b2 : List S55) (b3 : List Int) (b4 : List Int) (b7 : List Int) (b8 : List (List Int)) (b9 : List Int) (bA : List S55) (mi ms mp ml : Int) (m1 : List S45) (m2 : List S55) (m3 : List Int) (m4 : List Int) (m7 : List Int) (m8 : List (List Int)) (m9 : List Int) (mA : List S55) (r1 : List S45) (r2 : List S55) (r3 : List Int) (r4 : List Int) (ri : Int) (pi ps pp pl : Int) (p1 : List S45) (p2 : List S55) (p3 : List Int) (p4 : List Int) (p7 : List Int) (p8 : List (List Int)) (p9 : List Int) (pA : List S55) (ni ns np nl : Int) (n1 : List S45) (n2 : List S55) (n3 : List Int) (n4 : List Int) (n7 : List Int) (n8 : List (List Int)) (n9 : List Int) (nA : List S55) (t1 : List S45) (t2 : List S55) (t3 : List Int) (t4 : List Int) (u1 : List S45) (u2 : List S55) (u3 : List Int) (u4 : List Int) (h1 : constants_Stay.f k (-1) [] [] [] [] = some (b0, 8)) (h2 : constants_Pass.f k (-1) [] [] [] [] = some (bi, b1, b2, b3, b4, bs, bp, b7, b8, b9, bA, bl, 8)) (h3 : constants_Pass.f k 1001 [] [] [] [] = some (mi, m1, m2, m3, m4, ms, mp, m7, m8, m9, mA, ml, 4)) (h4 : spiritlevellaw27_turning.f 1 1 1 = some (ri, r1, r2, r3, r4)) (h5 : constants_Pass.f k ri r1 r2 r3 r4 = some (pi, p1, p2, p3, p4, ps, pp, p7, p8, p9, pA, pl, 0)) (h6 : spiritlevellaw27_turning.f 1 0 1 = some (ti, t1, t2, t3, t4)) (h7 : constants_Pass.f k ti t1 t2 t3 t4 = some (ni, n1, n2, n3, n4, ns, np, n7, n8, n9, nA, nl, 0)) (al : spiritlevellaw27_alive.f k = some true) (s1 : spiritlevellaw27_stay.f k ri r1 r2 r3 r4 [0, 1, 2] = some true) (s2 : spiritlevelref25_SamePred.f k pA pl ([⟨4, 2⟩, ⟨8, 6⟩] : List S55) 10 = some true) (s3 : spiritlevellaw27_stay.f k ti t1 t2 t3 t4 [] = some true) (s4 : spiritlevelref25_SamePred.f k nA nl [] 1 = some true) (s5 : spiritlevelref02_Same.f k ni n1 n2 n3 n4 ti t1 t2 t3 t4 = some true) (h8 : spiritlevellaw27_turning.f 1 2 1 = some (ui, u1, u2, u3, u4)) (s6 : spiritlevellaw27_stay.f k ui u1 u2 u3 u4 [] = some true) (s7 : spiritlevellaw27_stay.f k 0 ([⟨2, 1⟩, ⟨3, 0⟩, ⟨1, 0⟩, ⟨1, 1⟩] : List S45) [] [] [] [0, 1, 3] = some true) :
  Calls Try.prog 5 #[] w fun e w' => e = .returned (.bool true) ∧ Below w.heap.size w w' := by
 have H1 := M_ h1
 clear h1
 have H2 := M_ h2
 clear h2
 have H3 := M_ h3
 clear h3
 have H4 := M_ h4
 clear h4
 have H5 := M_ h5
 clear h5
 have H6 := M_ h6
 clear h6
 have H7 := M_ h7
 clear h7
 have AL := M_ al
 clear al
 have S1 := M_ s1
 clear s1
 have S2 := M_ s2
 clear s2
 have S3 := M_ s3
 clear s3
 have S4 := M_ s4
 clear s4
 have S5 := M_ s5
 clear s5
 have H8 := M_ h8
 clear h8
 have S6 := M_ s6
 clear s6
 have S7 := M_ s7
 clear s7
 have hu26 := Try.underlying26
 have hu35 := Try.underlying35
 have hu37 := Try.underlying37
 have hu39 := Try.underlying39
 have hu45 := Try.underlying45
 have hu55 := Try.underlying55
 have HB := M_ (Below.refl w.heap.size w)
 go_enter Try.func5, Try.ntmps5
 go_upto_region 2 with fail
 obtain ⟨w1, hwc⟩ : ∃ x, x = w.alloc (.cells #[.int .i64 (-1), .slice none 0 0, .slice none 0 0, .slice none 0 0, .slice none 0 0] 26) := ⟨_, rfl⟩
 have K1 : Aside0 (w1.heap[w.heap.size]? = some (.cells #[.int .i64 (-1), .slice none 0 0, .slice none 0 0, .slice none 0 0, .slice none 0 0] 26 (0, 0))) := ⟨by rw [hwc]; exact heap_alloc_new w _⟩
 have hb : Below w.heap.size w w1 := by rw [hwc]; exact below_alloc (Below.refl _ _) _
 have N_ := M_ (below_step HB.out hb); clear HB; have HB := N_; clear N_
 clear hb
 rw [← hwc]
 clear hwc
 generalize w.heap.size = g1 at K1 ⊢
 have y0 := (blk_cell K1.out 0).trans (show _ = some (.int .i64 (-1)) from rfl)
 have y1 := (blk_cell K1.out 1).trans (show _ = some (.slice none 0 0) from rfl)
 have y2 := (blk_cell K1.out 2).trans (show _ = some (.slice none 0 0) from rfl)
 have y3 := (blk_cell K1.out 3).trans (show _ = some (.slice none 0 0) from rfl)
 have y4 := (blk_cell K1.out 4).trans (show _ = some (.slice none 0 0) from rfl)
 go_upto_region 3 with ((with_reducible refine gate_callee (f := 11) rfl ?_); refine goesL_ (some 18) rfl rfl Try.func11 (by kernel_rfl) rfl #[.agg #[.int .i64 (-1), .slice none ([] : List S45).length 0, .slice none ([] : List S55).length 0, .slice none ([] : List Int).length 0, .slice none ([] : List Int).length 0]] rfl (by (try simp only [List.map_toArray, List.map_cons, List.map_nil]); first | done | rfl) ?_; (with_reducible refine (constants_Stay.calls k (-1) _ _ [] _ _ [] _ _ [] _ _ [] b0 8 _ ?s0 ?s1 ?s2 ?s3 ?s4 ?s5 ?s6 ?s7 H1.out).mono ?_); (case s0 => exact Kd.C_nil _ _); (case s1 => exact Nat.le_refl _); (case s2 => exact Kd.C_nil _ _); (case s3 => exact Nat.le_refl _); (case s4 => exact Kd.C_nil _ _); (case s5 => exact Nat.le_refl _); (case s6 => exact Kd.C_nil _ _); (case s7 => exact Nat.le_refl _); rintro e w5 ⟨v, rfl, o0, hb⟩; refine ⟨_, rfl, ?_⟩; have N_ := M_ (below_step HB.out hb); clear HB; have HB := N_; clear N_; have N_ := M_ (blk_below K1.out hb); clear K1; have K1 := N_; clear N_; obtain ⟨Ab0, cb0, rfl⟩ := Kd.R_slice o0; clear hb o0)
 clear y0 y1 y2 y3 y4
 have y0 := (blk_cell K1.out 0).trans (show _ = some (.int .i64 (-1)) from rfl)
 have y1 := (blk_cell K1.out 1).trans (show _ = some (.slice none 0 0) from rfl)
 have y2 := (blk_cell K1.out 2).trans (show _ = some (.slice none 0 0) from rfl)
 have y3 := (blk_cell K1.out 3).trans (show _ = some (.slice none 0 0) from rfl)
 have y4 := (blk_cell K1.out 4).trans (show _ = some (.slice none 0 0) from rfl)
 go_upto_region 4 with ((with_reducible refine gate_callee (f := 12) rfl ?_); refine goesL_ (some 23) rfl rfl Try.func12 (by kernel_rfl) rfl #[.agg #[.int .i64 (-1), .slice none ([] : List S45).length 0, .slice none ([] : List S55).length 0, .slice none ([] : List Int).length 0, .slice none ([] : List Int).length 0]] rfl (by (try simp only [List.map_toArray, List.map_cons, List.map_nil]); first | done | rfl) ?_; (with_reducible refine (constants_Pass.calls k (-1) _ _ [] _ _ [] _ _ [] _ _ [] bi b1 b2 b3 b4 bs bp b7 b8 b9 bA bl 8 _ ?s0 ?s1 ?s2 ?s3 ?s4 ?s5 ?s6 ?s7 H2.out).mono ?_); (case s0 => exact Kd.C_nil _ _); (case s1 => exact Nat.le_refl _); (case s2 => exact Kd.C_nil _ _); (case s3 => exact Nat.le_refl _); (case s4 => exact Kd.C_nil _ _); (case s5 => exact Nat.le_refl _); (case s6 => exact Kd.C_nil _ _); (case s7 => exact Nat.le_refl _); rintro e w2 ⟨v1, v2, v3, v4, v7, v8, v9, v10, rfl, o1, o2, o3, o4, o7, o8, o9, oA, hb⟩; refine ⟨_, rfl, ?_⟩; have N_ := M_ (below_step HB.out hb); clear HB; have HB := N_; clear N_; have N_ := M_ (blk_below K1.out hb); clear K1; have K1 := N_; clear N_; clear hb; obtain ⟨Ab1, cb1, rfl⟩ := Kd.R_slice o1; obtain ⟨Ab2, cb2, rfl⟩ := Kd.R_slice o2; obtain ⟨Ab3, cb3, rfl⟩ := Kd.R_slice o3; obtain ⟨Ab4, cb4, rfl⟩ := Kd.R_slice o4; obtain ⟨Ab7, cb7, rfl⟩ := Kd.R_slice o7; obtain ⟨Ab8, cb8, rfl⟩ := Kd.S_slice o8; clear o1 o2 o3 o4 o7 o8; obtain ⟨Ab9, cb9, rfl⟩ := Kd.R_slice o9; obtain ⟨AbA, cbA, rfl⟩ := Kd.R_slice oA; clear o9 oA)
 clear y0 y1 y2 y3 y4
 clear K1
 obtain ⟨w3, hwc⟩ : ∃ x, x = w2.alloc (.cells #[.int .i64 bi, .slice Ab1 b1.length cb1, .slice Ab2 b2.length cb2, .slice Ab3 b3.length cb3, .slice Ab4 b4.length cb4, .int .i64 bs, .int .i64 bp, .slice Ab7 b7.length cb7, .slice Ab8 b8.length cb8, .slice Ab9 b9.length cb9, .slice AbA bA.length cbA, .int .i64 bl] 39) := ⟨_, rfl⟩
 have K4 : Aside0 (w3.heap[w2.heap.size]? = some (.cells #[.int .i64 bi, .slice Ab1 b1.length cb1, .slice Ab2 b2.length cb2, .slice Ab3 b3.length cb3, .slice Ab4 b4.length cb4, .int .i64 bs, .int .i64 bp, .slice Ab7 b7.length cb7, .slice Ab8 b8.length cb8, .slice Ab9 b9.length cb9, .slice AbA bA.length cbA, .int .i64 bl] 39 (0, 0))) := ⟨by rw [hwc]; exact heap_alloc_new w2 _⟩
 have hb : Below w2.heap.size w2 w3 := by rw [hwc]; exact below_alloc (Below.refl _ _) _
 have N_ := M_ (below_step HB.out hb); clear HB; have HB := N_; clear N_
 clear hb
 rw [← hwc]
 clear hwc
 generalize w2.heap.size = g4 at K4 ⊢
 clear K4
 go_upto_region 5 with ((with_reducible refine gate_callee (f := 12) rfl ?_); refine goesL_ (some 28) rfl rfl Try.func12 (by kernel_rfl) rfl #[.agg #[.int .i64 1001, .slice none ([] : List S45).length 0, .slice none ([] : List S55).length 0, .slice none ([] : List Int).length 0, .slice none ([] : List Int).length 0]] rfl (by (try simp only [List.map_toArray, List.map_cons, List.map_nil]); first | done | rfl) ?_; (with_reducible refine (constants_Pass.calls k 1001 _ _ [] _ _ [] _ _ [] _ _ [] mi m1 m2 m3 m4 ms mp m7 m8 m9 mA ml 4 _ ?s0 ?s1 ?s2 ?s3 ?s4 ?s5 ?s6 ?s7 H3.out).mono ?_); (case s0 => exact Kd.C_nil _ _); (case s1 => exact Nat.le_refl _); (case s2 => exact Kd.C_nil _ _); (case s3 => exact Nat.le_refl _); (case s4 => exact Kd.C_nil _ _); (case s5 => exact Nat.le_refl _); (case s6 => exact Kd.C_nil _ _); (case s7 => exact Nat.le_refl _); rintro e w4 ⟨v1, v2, v3, v4, v7, v8, v9, v10, rfl, o1, o2, o3, o4, o7, o8, o9, oA, hb⟩; refine ⟨_, rfl, ?_⟩; have N_ := M_ (below_step HB.out hb); clear HB; have HB := N_; clear N_; clear hb; obtain ⟨Am1, cm1, rfl⟩ := Kd.R_slice o1; obtain ⟨Am2, cm2, rfl⟩ := Kd.R_slice o2; obtain ⟨Am3, cm3, rfl⟩ := Kd.R_slice o3; obtain ⟨Am4, cm4, rfl⟩ := Kd.R_slice o4; obtain ⟨Am7, cm7, rfl⟩ := Kd.R_slice o7; obtain ⟨Am8, cm8, rfl⟩ := Kd.S_slice o8; clear o1 o2 o3 o4 o7 o8; obtain ⟨Am9, cm9, rfl⟩ := Kd.R_slice o9; obtain ⟨AmA, cmA, rfl⟩ := Kd.R_slice oA; clear o9 oA)
 obtain ⟨w5, hwc⟩ : ∃ x, x = w4.alloc (.cells #[.int .i64 mi, .slice Am1 m1.length cm1, .slice Am2 m2.length cm2, .slice Am3 m3.length cm3, .slice Am4 m4.length cm4, .int .i64 ms, .int .i64 mp, .slice Am7 m7.length cm7, .slice Am8 m8.length cm8, .slice Am9 m9.length cm9, .slice AmA mA.length cmA, .int .i64 ml] 39) := ⟨_, rfl⟩
 have K6 : Aside0 (w5.heap[w4.heap.size]? = some (.cells #[.int .i64 mi, .slice Am1 m1.length cm1, .slice Am2 m2.length cm2, .slice Am3 m3.length cm3, .slice Am4 m4.length cm4, .int .i64 ms, .int .i64 mp, .slice Am7 m7.length cm7, .slice Am8 m8.length cm8, .slice Am9 m9.length cm9, .slice AmA mA.length cmA, .int .i64 ml] 39 (0, 0))) := ⟨by rw [hwc]; exact heap_alloc_new w4 _⟩
 have hb : Below w4.heap.size w4 w5 := by rw [hwc]; exact below_alloc (Below.refl _ _) _
 have N_ := M_ (below_step HB.out hb); clear HB; have HB := N_; clear N_
 clear hb
 rw [← hwc]
 clear hwc
 generalize w4.heap.size = g6 at K6 ⊢
 clear K6
 go_upto_region 6 with ((with_reducible refine gate_callee (f := 20) rfl ?_); refine goesL_ (some 31) rfl rfl Try.func20 (by kernel_rfl) rfl #[.int .i64 1, .int .i64 1, .int .i64 1] rfl (by (try simp only [List.map_toArray, List.map_cons, List.map_nil]); first | done | rfl) ?_; (with_reducible refine (spiritlevellaw27_turning.calls 1 1 1 ri r1 r2 r3 r4 _ H4.out).mono ?_); rintro e w6 ⟨v1, v2, v3, v4, rfl, o1, o2, o3, o4, hb⟩; refine ⟨_, rfl, ?_⟩; have N_ := M_ (below_step HB.out hb); clear HB; have HB := N_; clear N_; clear hb; obtain ⟨Ar1, cr1, rfl⟩ := Kd.R_slice o1; have Cr1 := M_ (Kd.R_reads' o1).2.2; have lr1 := M_ (Kd.R_reads' o1).2.1; obtain ⟨Ar2, cr2, rfl⟩ := Kd.R_slice o2; have Cr2 := M_ (Kd.R_reads' o2).2.2; have lr2 := M_ (Kd.R_reads' o2).2.1; obtain ⟨Ar3, cr3, rfl⟩ := Kd.R_slice o3; have Cr3 := M_ (Kd.R_reads' o3).2.2; have lr3 := M_ (Kd.R_reads' o3).2.1; obtain ⟨Ar4, cr4, rfl⟩ := Kd.R_slice o4; have Cr4 := M_ (Kd.R_reads' o4).2.2; have lr4 := M_ (Kd.R_reads' o4).2.1; clear o1 o2 o3 o4)
 obtain ⟨w7, hwc⟩ : ∃ x, x = w6.alloc (.cells #[.int .i64 ri, .slice Ar1 r1.length cr1, .slice Ar2 r2.length cr2, .slice Ar3 r3.length cr3, .slice Ar4 r4.length cr4] 26) := ⟨_, rfl⟩
 have K8 : Aside0 (w7.heap[w6.heap.size]? = some (.cells #[.int .i64 ri, .slice Ar1 r1.length cr1, .slice Ar2 r2.length cr2, .slice Ar3 r3.length cr3, .slice Ar4 r4.length cr4] 26 (0, 0))) := ⟨by rw [hwc]; exact heap_alloc_new w6 _⟩
 have hb : Below w6.heap.size w6 w7 := by rw [hwc]; exact below_alloc (Below.refl _ _) _
 have N_ := M_ (below_step HB.out hb); clear HB; have HB := N_; clear N_; have N_ := M_ (Kd.C_below Cr1.out hb); clear Cr1; have Cr1 := N_; clear N_; have N_ := M_ (Kd.C_below Cr2.out hb); clear Cr2; have Cr2 := N_; clear N_; have N_ := M_ (Kd.C_below Cr3.out hb); clear Cr3; have Cr3 := N_; clear N_; have N_ := M_ (Kd.C_below Cr4.out hb); clear Cr4; have Cr4 := N_; clear N_
 clear hb
 rw [← hwc]
 clear hwc
 generalize w6.heap.size = g8 at K8 ⊢
 have y0 := (blk_cell K8.out 0).trans (show _ = some (.int .i64 ri) from rfl)
 have y1 := (blk_cell K8.out 1).trans (show _ = some (.slice Ar1 r1.length cr1) from rfl)
 have y2 := (blk_cell K8.out 2).trans (show _ = some (.slice Ar2 r2.length cr2) from rfl)
 have y3 := (blk_cell K8.out 3).trans (show _ = some (.slice Ar3 r3.length cr3) from rfl)
 have y4 := (blk_cell K8.out 4).trans (show _ = some (.slice Ar4 r4.length cr4) from rfl)
 go_upto_region 7 with ((with_reducible refine gate_callee (f := 12) rfl ?_); refine goesL_ (some 34) rfl rfl Try.func12 (by kernel_rfl) rfl #[.agg #[.int .i64 ri, .slice Ar1 r1.length cr1, .slice Ar2 r2.length cr2, .slice Ar3 r3.length cr3, .slice Ar4 r4.length cr4]] rfl (by (try simp only [List.map_toArray, List.map_cons, List.map_nil]); first | done | rfl) ?_; (with_reducible refine (constants_Pass.calls k ri _ _ r1 _ _ r2 _ _ r3 _ _ r4 pi p1 p2 p3 p4 ps pp p7 p8 p9 pA pl 0 _ ?s0 ?s1 ?s2 ?s3 ?s4 ?s5 ?s6 ?s7 H5.out).mono ?_); (case s0 => exact Cr1.out); (case s1 => exact lr1.out); (case s2 => exact Cr2.out); (case s3 => exact lr2.out); (case s4 => exact Cr3.out); (case s5 => exact lr3.out); (case s6 => exact Cr4.out); (case s7 => exact lr4.out); rintro e w8 ⟨v1, v2, v3, v4, v7, v8, v9, v10, rfl, o1, o2, o3, o4, o7, o8, o9, oA, hb⟩; refine ⟨_, rfl, ?_⟩; have N_ := M_ (below_step HB.out hb); clear HB; have HB := N_; clear N_; have N_ := M_ (Kd.C_below Cr1.out hb); clear Cr1; have Cr1 := N_; clear N_; have N_ := M_ (Kd.C_below Cr2.out hb); clear Cr2; have Cr2 := N_; clear N_; have N_ := M_ (Kd.C_below Cr3.out hb); clear Cr3; have Cr3 := N_; clear N_; have N_ := M_ (Kd.C_below Cr4.out hb); clear Cr4; have Cr4 := N_; clear N_; have N_ := M_ (blk_below K8.out hb); clear K8; have K8 := N_; clear N_; clear hb; obtain ⟨Ap1, cp1, rfl⟩ := Kd.R_slice o1; obtain ⟨Ap2, cp2, rfl⟩ := Kd.R_slice o2; obtain ⟨Ap3, cp3, rfl⟩ := Kd.R_slice o3; obtain ⟨Ap4, cp4, rfl⟩ := Kd.R_slice o4; obtain ⟨Ap7, cp7, rfl⟩ := Kd.R_slice o7; obtain ⟨Ap8, cp8, rfl⟩ := Kd.S_slice o8; clear o1 o2 o3 o4 o7 o8; obtain ⟨Ap9, cp9, rfl⟩ := Kd.R_slice o9; obtain ⟨ApA, cpA, rfl⟩ := Kd.R_slice oA; have CpA := M_ (Kd.R_reads' oA).2.2; have lpA := M_ (Kd.R_reads' oA).2.1; clear o9 oA)
 clear y0 y1 y2 y3 y4
 obtain ⟨w9, hwc⟩ : ∃ x, x = w8.alloc (.cells #[.int .i64 pi, .slice Ap1 p1.length cp1, .slice Ap2 p2.length cp2, .slice Ap3 p3.length cp3, .slice Ap4 p4.length cp4, .int .i64 ps, .int .i64 pp, .slice Ap7 p7.length cp7, .slice Ap8 p8.length cp8, .slice Ap9 p9.length cp9, .slice ApA pA.length cpA, .int .i64 pl] 39) := ⟨_, rfl⟩
 have K9 : Aside0 (w9.heap[w8.heap.size]? = some (.cells #[.int .i64 pi, .slice Ap1 p1.length cp1, .slice Ap2 p2.length cp2, .slice Ap3 p3.length cp3, .slice Ap4 p4.length cp4, .int .i64 ps, .int .i64 pp, .slice Ap7 p7.length cp7, .slice Ap8 p8.length cp8, .slice Ap9 p9.length cp9, .slice ApA pA.length cpA, .int .i64 pl] 39 (0, 0))) := ⟨by rw [hwc]; exact heap_alloc_new w8 _⟩
 have hb : Below w8.heap.size w8 w9 := by rw [hwc]; exact below_alloc (Below.refl _ _) _
 have N_ := M_ (below_step HB.out hb); clear HB; have HB := N_; clear N_; have N_ := M_ (Kd.C_below Cr1.out hb); clear Cr1; have Cr1 := N_; clear N_; have N_ := M_ (Kd.C_below Cr2.out hb); clear Cr2; have Cr2 := N_; clear N_; have N_ := M_ (Kd.C_below Cr3.out hb); clear Cr3; have Cr3 := N_; clear N_; have N_ := M_ (Kd.C_below Cr4.out hb); clear Cr4; have Cr4 := N_; clear N_; have N_ := M_ (blk_below K8.out hb); clear K8; have K8 := N_; clear N_; have N_ := M_ (Kd.C_below CpA.out hb); clear CpA; have CpA := N_; clear N_
 clear hb
 rw [← hwc]
 clear hwc
 generalize w8.heap.size = g9 at K9 ⊢
 go_upto_region 8 with ((with_reducible refine gate_dst (N := 39) rfl ?_); refine Kd.R_lit k55 _ 55 ?hg (N := 39) ?hd (xs := ([⟨4, 2⟩, ⟨8, 6⟩] : List S55)) (inner := [.int .i64 4, .int .i64 2, .int .i64 8, .int .i64 6]) (ok := fun _ => True) (okp := fun _ => True) ?hr ?hp (fun _ hk => hk) trivial (Below.refl _ _) (Nat.le_refl _) (by simp) ?_; (case hd => rfl); (case hg => rfl); (case hr => first | (go_simp; done) | (go_simp; rfl)); (case hp => exact (Reps.c2 (show Kd.M k55 _ _ _ (⟨4, 2⟩ : S55) [.int .i64 4, .int .i64 2] from (k55_mkM _ _ _ (⟨4, 2⟩ : S55))) (Reps.c2 (show Kd.M k55 _ _ _ (⟨8, 6⟩ : S55) [.int .i64 8, .int .i64 6] from (k55_mkM _ _ _ (⟨8, 6⟩ : S55))) (Reps.none _ _)))); intro v1 w10 ho hb hg hn; clear hg hn; have N_ := M_ (below_step HB.out hb); clear HB; have HB := N_; clear N_; have N_ := M_ (Kd.C_below Cr1.out hb); clear Cr1; have Cr1 := N_; clear N_; have N_ := M_ (Kd.C_below Cr2.out hb); clear Cr2; have Cr2 := N_; clear N_; have N_ := M_ (Kd.C_below Cr3.out hb); clear Cr3; have Cr3 := N_; clear N_; have N_ := M_ (Kd.C_below Cr4.out hb); clear Cr4; have Cr4 := N_; clear N_; have N_ := M_ (blk_below K8.out hb); clear K8; have K8 := N_; clear N_; have N_ := M_ (Kd.C_below CpA.out hb); clear CpA; have CpA := N_; clear N_; have N_ := M_ (blk_below K9.out hb); clear K9; have K9 := N_; clear N_; obtain ⟨AP, cP, rfl⟩ := Kd.R_slice ho; have CP := M_ (Kd.R_reads' ho).2.2; have lP := M_ (Kd.R_reads' ho).2.1; clear ho hb)
 obtain ⟨w11, hwc⟩ : ∃ x, x = w10.alloc (.cells #[.slice AP 2 cP, .int .i64 10] 35) := ⟨_, rfl⟩
 have K11 : Aside0 (w11.heap[w10.heap.size]? = some (.cells #[.slice AP 2 cP, .int .i64 10] 35 (0, 0))) := ⟨by rw [hwc]; exact heap_alloc_new w10 _⟩
 have hb : Below w10.heap.size w10 w11 := by rw [hwc]; exact below_alloc (Below.refl _ _) _
 have N_ := M_ (below_step HB.out hb); clear HB; have HB := N_; clear N_; have N_ := M_ (Kd.C_below Cr1.out hb); clear Cr1; have Cr1 := N_; clear N_; have N_ := M_ (Kd.C_below Cr2.out hb); clear Cr2; have Cr2 := N_; clear N_; have N_ := M_ (Kd.C_below Cr3.out hb); clear Cr3; have Cr3 := N_; clear N_; have N_ := M_ (Kd.C_below Cr4.out hb); clear Cr4; have Cr4 := N_; clear N_; have N_ := M_ (blk_below K8.out hb); clear K8; have K8 := N_; clear N_; have N_ := M_ (Kd.C_below CpA.out hb); clear CpA; have CpA := N_; clear N_; have N_ := M_ (blk_below K9.out hb); clear K9; have K9 := N_; clear N_; have N_ := M_ (Kd.C_below CP.out hb); clear CP; have CP := N_; clear N_
 clear hb
 rw [← hwc]
 clear hwc
 generalize w10.heap.size = g11 at K11 ⊢
 go_upto_region 9 with (first
  | ((with_reducible refine gate_callee (f := 20) rfl ?_); refine goesL_ (some 42) rfl rfl Try.func20 (by kernel_rfl) rfl #[.int .i64 1, .int .i64 0, .int .i64 1] rfl (by (try simp only [List.map_toArray, List.map_cons, List.map_nil]); first | done | rfl) ?_; (with_reducible refine (spiritlevellaw27_turning.calls 1 0 1 ti t1 t2 t3 t4 _ H6.out).mono ?_); rintro e w12 ⟨v1, v2, v3, v4, rfl, o1, o2, o3, o4, hb⟩; refine ⟨_, rfl, ?_⟩; have N_ := M_ (below_step HB.out hb); clear HB; have HB := N_; clear N_; have N_ := M_ (Kd.C_below Cr1.out hb); clear Cr1; have Cr1 := N_; clear N_; have N_ := M_ (Kd.C_below Cr2.out hb); clear Cr2; have Cr2 := N_; clear N_; have N_ := M_ (Kd.C_below Cr3.out hb); clear Cr3; have Cr3 := N_; clear N_; have N_ := M_ (Kd.C_below Cr4.out hb); clear Cr4; have Cr4 := N_; clear N_; have N_ := M_ (blk_below K8.out hb); clear K8; have K8 := N_; clear N_; have N_ := M_ (Kd.C_below CpA.out hb); clear CpA; have CpA := N_; clear N_; have N_ := M_ (blk_below K9.out hb); clear K9; have K9 := N_; clear N_; have N_ := M_ (Kd.C_below CP.out hb); clear CP; have CP := N_; clear N_; have N_ := M_ (blk_below K11.out hb); clear K11; have K11 := N_; clear N_; clear hb; obtain ⟨At1, ct1, rfl⟩ := Kd.R_slice o1; have Ct1 := M_ (Kd.R_reads' o1).2.2; have lt1 := M_ (Kd.R_reads' o1).2.1; obtain ⟨At2, ct2, rfl⟩ := Kd.R_slice o2; have Ct2 := M_ (Kd.R_reads' o2).2.2; have lt2 := M_ (Kd.R_reads' o2).2.1; obtain ⟨At3, ct3, rfl⟩ := Kd.R_slice o3; have Ct3 := M_ (Kd.R_reads' o3).2.2; have lt3 := M_ (Kd.R_reads' o3).2.1; obtain ⟨At4, ct4, rfl⟩ := Kd.R_slice o4; have Ct4 := M_ (Kd.R_reads' o4).2.2; have lt4 := M_ (Kd.R_reads' o4).2.1; clear o1 o2 o3 o4)
  | ((with_reducible refine gate_callee (f := 12) rfl ?_); refine goesL_ (some 43) rfl rfl Try.func12 (by kernel_rfl) rfl #[.agg #[.int .i64 ti, .slice At1 t1.length ct1, .slice At2 t2.length ct2, .slice At3 t3.length ct3, .slice At4 t4.length ct4]] rfl (by (try simp only [List.map_toArray, List.map_cons, List.map_nil]); first | done | rfl) ?_; (with_reducible refine (constants_Pass.calls k ti _ _ t1 _ _ t2 _ _ t3 _ _ t4 ni n1 n2 n3 n4 ns np n7 n8 n9 nA nl 0 _ ?s0 ?s1 ?s2 ?s3 ?s4 ?s5 ?s6 ?s7 H7.out).mono ?_); (case s0 => exact Ct1.out); (case s1 => exact lt1.out); (case s2 => exact Ct2.out); (case s3 => exact lt2.out); (case s4 => exact Ct3.out); (case s5 => exact lt3.out); (case s6 => exact Ct4.out); (case s7 => exact lt4.out); rintro e w13 ⟨v1, v2, v3, v4, v7, v8, v9, v10, rfl, o1, o2, o3, o4, o7, o8, o9, oA, hb⟩; refine ⟨_, rfl, ?_⟩; have N_ := M_ (below_step HB.out hb); clear HB; have HB := N_; clear N_; have N_ := M_ (Kd.C_below Cr1.out hb); clear Cr1; have Cr1 := N_; clear N_; have N_ := M_ (Kd.C_below Cr2.out hb); clear Cr2; have Cr2 := N_; clear N_; have N_ := M_ (Kd.C_below Cr3.out hb); clear Cr3; have Cr3 := N_; clear N_; have N_ := M_ (Kd.C_below Cr4.out hb); clear Cr4; have Cr4 := N_; clear N_; have N_ := M_ (blk_below K8.out hb); clear K8; have K8 := N_; clear N_; have N_ := M_ (Kd.C_below CpA.out hb); clear CpA; have CpA := N_; clear N_; have N_ := M_ (blk_below K9.out hb); clear K9; have K9 := N_; clear N_; have N_ := M_ (Kd.C_below CP.out hb); clear CP; have CP := N_; clear N_; have N_ := M_ (blk_below K11.out hb); clear K11; have K11 := N_; clear N_; have N_ := M_ (Kd.C_below Ct1.out hb); clear Ct1; have Ct1 := N_; clear N_; have N_ := M_ (Kd.C_below Ct2.out hb); clear Ct2; have Ct2 := N_; clear N_; have N_ := M_ (Kd.C_below Ct3.out hb); clear Ct3; have Ct3 := N_; clear N_; have N_ := M_ (Kd.C_below Ct4.out hb); clear Ct4; have Ct4 := N_; clear N_; clear hb; obtain ⟨An1, cn1, rfl⟩ := Kd.R_slice o1; have Cn1 := M_ (Kd.R_reads' o1).2.2; have ln1 := M_ (Kd.R_reads' o1).2.1; obtain ⟨An2, cn2, rfl⟩ := Kd.R_slice o2; have Cn2 := M_ (Kd.R_reads' o2).2.2; have ln2 := M_ (Kd.R_reads' o2).2.1; obtain ⟨An3, cn3, rfl⟩ := Kd.R_slice o3; have Cn3 := M_ (Kd.R_reads' o3).2.2; have ln3 := M_ (Kd.R_reads' o3).2.1; obtain ⟨An4, cn4, rfl⟩ := Kd.R_slice o4; have Cn4 := M_ (Kd.R_reads' o4).2.2; have ln4 := M_ (Kd.R_reads' o4).2.1; obtain ⟨An7, cn7, rfl⟩ := Kd.R_slice o7; obtain ⟨An8, cn8, rfl⟩ := Kd.S_slice o8; clear o1 o2 o3 o4 o7 o8; obtain ⟨An9, cn9, rfl⟩ := Kd.R_slice o9; obtain ⟨AnA, cnA, rfl⟩ := Kd.R_slice oA; have CnA := M_ (Kd.R_reads' oA).2.2; have lnA := M_ (Kd.R_reads' oA).2.1; clear o9 oA))
 clear Ct1 Ct2 Ct3 Ct4 lt1 lt2 lt3 lt4
 obtain ⟨w14, hwc⟩ : ∃ x, x = w13.alloc (.cells #[.int .i64 ni, .slice An1 n1.length cn1, .slice An2 n2.length cn2, .slice An3 n3.length cn3, .slice An4 n4.length cn4, .int .i64 ns, .int .i64 np, .slice An7 n7.length cn7, .slice An8 n8.length cn8, .slice An9 n9.length cn9, .slice AnA nA.length cnA, .int .i64 nl] 39) := ⟨_, rfl⟩
 have K12 : Aside0 (w14.heap[w13.heap.size]? = some (.cells #[.int .i64 ni, .slice An1 n1.length cn1, .slice An2 n2.length cn2, .slice An3 n3.length cn3, .slice An4 n4.length cn4, .int .i64 ns, .int .i64 np, .slice An7 n7.length cn7, .slice An8 n8.length cn8, .slice An9 n9.length cn9, .slice AnA nA.length cnA, .int .i64 nl] 39 (0, 0))) := ⟨by rw [hwc]; exact heap_alloc_new w13 _⟩
 have hb : Below w13.heap.size w13 w14 := by rw [hwc]; exact below_alloc (Below.refl _ _) _
 have N_ := M_ (below_step HB.out hb); clear HB; have HB := N_; clear N_; have N_ := M_ (Kd.C_below Cr1.out hb); clear Cr1; have Cr1 := N_; clear N_; have N_ := M_ (Kd.C_below Cr2.out hb); clear Cr2; have Cr2 := N_; clear N_; have N_ := M_ (Kd.C_below Cr3.out hb); clear Cr3; have Cr3 := N_; clear N_; have N_ := M_ (Kd.C_below Cr4.out hb); clear Cr4; have Cr4 := N_; clear N_; have N_ := M_ (blk_below K8.out hb); clear K8; have K8 := N_; clear N_; have N_ := M_ (Kd.C_below CpA.out hb); clear CpA; have CpA := N_; clear N_; have N_ := M_ (blk_below K9.out hb); clear K9; have K9 := N_; clear N_; have N_ := M_ (Kd.C_below CP.out hb); clear CP; have CP := N_; clear N_; have N_ := M_ (blk_below K11.out hb); clear K11; have K11 := N_; clear N_; have N_ := M_ (Kd.C_below Cn1.out hb); clear Cn1; have Cn1 := N_; clear N_; have N_ := M_ (Kd.C_below Cn2.out hb); clear Cn2; have Cn2 := N_; clear N_; have N_ := M_ (Kd.C_below Cn3.out hb); clear Cn3; have Cn3 := N_; clear N_; have N_ := M_ (Kd.C_below Cn4.out hb); clear Cn4; have Cn4 := N_; clear N_; have N_ := M_ (Kd.C_below CnA.out hb); clear CnA; have CnA := N_; clear N_
 clear hb
 rw [← hwc]
 clear hwc
 generalize w13.heap.size = g12 at K12 ⊢
 go_upto_region 10 with ((with_reducible refine gate_dst (N := 50) rfl ?_); refine Kd.R_lit k45 _ 45 ?hg (N := 50) ?hd (xs := ([⟨2, 1⟩, ⟨3, 0⟩, ⟨1, 0⟩, ⟨1, 1⟩] : List S45)) (inner := [.int .i64 2, .int .i64 1, .int .i64 3, .int .i64 0, .int .i64 1, .int .i64 0, .int .i64 1, .int .i64 1]) (ok := fun _ => True) (okp := fun _ => True) ?hr ?hp (fun _ hk => hk) trivial (Below.refl _ _) (Nat.le_refl _) (by simp) ?_; (case hd => rfl); (case hg => rfl); (case hr => first | (go_simp; done) | (go_simp; rfl)); (case hp => exact (Reps.c2 (show Kd.M k45 _ _ _ (⟨2, 1⟩ : S45) [.int .i64 2, .int .i64 1] from (k45_mkM _ _ _ (⟨2, 1⟩ : S45))) (Reps.c2 (show Kd.M k45 _ _ _ (⟨3, 0⟩ : S45) [.int .i64 3, .int .i64 0] from (k45_mkM _ _ _ (⟨3, 0⟩ : S45))) (Reps.c2 (show Kd.M k45 _ _ _ (⟨1, 0⟩ : S45) [.int .i64 1, .int .i64 0] from (k45_mkM _ _ _ (⟨1, 0⟩ : S45))) (Reps.c2 (show Kd.M k45 _ _ _ (⟨1, 1⟩ : S45) [.int .i64 1, .int .i64 1] from (k45_mkM _ _ _ (⟨1, 1⟩ : S45))) (Reps.none _ _)))))); intro v1 w15 ho hb hg hn; clear hg hn; have N_ := M_ (below_step HB.out hb); clear HB; have HB := N_; clear N_; have N_ := M_ (Kd.C_below Cr1.out hb); clear Cr1; have Cr1 := N_; clear N_; have N_ := M_ (Kd.C_below Cr2.out hb); clear Cr2; have Cr2 := N_; clear N_; have N_ := M_ (Kd.C_below Cr3.out hb); clear Cr3; have Cr3 := N_; clear N_; have N_ := M_ (Kd.C_below Cr4.out hb); clear Cr4; have Cr4 := N_; clear N_; have N_ := M_ (blk_below K8.out hb); clear K8; have K8 := N_; clear N_; have N_ := M_ (Kd.C_below CpA.out hb); clear CpA; have CpA := N_; clear N_; have N_ := M_ (blk_below K9.out hb); clear K9; have K9 := N_; clear N_; have N_ := M_ (Kd.C_below CP.out hb); clear CP; have CP := N_; clear N_; have N_ := M_ (blk_below K11.out hb); clear K11; have K11 := N_; clear N_; have N_ := M_ (Kd.C_below Cn1.out hb); clear Cn1; have Cn1 := N_; clear N_; have N_ := M_ (Kd.C_below Cn2.out hb); clear Cn2; have Cn2 := N_; clear N_; have N_ := M_ (Kd.C_below Cn3.out hb); clear Cn3; have Cn3 := N_; clear N_; have N_ := M_ (Kd.C_below Cn4.out hb); clear Cn4; have Cn4 := N_; clear N_; have N_ := M_ (Kd.C_below CnA.out hb); clear CnA; have CnA := N_; clear N_; have N_ := M_ (blk_below K12.out hb); clear K12; have K12 := N_; clear N_; obtain ⟨AH, cH, rfl⟩ := Kd.R_slice ho; have CH := M_ (Kd.R_reads' ho).2.2; have lH := M_ (Kd.R_reads' ho).2.1; clear ho hb)
 obtain ⟨w16, hwc⟩ : ∃ x, x = w15.alloc (.cells #[.int .i64 0, .slice AH 4 cH, .slice none 0 0, .slice none 0 0, .slice none 0 0] 26) := ⟨_, rfl⟩
 have K14 : Aside0 (w16.heap[w15.heap.size]? = some (.cells #[.int .i64 0, .slice AH 4 cH, .slice none 0 0, .slice none 0 0, .slice none 0 0] 26 (0, 0))) := ⟨by rw [hwc]; exact heap_alloc_new w15 _⟩
 have hb : Below w15.heap.size w15 w16 := by rw [hwc]; exact below_alloc (Below.refl _ _) _
 have N_ := M_ (below_step HB.out hb); clear HB; have HB := N_; clear N_; have N_ := M_ (Kd.C_below Cr1.out hb); clear Cr1; have Cr1 := N_; clear N_; have N_ := M_ (Kd.C_below Cr2.out hb); clear Cr2; have Cr2 := N_; clear N_; have N_ := M_ (Kd.C_below Cr3.out hb); clear Cr3; have Cr3 := N_; clear N_; have N_ := M_ (Kd.C_below Cr4.out hb); clear Cr4; have Cr4 := N_; clear N_; have N_ := M_ (blk_below K8.out hb); clear K8; have K8 := N_; clear N_; have N_ := M_ (Kd.C_below CpA.out hb); clear CpA; have CpA := N_; clear N_; have N_ := M_ (blk_below K9.out hb); clear K9; have K9 := N_; clear N_; have N_ := M_ (Kd.C_below CP.out hb); clear CP; have CP := N_; clear N_; have N_ := M_ (blk_below K11.out hb); clear K11; have K11 := N_; clear N_; have N_ := M_ (Kd.C_below Cn1.out hb); clear Cn1; have Cn1 := N_; clear N_; have N_ := M_ (Kd.C_below Cn2.out hb); clear Cn2; have Cn2 := N_; clear N_; have N_ := M_ (Kd.C_below Cn3.out hb); clear Cn3; have Cn3 := N_; clear N_; have N_ := M_ (Kd.C_below Cn4.out hb); clear Cn4; have Cn4 := N_; clear N_; have N_ := M_ (Kd.C_below CnA.out hb); clear CnA; have CnA := N_; clear N_; have N_ := M_ (blk_below K12.out hb); clear K12; have K12 := N_; clear N_; have N_ := M_ (Kd.C_below CH.out hb); clear CH; have CH := N_; clear N_
 clear hb
 rw [← hwc]
 clear hwc
 generalize w15.heap.size = g14 at K14 ⊢
 have HC : Aside0 (CB w16 g8 g9 g11 g12 g14 Ar1 cr1 Ar2 cr2 Ar3 cr3 Ar4 cr4 ApA cpA An1 cn1 An2 cn2 An3 cn3 An4 cn4 AnA cnA AP cP AH cH r1 r2 r3 r4 ri pA pl ni nl n1 n2 n3 n4 nA) := ⟨⟨(blk_cell K8.out 0).trans rfl, (blk_cell K8.out 1).trans rfl, (blk_cell K8.out 2).trans rfl, (blk_cell K8.out 3).trans rfl, (blk_cell K8.out 4).trans rfl, (blk_cell K9.out 10).trans rfl, (blk_cell K9.out 11).trans rfl, (blk_cell K11.out 0).trans rfl, (blk_cell K11.out 1).trans rfl, (blk_cell K12.out 0).trans rfl, (blk_cell K12.out 1).trans rfl, (blk_cell K12.out 2).trans rfl, (blk_cell K12.out 3).trans rfl, (blk_cell K12.out 4).trans rfl, (blk_cell K12.out 10).trans rfl, (blk_cell K12.out 11).trans rfl, (blk_cell K14.out 0).trans rfl, (blk_cell K14.out 1).trans rfl, (blk_cell K14.out 2).trans rfl, (blk_cell K14.out 3).trans rfl, (blk_cell K14.out 4).trans rfl⟩⟩
 have hb : Below w16.heap.size w16 w16.drew := below_drew (Below.refl _ _)
 have N_ := M_ (below_step HB.out hb); clear HB; have HB := N_; clear N_; have N_ := M_ (Kd.C_below Cr1.out hb); clear Cr1; have Cr1 := N_; clear N_; have N_ := M_ (Kd.C_below Cr2.out hb); clear Cr2; have Cr2 := N_; clear N_; have N_ := M_ (Kd.C_below Cr3.out hb); clear Cr3; have Cr3 := N_; clear N_; have N_ := M_ (Kd.C_below Cr4.out hb); clear Cr4; have Cr4 := N_; clear N_; have N_ := M_ (Kd.C_below CpA.out hb); clear CpA; have CpA := N_; clear N_; have N_ := M_ (Kd.C_below CP.out hb); clear CP; have CP := N_; clear N_; have N_ := M_ (Kd.C_below Cn1.out hb); clear Cn1; have Cn1 := N_; clear N_; have N_ := M_ (Kd.C_below Cn2.out hb); clear Cn2; have Cn2 := N_; clear N_; have N_ := M_ (Kd.C_below Cn3.out hb); clear Cn3; have Cn3 := N_; clear N_; have N_ := M_ (Kd.C_below Cn4.out hb); clear Cn4; have Cn4 := N_; clear N_; have N_ := M_ (Kd.C_below CnA.out hb); clear CnA; have CnA := N_; clear N_; have N_ := M_ (Kd.C_below CH.out hb); clear CH; have CH := N_; clear N_; have N_ := M_ (HC.out.below hb); clear HC; have HC := N_; clear N_
 clear hb K8 K9 K11 K12 K14
 refine wp_region_last_drew (S := fun W => CB W g8 g9 g11 g12 g14 Ar1 cr1 Ar2 cr2 Ar3 cr3 Ar4 cr4 ApA cpA An1 cn1 An2 cn2 An3 cn3 An4 cn4 AnA cnA AP cP AH cH r1 r2 r3 r4 ri pA pl ni nl n1 n2 n3 n4 nA) (ds := []) (by kernel_rfl) HC.out (fun hH => ?_)
 refine os_ 0 (by simp; rfl) (by kernel_rfl) (fun K hK => ?_)
 refine goes_ Try.func8 (by kernel_rfl) rfl #[] (by rfl) rfl rfl (by (try simp only [List.map_toArray, List.map_cons, List.map_nil]); first | done | rfl) ?_
 with_reducible refine (spiritlevellaw27_alive.calls k true _ AL.out).mono ?_
 rintro e we ⟨rfl, hb⟩
 refine ⟨_, rfl, ?_⟩
 have N_ := M_ (below_step HB.out hb); clear HB; have HB := N_; clear N_; have N_ := M_ (Kd.C_below Cr1.out hb); clear Cr1; have Cr1 := N_; clear N_; have N_ := M_ (Kd.C_below Cr2.out hb); clear Cr2; have Cr2 := N_; clear N_; have N_ := M_ (Kd.C_below Cr3.out hb); clear Cr3; have Cr3 := N_; clear N_; have N_ := M_ (Kd.C_below Cr4.out hb); clear Cr4; have Cr4 := N_; clear N_; have N_ := M_ (Kd.C_below CpA.out hb); clear CpA; have CpA := N_; clear N_; have N_ := M_ (Kd.C_below CP.out hb); clear CP; have CP := N_; clear N_; have N_ := M_ (Kd.C_below Cn1.out hb); clear Cn1; have Cn1 := N_; clear N_; have N_ := M_ (Kd.C_below Cn2.out hb); clear Cn2; have Cn2 := N_; clear N_; have N_ := M_ (Kd.C_below Cn3.out hb); clear Cn3; have Cn3 := N_; clear N_; have N_ := M_ (Kd.C_below Cn4.out hb); clear Cn4; have Cn4 := N_; clear N_; have N_ := M_ (Kd.C_below CnA.out hb); clear CnA; have CnA := N_; clear N_; have N_ := M_ (Kd.C_below CH.out hb); clear CH; have CH := N_; clear N_; have N_ := M_ (HC.out.below hb); clear HC; have HC := N_; clear N_; refine hK.out _ _ HC.out (fun hH => ?_); clear hK K
 iterate 14 (refine tk_ [0,1,2,3,4,5,6,7,8,9,10,11,12,13,14,15,16,17,18,19,20,21,22,23,24,25,26,27,28,29,30,31,32,33,34,35,36,37,38,39,40,41,42,43,44,45,46,47,48,49,50,51,52,53,54,55,56,57,58,59] (v := ?_) (by simp; rfl) (by kernel_rfl) (by exact fun _ _ _ h => h) (Or.inl ⟨by rfl, ?_⟩) hH ?_; rotate_left; (intro _ hS; obtain ⟨c0_, c1_, c2_, c3_, c4_, c5_, c6_, c7_, c8_, c9_, c10_, c11_, c12_, c13_, c14_, c15_, c16_, c17_, c18_, c19_, c20_⟩ := hS; go_simp; (try with_reducible rfl)); simp only [Act.put, e1_, e2_, e3_])
 refine os_ 15 (by simp; rfl) (by kernel_rfl) (fun K hK => ?_)
 refine Kd.R_lit_step (Kd.int .i64) _ 3 ?hg (N := 67) ?hd (xs := ([0, 1, 2] : List Int)) (inner := [.int .i64 0, .int .i64 1, .int .i64 2]) (ok := fun _ => True) (okp := fun _ => True) ?hr ?hp (fun _ hk => hk) trivial (Below.refl _ _) (Nat.le_refl _) (by simp) ?_; (case hd => rfl); (case hg => rfl); (case hr => first | (go_simp; done) | (go_simp; rfl)); (case hp => exact (Reps.one (show Kd.M (Kd.int .i64) _ _ _ 0 [.int .i64 0] from rfl) (Reps.one (show Kd.M (Kd.int .i64) _ _ _ 1 [.int .i64 1] from rfl) (Reps.one (show Kd.M (Kd.int .i64) _ _ _ 2 [.int .i64 2] from rfl) (Reps.none _ _)))))
 intro v1 we ho hb hg hn; clear hg hn; obtain ⟨Aq, cq, rfl⟩ := Kd.R_slice ho; have Cq := M_ (Kd.R_reads' ho).2.2; have lq := M_ (Kd.R_reads' ho).2.1; clear ho
 have N_ := M_ (below_step HB.out hb); clear HB; have HB := N_; clear N_; have N_ := M_ (Kd.C_below Cr1.out hb); clear Cr1; have Cr1 := N_; clear N_; have N_ := M_ (Kd.C_below Cr2.out hb); clear Cr2; have Cr2 := N_; clear N_; have N_ := M_ (Kd.C_below Cr3.out hb); clear Cr3; have Cr3 := N_; clear N_; have N_ := M_ (Kd.C_below Cr4.out hb); clear Cr4; have Cr4 := N_; clear N_; have N_ := M_ (Kd.C_below CpA.out hb); clear CpA; have CpA := N_; clear N_; have N_ := M_ (Kd.C_below CP.out hb); clear CP; have CP := N_; clear N_; have N_ := M_ (Kd.C_below Cn1.out hb); clear Cn1; have Cn1 := N_; clear N_; have N_ := M_ (Kd.C_below Cn2.out hb); clear Cn2; have Cn2 := N_; clear N_; have N_ := M_ (Kd.C_below Cn3.out hb); clear Cn3; have Cn3 := N_; clear N_; have N_ := M_ (Kd.C_below Cn4.out hb); clear Cn4; have Cn4 := N_; clear N_; have N_ := M_ (Kd.C_below CnA.out hb); clear CnA; have CnA := N_; clear N_; have N_ := M_ (Kd.C_below CH.out hb); clear CH; have CH := N_; clear N_; have N_ := M_ (HC.out.below hb); clear HC; have HC := N_; clear N_; refine hK.out _ _ HC.out (fun hH => ?_); clear hK K
 refine os_ 16 (by simp; rfl) (by kernel_rfl) (fun K hK => ?_)
 refine goes_ Try.func21 (by kernel_rfl) rfl #[.agg #[.int .i64 ri, .slice Ar1 r1.length cr1, .slice Ar2 r2.length cr2, .slice Ar3 r3.length cr3, .slice Ar4 r4.length cr4], .slice Aq ([0, 1, 2] : List Int).length cq] (by rfl) rfl rfl (by (try simp only [List.map_toArray, List.map_cons, List.map_nil]); first | done | rfl) ?_
 with_reducible refine (spiritlevellaw27_stay.calls k ri _ _ r1 _ _ r2 _ _ r3 _ _ r4 _ _ [0, 1, 2] true _ ?s0 ?s1 ?s2 ?s3 ?s4 ?s5 ?s6 ?s7 ?s8 ?s9 S1.out).mono ?_
 case s0 => exact Cr1.out
 case s1 => exact lr1.out
 case s2 => exact Cr2.out
 case s3 => exact lr2.out
 case s4 => exact Cr3.out
 case s5 => exact lr3.out
 case s6 => exact Cr4.out
 case s7 => exact lr4.out
 case s8 => exact Cq.out
 case s9 => exact lq.out
 rintro e we ⟨rfl, hb⟩
 refine ⟨_, rfl, ?_⟩
 clear Cq lq; have N_ := M_ (below_step HB.out hb); clear HB; have HB := N_; clear N_; have N_ := M_ (Kd.C_below Cr1.out hb); clear Cr1; have Cr1 := N_; clear N_; have N_ := M_ (Kd.C_below Cr2.out hb); clear Cr2; have Cr2 := N_; clear N_; have N_ := M_ (Kd.C_below Cr3.out hb); clear Cr3; have Cr3 := N_; clear N_; have N_ := M_ (Kd.C_below Cr4.out hb); clear Cr4; have Cr4 := N_; clear N_; have N_ := M_ (Kd.C_below CpA.out hb); clear CpA; have CpA := N_; clear N_; have N_ := M_ (Kd.C_below CP.out hb); clear CP; have CP := N_; clear N_; have N_ := M_ (Kd.C_below Cn1.out hb); clear Cn1; have Cn1 := N_; clear N_; have N_ := M_ (Kd.C_below Cn2.out hb); clear Cn2; have Cn2 := N_; clear N_; have N_ := M_ (Kd.C_below Cn3.out hb); clear Cn3; have Cn3 := N_; clear N_; have N_ := M_ (Kd.C_below Cn4.out hb); clear Cn4; have Cn4 := N_; clear N_; have N_ := M_ (Kd.C_below CnA.out hb); clear CnA; have CnA := N_; clear N_; have N_ := M_ (Kd.C_below CH.out hb); clear CH; have CH := N_; clear N_; have N_ := M_ (HC.out.below hb); clear HC; have HC := N_; clear N_; refine hK.out _ _ HC.out (fun hH => ?_); clear hK K
 iterate 10 (refine tk_ [0,1,2,3,4,5,6,7,8,9,10,11,12,13,14,15,16,17,18,19,20,21,22,23,24,25,26,27,28,29,30,31,32,33,34,35,36,37,38,39,40,41,42,43,44,45,46,47,48,49,50,51,52,53,54,55,56,57,58,59] (v := ?_) (by simp; rfl) (by kernel_rfl) (by exact fun _ _ _ h => h) (Or.inl ⟨by rfl, ?_⟩) hH ?_; rotate_left; (intro _ hS; obtain ⟨c0_, c1_, c2_, c3_, c4_, c5_, c6_, c7_, c8_, c9_, c10_, c11_, c12_, c13_, c14_, c15_, c16_, c17_, c18_, c19_, c20_⟩ := hS; go_simp; (try with_reducible rfl)); simp only [Act.put, e1_, e2_, e3_])
 refine os_ 27 (by simp; rfl) (by kernel_rfl) (fun K hK => ?_)
 refine goes_ Try.func22 (by kernel_rfl) rfl #[.agg #[.slice ApA pA.length cpA, .int .i64 pl], .agg #[.slice AP ([⟨4, 2⟩, ⟨8, 6⟩] : List S55).length cP, .int .i64 10]] (by rfl) rfl rfl (by (try simp only [List.map_toArray, List.map_cons, List.map_nil]); first | done | rfl) ?_
 with_reducible refine (spiritlevelref25_SamePred.calls k _ _ pA pl _ _ ([⟨4, 2⟩, ⟨8, 6⟩] : List S55) 10 true _ ?s0 ?s1 ?s2 ?s3 S2.out).mono ?_
 case s0 => exact CpA.out
 case s1 => exact lpA.out
 case s2 => exact CP.out
 case s3 => exact lP.out
 rintro e we ⟨rfl, hb⟩
 refine ⟨_, rfl, ?_⟩
 have N_ := M_ (below_step HB.out hb); clear HB; have HB := N_; clear N_; have N_ := M_ (Kd.C_below Cr1.out hb); clear Cr1; have Cr1 := N_; clear N_; have N_ := M_ (Kd.C_below Cr2.out hb); clear Cr2; have Cr2 := N_; clear N_; have N_ := M_ (Kd.C_below Cr3.out hb); clear Cr3; have Cr3 := N_; clear N_; have N_ := M_ (Kd.C_below Cr4.out hb); clear Cr4; have Cr4 := N_; clear N_; have N_ := M_ (Kd.C_below CpA.out hb); clear CpA; have CpA := N_; clear N_; have N_ := M_ (Kd.C_below CP.out hb); clear CP; have CP := N_; clear N_; have N_ := M_ (Kd.C_below Cn1.out hb); clear Cn1; have Cn1 := N_; clear N_; have N_ := M_ (Kd.C_below Cn2.out hb); clear Cn2; have Cn2 := N_; clear N_; have N_ := M_ (Kd.C_below Cn3.out hb); clear Cn3; have Cn3 := N_; clear N_; have N_ := M_ (Kd.C_below Cn4.out hb); clear Cn4; have Cn4 := N_; clear N_; have N_ := M_ (Kd.C_below CnA.out hb); clear CnA; have CnA := N_; clear N_; have N_ := M_ (Kd.C_below CH.out hb); clear CH; have CH := N_; clear N_; have N_ := M_ (HC.out.below hb); clear HC; have HC := N_; clear N_; refine hK.out _ _ HC.out (fun hH => ?_); clear hK K
 iterate 2 (refine tk_ [0,1,2,3,4,5,6,7,8,9,10,11,12,13,14,15,16,17,18,19,20,21,22,23,24,25,26,27,28,29,30,31,32,33,34,35,36,37,38,39,40,41,42,43,44,45,46,47,48,49,50,51,52,53,54,55,56,57,58,59] (v := ?_) (by simp; rfl) (by kernel_rfl) (by exact fun _ _ _ h => h) (Or.inl ⟨by rfl, ?_⟩) hH ?_; rotate_left; (intro _ hS; obtain ⟨c0_, c1_, c2_, c3_, c4_, c5_, c6_, c7_, c8_, c9_, c10_, c11_, c12_, c13_, c14_, c15_, c16_, c17_, c18_, c19_, c20_⟩ := hS; go_simp; (try with_reducible rfl)); simp only [Act.put, e1_, e2_, e3_])
 refine os_ 30 (by simp; rfl) (by kernel_rfl) (fun K hK => ?_)
 refine goes_ Try.func20 (by kernel_rfl) rfl #[.int .i64 1, .int .i64 0, .int .i64 1] (by rfl) rfl rfl (by (try simp only [List.map_toArray, List.map_cons, List.map_nil]); first | done | rfl) ?_
 with_reducible refine (spiritlevellaw27_turning.calls 1 0 1 ti t1 t2 t3 t4 _ H6.out).mono ?_
 rintro e we ⟨v1, v2, v3, v4, rfl, o1, o2, o3, o4, hb⟩
 refine ⟨_, rfl, ?_⟩
 obtain ⟨At1, ct1, rfl⟩ := Kd.R_slice o1; have Ct1 := M_ (Kd.R_reads' o1).2.2; have lt1 := M_ (Kd.R_reads' o1).2.1; obtain ⟨At2, ct2, rfl⟩ := Kd.R_slice o2; have Ct2 := M_ (Kd.R_reads' o2).2.2; have lt2 := M_ (Kd.R_reads' o2).2.1; obtain ⟨At3, ct3, rfl⟩ := Kd.R_slice o3; have Ct3 := M_ (Kd.R_reads' o3).2.2; have lt3 := M_ (Kd.R_reads' o3).2.1; obtain ⟨At4, ct4, rfl⟩ := Kd.R_slice o4; have Ct4 := M_ (Kd.R_reads' o4).2.2; have lt4 := M_ (Kd.R_reads' o4).2.1; clear o1 o2 o3 o4; have N_ := M_ (below_step HB.out hb); clear HB; have HB := N_; clear N_; have N_ := M_ (Kd.C_below Cr1.out hb); clear Cr1; have Cr1 := N_; clear N_; have N_ := M_ (Kd.C_below Cr2.out hb); clear Cr2; have Cr2 := N_; clear N_; have N_ := M_ (Kd.C_below Cr3.out hb); clear Cr3; have Cr3 := N_; clear N_; have N_ := M_ (Kd.C_below Cr4.out hb); clear Cr4; have Cr4 := N_; clear N_; have N_ := M_ (Kd.C_below CpA.out hb); clear CpA; have CpA := N_; clear N_; have N_ := M_ (Kd.C_below CP.out hb); clear CP; have CP := N_; clear N_; have N_ := M_ (Kd.C_below Cn1.out hb); clear Cn1; have Cn1 := N_; clear N_; have N_ := M_ (Kd.C_below Cn2.out hb); clear Cn2; have Cn2 := N_; clear N_; have N_ := M_ (Kd.C_below Cn3.out hb); clear Cn3; have Cn3 := N_; clear N_; have N_ := M_ (Kd.C_below Cn4.out hb); clear Cn4; have Cn4 := N_; clear N_; have N_ := M_ (Kd.C_below CnA.out hb); clear CnA; have CnA := N_; clear N_; have N_ := M_ (Kd.C_below CH.out hb); clear CH; have CH := N_; clear N_; have N_ := M_ (HC.out.below hb); clear HC; have HC := N_; clear N_; refine hK.out _ _ HC.out (fun hH => ?_); clear hK K
 refine os_ 31 (by simp; rfl) (by kernel_rfl) (fun K hK => ?_)
 refine goes_ Try.func21 (by kernel_rfl) rfl #[.agg #[.int .i64 ti, .slice At1 t1.length ct1, .slice At2 t2.length ct2, .slice At3 t3.length ct3, .slice At4 t4.length ct4], .slice none ([] : List Int).length 0] (by rfl) rfl rfl (by (try simp only [List.map_toArray, List.map_cons, List.map_nil]); first | done | rfl) ?_
 with_reducible refine (spiritlevellaw27_stay.calls k ti _ _ t1 _ _ t2 _ _ t3 _ _ t4 _ _ [] true _ ?s0 ?s1 ?s2 ?s3 ?s4 ?s5 ?s6 ?s7 ?s8 ?s9 S3.out).mono ?_
 case s0 => exact Ct1.out
 case s1 => exact lt1.out
 case s2 => exact Ct2.out
 case s3 => exact lt2.out
 case s4 => exact Ct3.out
 case s5 => exact lt3.out
 case s6 => exact Ct4.out
 case s7 => exact lt4.out
 case s8 => exact Kd.C_nil _ _
 case s9 => exact Nat.le_refl _
 rintro e we ⟨rfl, hb⟩
 refine ⟨_, rfl, ?_⟩
 clear Ct1 Ct2 Ct3 Ct4 lt1 lt2 lt3 lt4; have N_ := M_ (below_step HB.out hb); clear HB; have HB := N_; clear N_; have N_ := M_ (Kd.C_below Cr1.out hb); clear Cr1; have Cr1 := N_; clear N_; have N_ := M_ (Kd.C_below Cr2.out hb); clear Cr2; have Cr2 := N_; clear N_; have N_ := M_ (Kd.C_below Cr3.out hb); clear Cr3; have Cr3 := N_; clear N_; have N_ := M_ (Kd.C_below Cr4.out hb); clear Cr4; have Cr4 := N_; clear N_; have N_ := M_ (Kd.C_below CpA.out hb); clear CpA; have CpA := N_; clear N_; have N_ := M_ (Kd.C_below CP.out hb); clear CP; have CP := N_; clear N_; have N_ := M_ (Kd.C_below Cn1.out hb); clear Cn1; have Cn1 := N_; clear N_; have N_ := M_ (Kd.C_below Cn2.out hb); clear Cn2; have Cn2 := N_; clear N_; have N_ := M_ (Kd.C_below Cn3.out hb); clear Cn3; have Cn3 := N_; clear N_; have N_ := M_ (Kd.C_below Cn4.out hb); clear Cn4; have Cn4 := N_; clear N_; have N_ := M_ (Kd.C_below CnA.out hb); clear CnA; have CnA := N_; clear N_; have N_ := M_ (Kd.C_below CH.out hb); clear CH; have CH := N_; clear N_; have N_ := M_ (HC.out.below hb); clear HC; have HC := N_; clear N_; refine hK.out _ _ HC.out (fun hH => ?_); clear hK K
 iterate 10 (refine tk_ [0,1,2,3,4,5,6,7,8,9,10,11,12,13,14,15,16,17,18,19,20,21,22,23,24,25,26,27,28,29,30,31,32,33,34,35,36,37,38,39,40,41,42,43,44,45,46,47,48,49,50,51,52,53,54,55,56,57,58,59] (v := ?_) (by simp; rfl) (by kernel_rfl) (by exact fun _ _ _ h => h) (Or.inl ⟨by rfl, ?_⟩) hH ?_; rotate_left; (intro _ hS; obtain ⟨c0_, c1_, c2_, c3_, c4_, c5_, c6_, c7_, c8_, c9_, c10_, c11_, c12_, c13_, c14_, c15_, c16_, c17_, c18_, c19_, c20_⟩ := hS; go_simp; (try with_reducible rfl)); simp only [Act.put, e1_, e2_, e3_])
 refine os_ 42 (by simp; rfl) (by kernel_rfl) (fun K hK => ?_)
 refine goes_ Try.func22 (by kernel_rfl) rfl #[.agg #[.slice AnA nA.length cnA, .int .i64 nl], .agg #[.slice none ([] : List S55).length 0, .int .i64 1]] (by rfl) rfl rfl (by (try simp only [List.map_toArray, List.map_cons, List.map_nil]); first | done | rfl) ?_
 with_reducible refine (spiritlevelref25_SamePred.calls k _ _ nA nl _ _ [] 1 true _ ?s0 ?s1 ?s2 ?s3 S4.out).mono ?_
 case s0 => exact CnA.out
 case s1 => exact lnA.out
 case s2 => exact Kd.C_nil _ _
 case s3 => exact Nat.le_refl _
 rintro e we ⟨rfl, hb⟩
 refine ⟨_, rfl, ?_⟩
 have N_ := M_ (below_step HB.out hb); clear HB; have HB := N_; clear N_; have N_ := M_ (Kd.C_below Cr1.out hb); clear Cr1; have Cr1 := N_; clear N_; have N_ := M_ (Kd.C_below Cr2.out hb); clear Cr2; have Cr2 := N_; clear N_; have N_ := M_ (Kd.C_below Cr3.out hb); clear Cr3; have Cr3 := N_; clear N_; have N_ := M_ (Kd.C_below Cr4.out hb); clear Cr4; have Cr4 := N_; clear N_; have N_ := M_ (Kd.C_below CpA.out hb); clear CpA; have CpA := N_; clear N_; have N_ := M_ (Kd.C_below CP.out hb); clear CP; have CP := N_; clear N_; have N_ := M_ (Kd.C_below Cn1.out hb); clear Cn1; have Cn1 := N_; clear N_; have N_ := M_ (Kd.C_below Cn2.out hb); clear Cn2; have Cn2 := N_; clear N_; have N_ := M_ (Kd.C_below Cn3.out hb); clear Cn3; have Cn3 := N_; clear N_; have N_ := M_ (Kd.C_below Cn4.out hb); clear Cn4; have Cn4 := N_; clear N_; have N_ := M_ (Kd.C_below CnA.out hb); clear CnA; have CnA := N_; clear N_; have N_ := M_ (Kd.C_below CH.out hb); clear CH; have CH := N_; clear N_; have N_ := M_ (HC.out.below hb); clear HC; have HC := N_; clear N_; refine hK.out _ _ HC.out (fun hH => ?_); clear hK K
 iterate 4 (refine tk_ [0,1,2,3,4,5,6,7,8,9,10,11,12,13,14,15,16,17,18,19,20,21,22,23,24,25,26,27,28,29,30,31,32,33,34,35,36,37,38,39,40,41,42,43,44,45,46,47,48,49,50,51,52,53,54,55,56,57,58,59] (v := ?_) (by simp; rfl) (by kernel_rfl) (by exact fun _ _ _ h => h) (Or.inl ⟨by rfl, ?_⟩) hH ?_; rotate_left; (intro _ hS; obtain ⟨c0_, c1_, c2_, c3_, c4_, c5_, c6_, c7_, c8_, c9_, c10_, c11_, c12_, c13_, c14_, c15_, c16_, c17_, c18_, c19_, c20_⟩ := hS; go_simp; (try with_reducible rfl)); simp only [Act.put, e1_, e2_, e3_])
 refine os_ 47 (by simp; rfl) (by kernel_rfl) (fun K hK => ?_)
 refine goes_ Try.func20 (by kernel_rfl) rfl #[.int .i64 1, .int .i64 0, .int .i64 1] (by rfl) rfl rfl (by (try simp only [List.map_toArray, List.map_cons, List.map_nil]); first | done | rfl) ?_
 with_reducible refine (spiritlevellaw27_turning.calls 1 0 1 ti t1 t2 t3 t4 _ H6.out).mono ?_
 rintro e we ⟨v1, v2, v3, v4, rfl, o1, o2, o3, o4, hb⟩
 refine ⟨_, rfl, ?_⟩
 obtain ⟨At1, ct1, rfl⟩ := Kd.R_slice o1; have Ct1 := M_ (Kd.R_reads' o1).2.2; have lt1 := M_ (Kd.R_reads' o1).2.1; obtain ⟨At2, ct2, rfl⟩ := Kd.R_slice o2; have Ct2 := M_ (Kd.R_reads' o2).2.2; have lt2 := M_ (Kd.R_reads' o2).2.1; obtain ⟨At3, ct3, rfl⟩ := Kd.R_slice o3; have Ct3 := M_ (Kd.R_reads' o3).2.2; have lt3 := M_ (Kd.R_reads' o3).2.1; obtain ⟨At4, ct4, rfl⟩ := Kd.R_slice o4; have Ct4 := M_ (Kd.R_reads' o4).2.2; have lt4 := M_ (Kd.R_reads' o4).2.1; clear o1 o2 o3 o4; have N_ := M_ (below_step HB.out hb); clear HB; have HB := N_; clear N_; have N_ := M_ (Kd.C_below Cr1.out hb); clear Cr1; have Cr1 := N_; clear N_; have N_ := M_ (Kd.C_below Cr2.out hb); clear Cr2; have Cr2 := N_; clear N_; have N_ := M_ (Kd.C_below Cr3.out hb); clear Cr3; have Cr3 := N_; clear N_; have N_ := M_ (Kd.C_below Cr4.out hb); clear Cr4; have Cr4 := N_; clear N_; have N_ := M_ (Kd.C_below CpA.out hb); clear CpA; have CpA := N_; clear N_; have N_ := M_ (Kd.C_below CP.out hb); clear CP; have CP := N_; clear N_; have N_ := M_ (Kd.C_below Cn1.out hb); clear Cn1; have Cn1 := N_; clear N_; have N_ := M_ (Kd.C_below Cn2.out hb); clear Cn2; have Cn2 := N_; clear N_; have N_ := M_ (Kd.C_below Cn3.out hb); clear Cn3; have Cn3 := N_; clear N_; have N_ := M_ (Kd.C_below Cn4.out hb); clear Cn4; have Cn4 := N_; clear N_; have N_ := M_ (Kd.C_below CnA.out hb); clear CnA; have CnA := N_; clear N_; have N_ := M_ (Kd.C_below CH.out hb); clear CH; have CH := N_; clear N_; have N_ := M_ (HC.out.below hb); clear HC; have HC := N_; clear N_; refine hK.out _ _ HC.out (fun hH => ?_); clear hK K
 refine os_ 48 (by simp; rfl) (by kernel_rfl) (fun K hK => ?_)
 refine goes_ Try.func14 (by kernel_rfl) rfl #[.agg #[.int .i64 ni, .slice An1 n1.length cn1, .slice An2 n2.length cn2, .slice An3 n3.length cn3, .slice An4 n4.length cn4], .agg #[.int .i64 ti, .slice At1 t1.length ct1, .slice At2 t2.length ct2, .slice At3 t3.length ct3, .slice At4 t4.length ct4]] (by rfl) rfl rfl (by (try simp only [List.map_toArray, List.map_cons, List.map_nil]); first | done | rfl) ?_
 with_reducible refine (spiritlevelref02_Same.calls k ni _ _ n1 _ _ n2 _ _ n3 _ _ n4 ti _ _ t1 _ _ t2 _ _ t3 _ _ t4 true _ ?s0 ?s1 ?s2 ?s3 ?s4 ?s5 ?s6 ?s7 ?s8 ?s9 ?s10 ?s11 ?s12 ?s13 ?s14 ?s15 S5.out).mono ?_
 case s0 => exact Cn1.out
 case s1 => exact ln1.out
 case s2 => exact Cn2.out
 case s3 => exact ln2.out
 case s4 => exact Cn3.out
 case s5 => exact ln3.out
 case s6 => exact Cn4.out
 case s7 => exact ln4.out
 case s8 => exact Ct1.out
 case s9 => exact lt1.out
 case s10 => exact Ct2.out
 case s11 => exact lt2.out
 case s12 => exact Ct3.out
 case s13 => exact lt3.out
 case s14 => exact Ct4.out
 case s15 => exact lt4.out
 rintro e we ⟨rfl, hb⟩
 refine ⟨_, rfl, ?_⟩
 clear Ct1 Ct2 Ct3 Ct4 lt1 lt2 lt3 lt4; have N_ := M_ (below_step HB.out hb); clear HB; have HB := N_; clear N_; have N_ := M_ (Kd.C_below Cr1.out hb); clear Cr1; have Cr1 := N_; clear N_; have N_ := M_ (Kd.C_below Cr2.out hb); clear Cr2; have Cr2 := N_; clear N_; have N_ := M_ (Kd.C_below Cr3.out hb); clear Cr3; have Cr3 := N_; clear N_; have N_ := M_ (Kd.C_below Cr4.out hb); clear Cr4; have Cr4 := N_; clear N_; have N_ := M_ (Kd.C_below CpA.out hb); clear CpA; have CpA := N_; clear N_; have N_ := M_ (Kd.C_below CP.out hb); clear CP; have CP := N_; clear N_; have N_ := M_ (Kd.C_below Cn1.out hb); clear Cn1; have Cn1 := N_; clear N_; have N_ := M_ (Kd.C_below Cn2.out hb); clear Cn2; have Cn2 := N_; clear N_; have N_ := M_ (Kd.C_below Cn3.out hb); clear Cn3; have Cn3 := N_; clear N_; have N_ := M_ (Kd.C_below Cn4.out hb); clear Cn4; have Cn4 := N_; clear N_; have N_ := M_ (Kd.C_below CnA.out hb); clear CnA; have CnA := N_; clear N_; have N_ := M_ (Kd.C_below CH.out hb); clear CH; have CH := N_; clear N_; have N_ := M_ (HC.out.below hb); clear HC; have HC := N_; clear N_; refine hK.out _ _ HC.out (fun hH => ?_); clear hK K
 iterate 2 (refine tk_ [0,1,2,3,4,5,6,7,8,9,10,11,12,13,14,15,16,17,18,19,20,21,22,23,24,25,26,27,28,29,30,31,32,33,34,35,36,37,38,39,40,41,42,43,44,45,46,47,48,49,50,51,52,53,54,55,56,57,58,59] (v := ?_) (by simp; rfl) (by kernel_rfl) (by exact fun _ _ _ h => h) (Or.inl ⟨by rfl, ?_⟩) hH ?_; rotate_left; (intro _ hS; obtain ⟨c0_, c1_, c2_, c3_, c4_, c5_, c6_, c7_, c8_, c9_, c10_, c11_, c12_, c13_, c14_, c15_, c16_, c17_, c18_, c19_, c20_⟩ := hS; go_simp; (try with_reducible rfl)); simp only [Act.put, e1_, e2_, e3_])
 refine os_ 51 (by simp; rfl) (by kernel_rfl) (fun K hK => ?_)
 refine goes_ Try.func20 (by kernel_rfl) rfl #[.int .i64 1, .int .i64 2, .int .i64 1] (by rfl) rfl rfl (by (try simp only [List.map_toArray, List.map_cons, List.map_nil]); first | done | rfl) ?_
 with_reducible refine (spiritlevellaw27_turning.calls 1 2 1 ui u1 u2 u3 u4 _ H8.out).mono ?_
 rintro e we ⟨v1, v2, v3, v4, rfl, o1, o2, o3, o4, hb⟩
 refine ⟨_, rfl, ?_⟩
 obtain ⟨Au1, cu1, rfl⟩ := Kd.R_slice o1; have Cu1 := M_ (Kd.R_reads' o1).2.2; have lu1 := M_ (Kd.R_reads' o1).2.1; obtain ⟨Au2, cu2, rfl⟩ := Kd.R_slice o2; have Cu2 := M_ (Kd.R_reads' o2).2.2; have lu2 := M_ (Kd.R_reads' o2).2.1; obtain ⟨Au3, cu3, rfl⟩ := Kd.R_slice o3; have Cu3 := M_ (Kd.R_reads' o3).2.2; have lu3 := M_ (Kd.R_reads' o3).2.1; obtain ⟨Au4, cu4, rfl⟩ := Kd.R_slice o4; have Cu4 := M_ (Kd.R_reads' o4).2.2; have lu4 := M_ (Kd.R_reads' o4).2.1; clear o1 o2 o3 o4; have N_ := M_ (below_step HB.out hb); clear HB; have HB := N_; clear N_; have N_ := M_ (Kd.C_below Cr1.out hb); clear Cr1; have Cr1 := N_; clear N_; have N_ := M_ (Kd.C_below Cr2.out hb); clear Cr2; have Cr2 := N_; clear N_; have N_ := M_ (Kd.C_below Cr3.out hb); clear Cr3; have Cr3 := N_; clear N_; have N_ := M_ (Kd.C_below Cr4.out hb); clear Cr4; have Cr4 := N_; clear N_; have N_ := M_ (Kd.C_below CpA.out hb); clear CpA; have CpA := N_; clear N_; have N_ := M_ (Kd.C_below CP.out hb); clear CP; have CP := N_; clear N_; have N_ := M_ (Kd.C_below Cn1.out hb); clear Cn1; have Cn1 := N_; clear N_; have N_ := M_ (Kd.C_below Cn2.out hb); clear Cn2; have Cn2 := N_; clear N_; have N_ := M_ (Kd.C_below Cn3.out hb); clear Cn3; have Cn3 := N_; clear N_; have N_ := M_ (Kd.C_below Cn4.out hb); clear Cn4; have Cn4 := N_; clear N_; have N_ := M_ (Kd.C_below CnA.out hb); clear CnA; have CnA := N_; clear N_; have N_ := M_ (Kd.C_below CH.out hb); clear CH; have CH := N_; clear N_; have N_ := M_ (HC.out.below hb); clear HC; have HC := N_; clear N_; refine hK.out _ _ HC.out (fun hH => ?_); clear hK K
 refine os_ 52 (by simp; rfl) (by kernel_rfl) (fun K hK => ?_)
 refine goes_ Try.func21 (by kernel_rfl) rfl #[.agg #[.int .i64 ui, .slice Au1 u1.length cu1, .slice Au2 u2.length cu2, .slice Au3 u3.length cu3, .slice Au4 u4.length cu4], .slice none ([] : List Int).length 0] (by rfl) rfl rfl (by (try simp only [List.map_toArray, List.map_cons, List.map_nil]); first | done | rfl) ?_
 with_reducible refine (spiritlevellaw27_stay.calls k ui _ _ u1 _ _ u2 _ _ u3 _ _ u4 _ _ [] true _ ?s0 ?s1 ?s2 ?s3 ?s4 ?s5 ?s6 ?s7 ?s8 ?s9 S6.out).mono ?_
 case s0 => exact Cu1.out
 case s1 => exact lu1.out
 case s2 => exact Cu2.out
 case s3 => exact lu2.out
 case s4 => exact Cu3.out
 case s5 => exact lu3.out
 case s6 => exact Cu4.out
 case s7 => exact lu4.out
 case s8 => exact Kd.C_nil _ _
 case s9 => exact Nat.le_refl _
 rintro e we ⟨rfl, hb⟩
 refine ⟨_, rfl, ?_⟩
 clear Cu1 Cu2 Cu3 Cu4 lu1 lu2 lu3 lu4; have N_ := M_ (below_step HB.out hb); clear HB; have HB := N_; clear N_; have N_ := M_ (Kd.C_below Cr1.out hb); clear Cr1; have Cr1 := N_; clear N_; have N_ := M_ (Kd.C_below Cr2.out hb); clear Cr2; have Cr2 := N_; clear N_; have N_ := M_ (Kd.C_below Cr3.out hb); clear Cr3; have Cr3 := N_; clear N_; have N_ := M_ (Kd.C_below Cr4.out hb); clear Cr4; have Cr4 := N_; clear N_; have N_ := M_ (Kd.C_below CpA.out hb); clear CpA; have CpA := N_; clear N_; have N_ := M_ (Kd.C_below CP.out hb); clear CP; have CP := N_; clear N_; have N_ := M_ (Kd.C_below Cn1.out hb); clear Cn1; have Cn1 := N_; clear N_; have N_ := M_ (Kd.C_below Cn2.out hb); clear Cn2; have Cn2 := N_; clear N_; have N_ := M_ (Kd.C_below Cn3.out hb); clear Cn3; have Cn3 := N_; clear N_; have N_ := M_ (Kd.C_below Cn4.out hb); clear Cn4; have Cn4 := N_; clear N_; have N_ := M_ (Kd.C_below CnA.out hb); clear CnA; have CnA := N_; clear N_; have N_ := M_ (Kd.C_below CH.out hb); clear CH; have CH := N_; clear N_; have N_ := M_ (HC.out.below hb); clear HC; have HC := N_; clear N_; refine hK.out _ _ HC.out (fun hH => ?_); clear hK K
 iterate 3 (refine tk_ [0,1,2,3,4,5,6,7,8,9,10,11,12,13,14,15,16,17,18,19,20,21,22,23,24,25,26,27,28,29,30,31,32,33,34,35,36,37,38,39,40,41,42,43,44,45,46,47,48,49,50,51,52,53,54,55,56,57,58,59] (v := ?_) (by simp; rfl) (by kernel_rfl) (by exact fun _ _ _ h => h) (Or.inl ⟨by rfl, ?_⟩) hH ?_; rotate_left; (intro _ hS; obtain ⟨c0_, c1_, c2_, c3_, c4_, c5_, c6_, c7_, c8_, c9_, c10_, c11_, c12_, c13_, c14_, c15_, c16_, c17_, c18_, c19_, c20_⟩ := hS; go_simp; (try with_reducible rfl)); simp only [Act.put, e1_, e2_, e3_])
 refine os_ 56 (by simp; rfl) (by kernel_rfl) (fun K hK => ?_)
 refine Kd.R_lit_step (Kd.int .i64) _ 3 ?hg (N := 108) ?hd (xs := ([0, 1, 3] : List Int)) (inner := [.int .i64 0, .int .i64 1, .int .i64 3]) (ok := fun _ => True) (okp := fun _ => True) ?hr ?hp (fun _ hk => hk) trivial (Below.refl _ _) (Nat.le_refl _) (by simp) ?_; (case hd => rfl); (case hg => rfl); (case hr => first | (go_simp; done) | (go_simp; rfl)); (case hp => exact (Reps.one (show Kd.M (Kd.int .i64) _ _ _ 0 [.int .i64 0] from rfl) (Reps.one (show Kd.M (Kd.int .i64) _ _ _ 1 [.int .i64 1] from rfl) (Reps.one (show Kd.M (Kd.int .i64) _ _ _ 3 [.int .i64 3] from rfl) (Reps.none _ _)))))
 intro v1 we ho hb hg hn; clear hg hn; obtain ⟨Aq, cq, rfl⟩ := Kd.R_slice ho; have Cq := M_ (Kd.R_reads' ho).2.2; have lq := M_ (Kd.R_reads' ho).2.1; clear ho
 have N_ := M_ (below_step HB.out hb); clear HB; have HB := N_; clear N_; have N_ := M_ (Kd.C_below Cr1.out hb); clear Cr1; have Cr1 := N_; clear N_; have N_ := M_ (Kd.C_below Cr2.out hb); clear Cr2; have Cr2 := N_; clear N_; have N_ := M_ (Kd.C_below Cr3.out hb); clear Cr3; have Cr3 := N_; clear N_; have N_ := M_ (Kd.C_below Cr4.out hb); clear Cr4; have Cr4 := N_; clear N_; have N_ := M_ (Kd.C_below CpA.out hb); clear CpA; have CpA := N_; clear N_; have N_ := M_ (Kd.C_below CP.out hb); clear CP; have CP := N_; clear N_; have N_ := M_ (Kd.C_below Cn1.out hb); clear Cn1; have Cn1 := N_; clear N_; have N_ := M_ (Kd.C_below Cn2.out hb); clear Cn2; have Cn2 := N_; clear N_; have N_ := M_ (Kd.C_below Cn3.out hb); clear Cn3; have Cn3 := N_; clear N_; have N_ := M_ (Kd.C_below Cn4.out hb); clear Cn4; have Cn4 := N_; clear N_; have N_ := M_ (Kd.C_below CnA.out hb); clear CnA; have CnA := N_; clear N_; have N_ := M_ (Kd.C_below CH.out hb); clear CH; have CH := N_; clear N_; have N_ := M_ (HC.out.below hb); clear HC; have HC := N_; clear N_; refine hK.out _ _ HC.out (fun hH => ?_); clear hK K
 refine os_ 57 (by simp; rfl) (by kernel_rfl) (fun K hK => ?_)
 refine goes_ Try.func21 (by kernel_rfl) rfl #[.agg #[.int .i64 0, .slice AH ([⟨2, 1⟩, ⟨3, 0⟩, ⟨1, 0⟩, ⟨1, 1⟩] : List S45).length cH, .slice none ([] : List S55).length 0, .slice none ([] : List Int).length 0, .slice none ([] : List Int).length 0], .slice Aq ([0, 1, 3] : List Int).length cq] (by rfl) rfl rfl (by (try simp only [List.map_toArray, List.map_cons, List.map_nil]); first | done | rfl) ?_
 with_reducible refine (spiritlevellaw27_stay.calls k 0 _ _ ([⟨2, 1⟩, ⟨3, 0⟩, ⟨1, 0⟩, ⟨1, 1⟩] : List S45) _ _ [] _ _ [] _ _ [] _ _ [0, 1, 3] true _ ?s0 ?s1 ?s2 ?s3 ?s4 ?s5 ?s6 ?s7 ?s8 ?s9 S7.out).mono ?_
 case s0 => exact CH.out
 case s1 => exact lH.out
 case s2 => exact Kd.C_nil _ _
 case s3 => exact Nat.le_refl _
 case s4 => exact Kd.C_nil _ _
 case s5 => exact Nat.le_refl _
 case s6 => exact Kd.C_nil _ _
 case s7 => exact Nat.le_refl _
 case s8 => exact Cq.out
 case s9 => exact lq.out
 rintro e we ⟨rfl, hb⟩
 refine ⟨_, rfl, ?_⟩
 clear Cq lq; have N_ := M_ (below_step HB.out hb); clear HB; have HB := N_; clear N_; have N_ := M_ (Kd.C_below Cr1.out hb); clear Cr1; have Cr1 := N_; clear N_; have N_ := M_ (Kd.C_below Cr2.out hb); clear Cr2; have Cr2 := N_; clear N_; have N_ := M_ (Kd.C_below Cr3.out hb); clear Cr3; have Cr3 := N_; clear N_; have N_ := M_ (Kd.C_below Cr4.out hb); clear Cr4; have Cr4 := N_; clear N_; have N_ := M_ (Kd.C_below CpA.out hb); clear CpA; have CpA := N_; clear N_; have N_ := M_ (Kd.C_below CP.out hb); clear CP; have CP := N_; clear N_; have N_ := M_ (Kd.C_below Cn1.out hb); clear Cn1; have Cn1 := N_; clear N_; have N_ := M_ (Kd.C_below Cn2.out hb); clear Cn2; have Cn2 := N_; clear N_; have N_ := M_ (Kd.C_below Cn3.out hb); clear Cn3; have Cn3 := N_; clear N_; have N_ := M_ (Kd.C_below Cn4.out hb); clear Cn4; have Cn4 := N_; clear N_; have N_ := M_ (Kd.C_below CnA.out hb); clear CnA; have CnA := N_; clear N_; have N_ := M_ (Kd.C_below CH.out hb); clear CH; have CH := N_; clear N_; have N_ := M_ (HC.out.below hb); clear HC; have HC := N_; clear N_; refine hK.out _ _ HC.out (fun hH => ?_); clear hK K
 iterate 2 (refine tk_ [0,1,2,3,4,5,6,7,8,9,10,11,12,13,14,15,16,17,18,19,20,21,22,23,24,25,26,27,28,29,30,31,32,33,34,35,36,37,38,39,40,41,42,43,44,45,46,47,48,49,50,51,52,53,54,55,56,57,58,59] (v := ?_) (by simp; rfl) (by kernel_rfl) (by exact fun _ _ _ h => h) (Or.inl ⟨by rfl, ?_⟩) hH ?_; rotate_left; (intro _ hS; obtain ⟨c0_, c1_, c2_, c3_, c4_, c5_, c6_, c7_, c8_, c9_, c10_, c11_, c12_, c13_, c14_, c15_, c16_, c17_, c18_, c19_, c20_⟩ := hS; go_simp; (try with_reducible rfl)); simp only [Act.put, e1_, e2_, e3_])
 refine wpAnyLast_done (by kernel_rfl) ?_ _
 clear hH
 go_wp2
 go_ret
 exact ⟨rfl, HB.out⟩
end Go.Proofs.Ytlgoniocoifjjaa.QConstantsNamesW
