-- The walk of HashValues: what the law function does, step by step, given what the functions that it calls return (wip/gen/hvals).
import Derived.Test.YtnbccfecmpocaaaQHashValuesx0
import Derived.Test.YtnbccfecmpocaaaQHashValuesx1
import Derived.Test.YtnbccfecmpocaaaQHashValuesx2
import Derived.Test.YtnbccfecmpocaaaQHashValuesx3
import Derived.Test.YtnbccfecmpocaaaQHashValuesx4
import Derived.Test.YtnbccfecmpocaaaQHashValuesx5
import Derived.Test.YtnbccfecmpocaaaQHashValuesx6
import Derived.Test.YtnbccfecmpocaaaQHashValuesx7
import Derived.Test.YtnbccfecmpocaaaQHashValuesx8
import Derived.Test.YtnbccfecmpocaaaQHashValuesx9
import Derived.Test.YtnbccfecmpocaaaQHashValuesx10
import Derived.Test.YtnbccfecmpocaaaQHashValuesx11
import Derived.Test.YtnbccfecmpocaaaQHashValuesx12
import Derived.Test.YtnbccfecmpocaaaQHashValuesx13
import Derived.Deep.CutBlock
import Derived.Deep.RegionLaw
namespace Go.Proofs.Ytnbccfecmpocaaa.QHashValuesW
open Go.RowKit Go.Proofs.YtnbccfecmpocaaaW.PrintWords Go.Proofs.YtnbccfecmpocaaaW.PrintLast Go.Proofs.YtnbccfecmpocaaaW.PrintMore Go.Proofs.Ytnbccfecmpocaaa.QHashValues
attribute [local go_sem] max2_int min2_int max_two min_two max_three min_three max_four min_four
set_option linter.unusedVariables false
set_option linter.unusedSimpArgs false
theorem tk_ (L : List Nat) {P : Program} {ops : Array Oper} {Q : Exit → Act → World → Prop} {S : World → Prop} {ds : List Nat} {oi : Oper} {v : Value} {fuel : Nat} {l : Array Bool} {a : Act} {w : World} (hi : ops[L.getD (ops.size - (fuel + 1)) 0]? = some oi)
  (hc : (Region.noSelect ops && Region.free .any ops l (L.getD (ops.size - (fuel + 1)) 0) && (Region.ready .any ops l).contains (L.getD (ops.size - (fuel + 1)) 0) && Region.closedB .any ops l && Region.lastB .any ops l ds (L.getD (ops.size - (fuel + 1)) 0)) = true)
  (hQ : ∀ c a w, Q (.panic c) (a.put oi.dst v) w → Q (.panic c) a w) (hy : YieldsIf P ops S oi v a) (hS : S w)
  (h : wpAnyLast P .any ops Q S ds fuel (l.setIfInBounds (L.getD (ops.size - (fuel + 1)) 0) true) (a.put oi.dst v) w) : wpAnyLast P .any ops Q S ds (fuel + 1) l a w := by
 simp only [Bool.and_eq_true] at hc
 exact wpAnyLast_take hi hc.1.1.1.1 hc.1.1.1.2 hc.1.1.2 hc.1.2 hc.2 hQ hy hS h
theorem os_ (i : Nat) {P : Program} {ops : Array Oper} {Q : Exit → Act → World → Prop} {S : World → Prop} {ds : List Nat} {o : Oper} {fuel : Nat} {l : Array Bool} {a : Act} {w : World} (hi : ops[i]? = some o)
  (hc : ((Region.ready .any ops l == [i]) && !ds.contains i) = true)
  (h : ∀ K : Act → World → Prop, Shut (∀ a w, S w → (S w → wpAnyLast P .any ops Q S ds fuel (l.setIfInBounds i true) a w) → K a w) → if Region.wanted o (yielded ops a.tmps) = true then Oper.wp P o a w K Q else K (a.put o.dst undef) w) : wpAnyLast P .any ops Q S ds (fuel + 1) l a w := by
 simp at hc
 exact wpAnyLast_ready hc.1 (by simp) (AllReadyL.cons hi hc.2 h AllReadyL.nil)
theorem ol_ (i : Nat) {P : Program} {ops : Array Oper} {Q : Exit → Act → World → Prop} {S : World → Prop} {ds : List Nat} {o : Oper} {fuel : Nat} {l : Array Bool} {a : Act} {w : World} (hi : ops[i]? = some o)
  (hc : ((Region.ready .any ops l == [i]) && ds.contains i) = true)
  (h : ∀ K : Act → World → Prop, Shut (∀ a w, wpAnyLast P .any ops Q S ds fuel (l.setIfInBounds i true) a w → K a w) → if Region.wanted o (yielded ops a.tmps) = true then Oper.wp P o a w K Q else K (a.put o.dst undef) w) : wpAnyLast P .any ops Q S ds (fuel + 1) l a w := by
 simp at hc
 exact wpAnyLast_ready hc.1 (by simp) (AllReadyL.cons_last hi hc.2 h AllReadyL.nil)
structure ZV (W : World) (g_ : Nat) (a : Int) (AC1 : Option Addr) (cC1 : Nat) (CL : List S86) (AC2 : Option Addr) (cC2 : Nat) (CG : List S67) (AC3 : Option Addr) (cC3 : Nat) (CB : List Int) (AC4 : Option Addr) (cC4 : Nat) (CD : List Int) (AC5 : Option Addr) (cC5 : Nat) (gv : List Int) (AC6 : Option Addr) (cC6 : Nat) (st : List Bool) (AC7 : Option Addr) (cC7 : Nat) (inp : List Bool) : Prop where
 box : W.heap[g_]? = some (.cells #[.int .i64 a, .slice AC1 CL.length cC1, .slice AC2 CG.length cC2, .slice AC3 CB.length cC3, .slice AC4 CD.length cC4] 26 (0, 0))
 hC1 : Kd.C k86 W AC1 CL.length CL
 lC1 : CL.length ≤ cC1
 hC2 : Kd.C k67 W AC2 CG.length CG
 lC2 : CG.length ≤ cC2
 hC3 : Kd.C (Kd.int .i64) W AC3 CB.length CB
 lC3 : CB.length ≤ cC3
 hC4 : Kd.C (Kd.int .i64) W AC4 CD.length CD
 lC4 : CD.length ≤ cC4
 hC5 : Kd.C (Kd.int .i64) W AC5 gv.length gv
 lC5 : gv.length ≤ cC5
 hC6 : Kd.C Kd.bool W AC6 st.length st
 lC6 : st.length ≤ cC6
 hC7 : Kd.C Kd.bool W AC7 inp.length inp
 lC7 : inp.length ≤ cC7
theorem ZV.below {W W' : World} {g_ : Nat} {a : Int} {AC1 : Option Addr} {cC1 : Nat} {CL : List S86} {AC2 : Option Addr} {cC2 : Nat} {CG : List S67} {AC3 : Option Addr} {cC3 : Nat} {CB : List Int} {AC4 : Option Addr} {cC4 : Nat} {CD : List Int} {AC5 : Option Addr} {cC5 : Nat} {gv : List Int} {AC6 : Option Addr} {cC6 : Nat} {st : List Bool} {AC7 : Option Addr} {cC7 : Nat} {inp : List Bool} (h : ZV W g_ a AC1 cC1 CL AC2 cC2 CG AC3 cC3 CB AC4 cC4 CD AC5 cC5 gv AC6 cC6 st AC7 cC7 inp) (hb : Below W.heap.size W W') : ZV W' g_ a AC1 cC1 CL AC2 cC2 CG AC3 cC3 CB AC4 cC4 CD AC5 cC5 gv AC6 cC6 st AC7 cC7 inp :=
 ⟨blk_below h.box hb, Kd.C_below h.hC1 hb, h.lC1, Kd.C_below h.hC2 hb, h.lC2, Kd.C_below h.hC3 hb, h.lC3, Kd.C_below h.hC4 hb, h.lC4, Kd.C_below h.hC5 hb, h.lC5, Kd.C_below h.hC6 hb, h.lC6, Kd.C_below h.hC7 hb, h.lC7⟩
structure ZP (W : World) (g_ : Nat) (p1 : Int) (p6 : Int) (p7 : Int) (p12 : Int) (AP1 : Option Addr) (cP1 : Nat) (PL : List S86) (AP2 : Option Addr) (cP2 : Nat) (PG : List S67) (AP3 : Option Addr) (cP3 : Nat) (PB : List Int) (AP4 : Option Addr) (cP4 : Nat) (PD : List Int) (AP7 : Option Addr) (cP7 : Nat) (Pf : List Int) (AP8 : Option Addr) (cP8 : Nat) (Pi : List (List Int)) (AP9 : Option Addr) (cP9 : Nat) (Pl : List Int) (AP10 : Option Addr) (cP10 : Nat) (Pg : List S67) : Prop where
 box : W.heap[g_]? = some (.cells #[.int .i64 p1, .slice AP1 PL.length cP1, .slice AP2 PG.length cP2, .slice AP3 PB.length cP3, .slice AP4 PD.length cP4, .int .i64 p6, .int .i64 p7, .slice AP7 Pf.length cP7, .slice AP8 Pi.length cP8, .slice AP9 Pl.length cP9, .slice AP10 Pg.length cP10, .int .i64 p12] 55 (0, 0))
 hP1 : Kd.C k86 W AP1 PL.length PL
 lP1 : PL.length ≤ cP1
 hP2 : Kd.C k67 W AP2 PG.length PG
 lP2 : PG.length ≤ cP2
 hP3 : Kd.C (Kd.int .i64) W AP3 PB.length PB
 lP3 : PB.length ≤ cP3
 hP4 : Kd.C (Kd.int .i64) W AP4 PD.length PD
 lP4 : PD.length ≤ cP4
 hP7 : Kd.C (Kd.int .i64) W AP7 Pf.length Pf
 lP7 : Pf.length ≤ cP7
 hP8 : Kd.C (Kd.slice 3 (Kd.int .i64)) W AP8 Pi.length Pi
 lP8 : Pi.length ≤ cP8
 hP9 : Kd.C (Kd.int .i64) W AP9 Pl.length Pl
 lP9 : Pl.length ≤ cP9
 hP10 : Kd.C k67 W AP10 Pg.length Pg
 lP10 : Pg.length ≤ cP10
theorem ZP.below {W W' : World} {g_ : Nat} {p1 : Int} {p6 : Int} {p7 : Int} {p12 : Int} {AP1 : Option Addr} {cP1 : Nat} {PL : List S86} {AP2 : Option Addr} {cP2 : Nat} {PG : List S67} {AP3 : Option Addr} {cP3 : Nat} {PB : List Int} {AP4 : Option Addr} {cP4 : Nat} {PD : List Int} {AP7 : Option Addr} {cP7 : Nat} {Pf : List Int} {AP8 : Option Addr} {cP8 : Nat} {Pi : List (List Int)} {AP9 : Option Addr} {cP9 : Nat} {Pl : List Int} {AP10 : Option Addr} {cP10 : Nat} {Pg : List S67} (h : ZP W g_ p1 p6 p7 p12 AP1 cP1 PL AP2 cP2 PG AP3 cP3 PB AP4 cP4 PD AP7 cP7 Pf AP8 cP8 Pi AP9 cP9 Pl AP10 cP10 Pg) (hb : Below W.heap.size W W') : ZP W' g_ p1 p6 p7 p12 AP1 cP1 PL AP2 cP2 PG AP3 cP3 PB AP4 cP4 PD AP7 cP7 Pf AP8 cP8 Pi AP9 cP9 Pl AP10 cP10 Pg :=
 ⟨blk_below h.box hb, Kd.C_below h.hP1 hb, h.lP1, Kd.C_below h.hP2 hb, h.lP2, Kd.C_below h.hP3 hb, h.lP3, Kd.C_below h.hP4 hb, h.lP4, Kd.C_below h.hP7 hb, h.lP7, Kd.C_below h.hP8 hb, h.lP8, Kd.C_below h.hP9 hb, h.lP9, Kd.C_below h.hP10 hb, h.lP10⟩
structure ZX (W : World) (g_ : Nat) (x1 : Int) (AX1 : Option Addr) (cX1 : Nat) (XL : List S86) (AX2 : Option Addr) (cX2 : Nat) (XG : List S67) (AX3 : Option Addr) (cX3 : Nat) (XB : List Int) (AX4 : Option Addr) (cX4 : Nat) (XD : List Int) (AX5 : Option Addr) (cX5 : Nat) (T : List Int) : Prop where
 box : W.heap[g_]? = some (.cells #[.int .i64 x1, .slice AX1 XL.length cX1, .slice AX2 XG.length cX2, .slice AX3 XB.length cX3, .slice AX4 XD.length cX4] 26 (0, 0))
 hX1 : Kd.C k86 W AX1 XL.length XL
 lX1 : XL.length ≤ cX1
 hX2 : Kd.C k67 W AX2 XG.length XG
 lX2 : XG.length ≤ cX2
 hX3 : Kd.C (Kd.int .i64) W AX3 XB.length XB
 lX3 : XB.length ≤ cX3
 hX4 : Kd.C (Kd.int .i64) W AX4 XD.length XD
 lX4 : XD.length ≤ cX4
 hX5 : Kd.C (Kd.int .i64) W AX5 T.length T
 lX5 : T.length ≤ cX5
theorem ZX.below {W W' : World} {g_ : Nat} {x1 : Int} {AX1 : Option Addr} {cX1 : Nat} {XL : List S86} {AX2 : Option Addr} {cX2 : Nat} {XG : List S67} {AX3 : Option Addr} {cX3 : Nat} {XB : List Int} {AX4 : Option Addr} {cX4 : Nat} {XD : List Int} {AX5 : Option Addr} {cX5 : Nat} {T : List Int} (h : ZX W g_ x1 AX1 cX1 XL AX2 cX2 XG AX3 cX3 XB AX4 cX4 XD AX5 cX5 T) (hb : Below W.heap.size W W') : ZX W' g_ x1 AX1 cX1 XL AX2 cX2 XG AX3 cX3 XB AX4 cX4 XD AX5 cX5 T :=
 ⟨blk_below h.box hb, Kd.C_below h.hX1 hb, h.lX1, Kd.C_below h.hX2 hb, h.lX2, Kd.C_below h.hX3 hb, h.lX3, Kd.C_below h.hX4 hb, h.lX4, Kd.C_below h.hX5 hb, h.lX5⟩
structure RF (a : Int) (CL : List S86) (CG : List S67) (CB CD gv : List Int) (st inp : List Bool) (x1 : Int) (XL : List S86) (XG : List S67) (XB XD T : List Int) (F F2 : List Bool) (n : Nat) : Prop where
 ac : values_All.f a CL CG CB CD st inp = some (F, 0)
 ax : values_All.f x1 XL XG XB XD st inp = some (F2, 0)
 t1 : T.length = F.length
 t2 : gv.length = F.length
 small : F.length ≤ 1001
 n1 : n ≤ F.length
 good : ∀ v : Nat, v < n → 0 ≤ rd gv (v : Int) → spiritlevelref04_Value.f F (rd gv (v : Int)) = some (rdOf false F (v : Int))
 bad : n < F.length → 0 ≤ rd gv (n : Int) ∧ spiritlevelref04_Value.f F (rd gv (n : Int)) = some (!(rdOf false F (n : Int)))
 told : n = F.length → ∀ v : Nat, v < F.length → values_Of.f F2 (rd T (v : Int)) = some (rdOf false F (v : Int), 0)
structure HF (k : Nat) (a : Int) (CL : List S86) (CG : List S67) (CB CD gv : List Int) (st inp : List Bool) (p1 p6 p7 p12 : Int) (PL : List S86) (PG : List S67) (PB PD Pf : List Int) (Pi : List (List Int)) (Pl : List Int) (Pg : List S67) (x1 j : Int) (XL : List S86) (XG : List S67) (XB XD T : List Int) (F F2 Bv S : List Bool) (r : Bool) (n : Nat) : Prop where
 pass : hash_Pass.f k a CL CG CB CD = some (p1, PL, PG, PB, PD, p6, p7, Pf, Pi, Pl, Pg, p12, 0)
 pc : values_Props.f a CL CG CB CD st inp = some (r, Bv, 0)
 px : values_Props.f p1 PL PG PB PD st inp = some (r, Bv, 0)
 nc : values_Next.f a CL CG CB CD st inp = some (S, 0)
 nx : values_Next.f p1 PL PG PB PD st inp = some (S, 0)
 sB : spiritlevelref04_Same.f k Bv Bv = some true
 sS : spiritlevelref04_Same.f k S S = some true
 chk : lift_Check.f k a CL CG CB CD p1 PL PG PB PD p6 p7 Pf Pi Pl Pg p12 = some 0
 build : hash_Build.f a CL CG CB CD gv = some (x1, XL, XG, XB, XD, T, j)
 rest : j = 0 → RF a CL CG CB CD gv st inp x1 XL XG XB XD T F F2 n
set_option maxHeartbeats 40000000 in
set_option maxRecDepth 100000 in
theorem values_walk (k : Nat) (a p1 p6 p7 p12 x1 j : Int) (AC1 : Option Addr) (cC1 : Nat) (CL : List S86) (AC2 : Option Addr) (cC2 : Nat) (CG : List S67) (AC3 : Option Addr) (cC3 : Nat) (CB : List Int) (AC4 : Option Addr) (cC4 : Nat) (CD : List Int) (AC5 : Option Addr) (cC5 : Nat) (gv : List Int) (AC6 : Option Addr) (cC6 : Nat) (st : List Bool) (AC7 : Option Addr) (cC7 : Nat) (inp : List Bool) (PL : List S86) (PG : List S67) (PB PD Pf : List Int) (Pi : List (List Int)) (Pl : List Int) (Pg : List S67) (XL : List S86) (XG : List S67) (XB XD T : List Int) (F F2 Bv S : List Bool) (r g : Bool) (q : Int) (n : Nat) (w : World) (hC1 : Kd.C k86 w AC1 CL.length CL) (lC1 : CL.length ≤ cC1) (hC2 : Kd.C k67 w AC2 CG.length CG) (lC2 : CG.length ≤ cC2) (hC3 : Kd.C (Kd.int .i64) w AC3 CB.length CB) (lC3 : CB.length ≤ cC3) (hC4 : Kd.C (Kd.int .i64) w AC4 CD.length CD) (lC4 : CD.length ≤ cC4) (hC5 : Kd.C (Kd.int .i64) w AC5 gv.length gv) (lC5 : gv.length ≤ cC5) (hC6 : Kd.C Kd.bool w AC6 st.length st) (lC6 : st.length ≤ cC6) (hC7 : Kd.C Kd.bool w AC7 inp.length inp) (lC7 : inp.length ≤ cC7)
  (hal : spiritlevellaw26_alive.f = some true) (hgr : spiritlevelref02_Great.f a CL CG CB CD = some g) (has : g = false → spiritlevelref04_Asked.f k a CL CG CB CD st inp = some q) (hf : g = false → gv.length ≤ 1300 → q = 0 → HF k a CL CG CB CD gv st inp p1 p6 p7 p12 PL PG PB PD Pf Pi Pl Pg x1 j XL XG XB XD T F F2 Bv S r n) :
  Calls Try.prog 7 #[.agg #[.int .i64 a, .slice AC1 CL.length cC1, .slice AC2 CG.length cC2, .slice AC3 CB.length cC3, .slice AC4 CD.length cC4], .slice AC5 gv.length cC5, .slice AC6 st.length cC6, .slice AC7 inp.length cC7] w fun e w' => e = .returned (.bool true) ∧ Below w.heap.size w w' := by

 have AL := M_ hal
 have GR := M_ hgr
 have hX : ZV (w.alloc (.cells #[.int .i64 a, .slice AC1 CL.length cC1, .slice AC2 CG.length cC2, .slice AC3 CB.length cC3, .slice AC4 CD.length cC4] 26)) w.heap.size a AC1 cC1 CL AC2 cC2 CG AC3 cC3 CB AC4 cC4 CD AC5 cC5 gv AC6 cC6 st AC7 cC7 inp := ⟨heap_alloc_new w _, Kd.C_alloc hC1 _, lC1, Kd.C_alloc hC2 _, lC2, Kd.C_alloc hC3 _, lC3, Kd.C_alloc hC4 _, lC4, Kd.C_alloc hC5 _, lC5, Kd.C_alloc hC6 _, lC6, Kd.C_alloc hC7 _, lC7⟩
 have hB := below_alloc (Below.refl w.heap.size w) (.cells #[.int .i64 a, .slice AC1 CL.length cC1, .slice AC2 CG.length cC2, .slice AC3 CB.length cC3, .slice AC4 CD.length cC4] 26)
 clear hC1 lC1 hC2 lC2 hC3 lC3 hC4 lC4 hC5 lC5 hC6 lC6 hC7 lC7 hal hgr
 have hu26 := Try.underlying26
 have hu55 := Try.underlying55
 go_enter Try.func7, Try.ntmps7
 go_upto_region 1 with fail
 generalize w.alloc (.cells #[.int .i64 a, .slice AC1 CL.length cC1, .slice AC2 CG.length cC2, .slice AC3 CB.length cC3, .slice AC4 CD.length cC4] 26) = wb at hX hB ⊢
 have HX := M_ hX
 have HB := M_ hB
 clear hX hB
 go_upto_region 2 with ((with_reducible refine gate_callee (f := 12) rfl ?_); refine goesL_ (some 33) rfl rfl Try.func12 (by kernel_rfl) rfl #[] rfl (by (try simp only [List.map_toArray, List.map_cons, List.map_nil]); first | done | rfl) ?_; (with_reducible refine (spiritlevellaw26_alive.calls true _ AL.out).mono ?_); rintro e w5 ⟨rfl, hb⟩; refine ⟨_, rfl, ?_⟩; have N_ := M_ (HX.out.below hb); clear HX; have HX := N_; clear N_; have N_ := M_ (below_step HB.out hb); clear HB; have HB := N_; clear N_; clear hb)
 cases g with
 | true =>
  clear hf has
  have y0 := (blk_cell HX.out.box 0).trans (show _ = some (.int .i64 a) from rfl)
  have y1 := (blk_cell HX.out.box 1).trans (show _ = some (.slice AC1 CL.length cC1) from rfl)
  have y2 := (blk_cell HX.out.box 2).trans (show _ = some (.slice AC2 CG.length cC2) from rfl)
  have y3 := (blk_cell HX.out.box 3).trans (show _ = some (.slice AC3 CB.length cC3) from rfl)
  have y4 := (blk_cell HX.out.box 4).trans (show _ = some (.slice AC4 CD.length cC4) from rfl)
  go_wp2_with (go_at_call 8; (with_reducible refine (spiritlevelref02_Great.calls a AC1 cC1 CL AC2 cC2 CG AC3 cC3 CB AC4 cC4 CD true _ ?s0 ?s1 ?s2 ?s3 ?s4 ?s5 ?s6 ?s7 GR.out).mono ?_); (case s0 => exact HX.out.hC1); (case s1 => exact HX.out.lC1); (case s2 => exact HX.out.hC2); (case s3 => exact HX.out.lC2); (case s4 => exact HX.out.hC3); (case s5 => exact HX.out.lC3); (case s6 => exact HX.out.hC4); (case s7 => exact HX.out.lC4); rintro e w5 ⟨rfl, hb⟩; have N_ := M_ (HX.out.below hb); clear HX; have HX := N_; clear N_; have N_ := M_ (below_step HB.out hb); clear HB; have HB := N_; clear N_; have y0 := (blk_cell HX.out.box 0).trans (show _ = some (.int .i64 a) from rfl); have y1 := (blk_cell HX.out.box 1).trans (show _ = some (.slice AC1 CL.length cC1) from rfl); have y2 := (blk_cell HX.out.box 2).trans (show _ = some (.slice AC2 CG.length cC2) from rfl); have y3 := (blk_cell HX.out.box 3).trans (show _ = some (.slice AC3 CB.length cC3) from rfl); have y4 := (blk_cell HX.out.box 4).trans (show _ = some (.slice AC4 CD.length cC4) from rfl); clear hb)
  go_ret
  exact ⟨rfl, HB.out⟩
 | false =>
 by_cases d0 : gv.length ≤ 1300
 case neg =>
  have b0 : decide ((gv.length : Int) > 1300) = true := decide_eq_true (by omega)
  have b1 : decide ((1300 : Int) < (gv.length : Int)) = true := decide_eq_true (by omega)
  have b2 : decide (1300 < gv.length) = true := decide_eq_true (by omega)
  clear hf has d0
  have y0 := (blk_cell HX.out.box 0).trans (show _ = some (.int .i64 a) from rfl)
  have y1 := (blk_cell HX.out.box 1).trans (show _ = some (.slice AC1 CL.length cC1) from rfl)
  have y2 := (blk_cell HX.out.box 2).trans (show _ = some (.slice AC2 CG.length cC2) from rfl)
  have y3 := (blk_cell HX.out.box 3).trans (show _ = some (.slice AC3 CB.length cC3) from rfl)
  have y4 := (blk_cell HX.out.box 4).trans (show _ = some (.slice AC4 CD.length cC4) from rfl)
  go_wp2_with (go_at_call 8; (with_reducible refine (spiritlevelref02_Great.calls a AC1 cC1 CL AC2 cC2 CG AC3 cC3 CB AC4 cC4 CD false _ ?s0 ?s1 ?s2 ?s3 ?s4 ?s5 ?s6 ?s7 GR.out).mono ?_); (case s0 => exact HX.out.hC1); (case s1 => exact HX.out.lC1); (case s2 => exact HX.out.hC2); (case s3 => exact HX.out.lC2); (case s4 => exact HX.out.hC3); (case s5 => exact HX.out.lC3); (case s6 => exact HX.out.hC4); (case s7 => exact HX.out.lC4); rintro e w5 ⟨rfl, hb⟩; have N_ := M_ (HX.out.below hb); clear HX; have HX := N_; clear N_; have N_ := M_ (below_step HB.out hb); clear HB; have HB := N_; clear N_; have y0 := (blk_cell HX.out.box 0).trans (show _ = some (.int .i64 a) from rfl); have y1 := (blk_cell HX.out.box 1).trans (show _ = some (.slice AC1 CL.length cC1) from rfl); have y2 := (blk_cell HX.out.box 2).trans (show _ = some (.slice AC2 CG.length cC2) from rfl); have y3 := (blk_cell HX.out.box 3).trans (show _ = some (.slice AC3 CB.length cC3) from rfl); have y4 := (blk_cell HX.out.box 4).trans (show _ = some (.slice AC4 CD.length cC4) from rfl); clear hb)
  go_ret
  exact ⟨rfl, HB.out⟩
 have AS := M_ (has rfl)
 have HF0 := M_ (hf rfl d0)
 clear has hf
 have b0 : decide ((gv.length : Int) > 1300) = false := decide_eq_false (by omega)
 have b1 : decide ((1300 : Int) < (gv.length : Int)) = false := decide_eq_false (by omega)
 have b2 : decide (1300 < gv.length) = false := decide_eq_false (by omega)
 clear d0
 by_cases d1 : q = 0
 case neg =>
  have b3 : decide (q = 0) = false := decide_eq_false d1
  clear HF0
  have y0 := (blk_cell HX.out.box 0).trans (show _ = some (.int .i64 a) from rfl)
  have y1 := (blk_cell HX.out.box 1).trans (show _ = some (.slice AC1 CL.length cC1) from rfl)
  have y2 := (blk_cell HX.out.box 2).trans (show _ = some (.slice AC2 CG.length cC2) from rfl)
  have y3 := (blk_cell HX.out.box 3).trans (show _ = some (.slice AC3 CB.length cC3) from rfl)
  have y4 := (blk_cell HX.out.box 4).trans (show _ = some (.slice AC4 CD.length cC4) from rfl)
  go_wp2_with (first
   | (go_at_call 8; (with_reducible refine (spiritlevelref02_Great.calls a AC1 cC1 CL AC2 cC2 CG AC3 cC3 CB AC4 cC4 CD false _ ?s0 ?s1 ?s2 ?s3 ?s4 ?s5 ?s6 ?s7 GR.out).mono ?_); (case s0 => exact HX.out.hC1); (case s1 => exact HX.out.lC1); (case s2 => exact HX.out.hC2); (case s3 => exact HX.out.lC2); (case s4 => exact HX.out.hC3); (case s5 => exact HX.out.lC3); (case s6 => exact HX.out.hC4); (case s7 => exact HX.out.lC4); rintro e w5 ⟨rfl, hb⟩; have N_ := M_ (HX.out.below hb); clear HX; have HX := N_; clear N_; have N_ := M_ (below_step HB.out hb); clear HB; have HB := N_; clear N_; have y0 := (blk_cell HX.out.box 0).trans (show _ = some (.int .i64 a) from rfl); have y1 := (blk_cell HX.out.box 1).trans (show _ = some (.slice AC1 CL.length cC1) from rfl); have y2 := (blk_cell HX.out.box 2).trans (show _ = some (.slice AC2 CG.length cC2) from rfl); have y3 := (blk_cell HX.out.box 3).trans (show _ = some (.slice AC3 CB.length cC3) from rfl); have y4 := (blk_cell HX.out.box 4).trans (show _ = some (.slice AC4 CD.length cC4) from rfl); clear hb)
   | (go_at_call 13; (with_reducible refine (spiritlevelref04_Asked.calls k a AC1 cC1 CL AC2 cC2 CG AC3 cC3 CB AC4 cC4 CD AC6 cC6 st AC7 cC7 inp q _ ?s0 ?s1 ?s2 ?s3 ?s4 ?s5 ?s6 ?s7 ?s8 ?s9 ?s10 ?s11 AS.out).mono ?_); (case s0 => exact HX.out.hC1); (case s1 => exact HX.out.lC1); (case s2 => exact HX.out.hC2); (case s3 => exact HX.out.lC2); (case s4 => exact HX.out.hC3); (case s5 => exact HX.out.lC3); (case s6 => exact HX.out.hC4); (case s7 => exact HX.out.lC4); (case s8 => exact HX.out.hC6); (case s9 => exact HX.out.lC6); (case s10 => exact HX.out.hC7); (case s11 => exact HX.out.lC7); rintro e w5 ⟨rfl, hb⟩; have N_ := M_ (HX.out.below hb); clear HX; have HX := N_; clear N_; have N_ := M_ (below_step HB.out hb); clear HB; have HB := N_; clear N_; clear hb))
  go_ret
  exact ⟨rfl, HB.out⟩
 subst d1
 have HF := M_ (HF0.out rfl)
 clear HF0
 have y0 := (blk_cell HX.out.box 0).trans (show _ = some (.int .i64 a) from rfl)
 have y1 := (blk_cell HX.out.box 1).trans (show _ = some (.slice AC1 CL.length cC1) from rfl)
 have y2 := (blk_cell HX.out.box 2).trans (show _ = some (.slice AC2 CG.length cC2) from rfl)
 have y3 := (blk_cell HX.out.box 3).trans (show _ = some (.slice AC3 CB.length cC3) from rfl)
 have y4 := (blk_cell HX.out.box 4).trans (show _ = some (.slice AC4 CD.length cC4) from rfl)
 go_upto_region 4 with (first
  | (go_at_call 8; (with_reducible refine (spiritlevelref02_Great.calls a AC1 cC1 CL AC2 cC2 CG AC3 cC3 CB AC4 cC4 CD false _ ?s0 ?s1 ?s2 ?s3 ?s4 ?s5 ?s6 ?s7 GR.out).mono ?_); (case s0 => exact HX.out.hC1); (case s1 => exact HX.out.lC1); (case s2 => exact HX.out.hC2); (case s3 => exact HX.out.lC2); (case s4 => exact HX.out.hC3); (case s5 => exact HX.out.lC3); (case s6 => exact HX.out.hC4); (case s7 => exact HX.out.lC4); rintro e w5 ⟨rfl, hb⟩; have N_ := M_ (HX.out.below hb); clear HX; have HX := N_; clear N_; have N_ := M_ (below_step HB.out hb); clear HB; have HB := N_; clear N_; have y0 := (blk_cell HX.out.box 0).trans (show _ = some (.int .i64 a) from rfl); have y1 := (blk_cell HX.out.box 1).trans (show _ = some (.slice AC1 CL.length cC1) from rfl); have y2 := (blk_cell HX.out.box 2).trans (show _ = some (.slice AC2 CG.length cC2) from rfl); have y3 := (blk_cell HX.out.box 3).trans (show _ = some (.slice AC3 CB.length cC3) from rfl); have y4 := (blk_cell HX.out.box 4).trans (show _ = some (.slice AC4 CD.length cC4) from rfl); clear hb)
  | (go_at_call 13; (with_reducible refine (spiritlevelref04_Asked.calls k a AC1 cC1 CL AC2 cC2 CG AC3 cC3 CB AC4 cC4 CD AC6 cC6 st AC7 cC7 inp 0 _ ?s0 ?s1 ?s2 ?s3 ?s4 ?s5 ?s6 ?s7 ?s8 ?s9 ?s10 ?s11 AS.out).mono ?_); (case s0 => exact HX.out.hC1); (case s1 => exact HX.out.lC1); (case s2 => exact HX.out.hC2); (case s3 => exact HX.out.lC2); (case s4 => exact HX.out.hC3); (case s5 => exact HX.out.lC3); (case s6 => exact HX.out.hC4); (case s7 => exact HX.out.lC4); (case s8 => exact HX.out.hC6); (case s9 => exact HX.out.lC6); (case s10 => exact HX.out.hC7); (case s11 => exact HX.out.lC7); rintro e w5 ⟨rfl, hb⟩; have N_ := M_ (HX.out.below hb); clear HX; have HX := N_; clear N_; have N_ := M_ (below_step HB.out hb); clear HB; have HB := N_; clear N_; clear hb))
 clear b0 b1 b2 y0 y1 y2 y3 y4
 have y0 := (blk_cell HX.out.box 0).trans (show _ = some (.int .i64 a) from rfl)
 have y1 := (blk_cell HX.out.box 1).trans (show _ = some (.slice AC1 CL.length cC1) from rfl)
 have y2 := (blk_cell HX.out.box 2).trans (show _ = some (.slice AC2 CG.length cC2) from rfl)
 have y3 := (blk_cell HX.out.box 3).trans (show _ = some (.slice AC3 CB.length cC3) from rfl)
 have y4 := (blk_cell HX.out.box 4).trans (show _ = some (.slice AC4 CD.length cC4) from rfl)
 go_upto_region 5 with ((with_reducible refine gate_callee (f := 20) rfl ?_); refine goesL_ (some 55) rfl rfl Try.func20 (by kernel_rfl) rfl #[.agg #[.int .i64 a, .slice AC1 CL.length cC1, .slice AC2 CG.length cC2, .slice AC3 CB.length cC3, .slice AC4 CD.length cC4]] rfl (by (try simp only [List.map_toArray, List.map_cons, List.map_nil]); first | done | rfl) ?_; (with_reducible refine (hash_Pass.calls k a _ _ CL _ _ CG _ _ CB _ _ CD _ _ _ _ _ _ _ _ _ _ _ _ _ _ ?s0 ?s1 ?s2 ?s3 ?s4 ?s5 ?s6 ?s7 HF.out.pass).mono ?_); (case s0 => exact HX.out.hC1); (case s1 => exact HX.out.lC1); (case s2 => exact HX.out.hC2); (case s3 => exact HX.out.lC2); (case s4 => exact HX.out.hC3); (case s5 => exact HX.out.lC3); (case s6 => exact HX.out.hC4); (case s7 => exact HX.out.lC4); rintro e w5 ⟨v1, v2, v3, v4, v7, v8, v9, v10, rfl, ho1, ho2, ho3, ho4, ho7, ho8, ho9, ho10, hb⟩; refine ⟨_, rfl, ?_⟩; have N_ := M_ (HX.out.below hb); clear HX; have HX := N_; clear N_; have N_ := M_ (below_step HB.out hb); clear HB; have HB := N_; clear N_; obtain ⟨AP1, cP1, rfl⟩ := Kd.R_slice ho1; have hP1 := (Kd.R_reads' ho1).2.2; have lP1 := (Kd.R_reads' ho1).2.1; clear ho1; obtain ⟨AP2, cP2, rfl⟩ := Kd.R_slice ho2; have hP2 := (Kd.R_reads' ho2).2.2; have lP2 := (Kd.R_reads' ho2).2.1; clear ho2; obtain ⟨AP3, cP3, rfl⟩ := Kd.R_slice ho3; have hP3 := (Kd.R_reads' ho3).2.2; have lP3 := (Kd.R_reads' ho3).2.1; clear ho3; obtain ⟨AP4, cP4, rfl⟩ := Kd.R_slice ho4; have hP4 := (Kd.R_reads' ho4).2.2; have lP4 := (Kd.R_reads' ho4).2.1; clear ho4; obtain ⟨AP7, cP7, rfl⟩ := Kd.R_slice ho7; have hP7 := (Kd.R_reads' ho7).2.2; have lP7 := (Kd.R_reads' ho7).2.1; clear ho7; obtain ⟨AP8, cP8, rfl⟩ := Kd.S_slice ho8; have hP8 := (Kd.S_reads' ho8).2.2; have lP8 := (Kd.S_reads' ho8).2.1; clear ho8; obtain ⟨AP9, cP9, rfl⟩ := Kd.R_slice ho9; have hP9 := (Kd.R_reads' ho9).2.2; have lP9 := (Kd.R_reads' ho9).2.1; clear ho9; obtain ⟨AP10, cP10, rfl⟩ := Kd.R_slice ho10; have hP10 := (Kd.R_reads' ho10).2.2; have lP10 := (Kd.R_reads' ho10).2.1; clear ho10; clear hb)
 clear y0 y1 y2 y3 y4
 have hP : ZP (w5.alloc (.cells #[.int .i64 p1, .slice AP1 PL.length cP1, .slice AP2 PG.length cP2, .slice AP3 PB.length cP3, .slice AP4 PD.length cP4, .int .i64 p6, .int .i64 p7, .slice AP7 Pf.length cP7, .slice AP8 Pi.length cP8, .slice AP9 Pl.length cP9, .slice AP10 Pg.length cP10, .int .i64 p12] 55)) w5.heap.size p1 p6 p7 p12 AP1 cP1 PL AP2 cP2 PG AP3 cP3 PB AP4 cP4 PD AP7 cP7 Pf AP8 cP8 Pi AP9 cP9 Pl AP10 cP10 Pg := ⟨heap_alloc_new w5 _, Kd.C_alloc hP1 _, lP1, Kd.C_alloc hP2 _, lP2, Kd.C_alloc hP3 _, lP3, Kd.C_alloc hP4 _, lP4, Kd.C_alloc hP7 _, lP7, Kd.C_alloc hP8 _, lP8, Kd.C_alloc hP9 _, lP9, Kd.C_alloc hP10 _, lP10⟩
 clear hP1 lP1 hP2 lP2 hP3 lP3 hP4 lP4 hP7 lP7 hP8 lP8 hP9 lP9 hP10 lP10
 have hX := HX.out.below (below_alloc (Below.refl _ w5) (.cells #[.int .i64 p1, .slice AP1 PL.length cP1, .slice AP2 PG.length cP2, .slice AP3 PB.length cP3, .slice AP4 PD.length cP4, .int .i64 p6, .int .i64 p7, .slice AP7 Pf.length cP7, .slice AP8 Pi.length cP8, .slice AP9 Pl.length cP9, .slice AP10 Pg.length cP10, .int .i64 p12] 55))
 have hB := below_alloc HB.out (.cells #[.int .i64 p1, .slice AP1 PL.length cP1, .slice AP2 PG.length cP2, .slice AP3 PB.length cP3, .slice AP4 PD.length cP4, .int .i64 p6, .int .i64 p7, .slice AP7 Pf.length cP7, .slice AP8 Pi.length cP8, .slice AP9 Pl.length cP9, .slice AP10 Pg.length cP10, .int .i64 p12] 55)
 clear HX HB
 generalize w5.heap.size = gp at hP ⊢
 generalize w5.alloc (.cells #[.int .i64 p1, .slice AP1 PL.length cP1, .slice AP2 PG.length cP2, .slice AP3 PB.length cP3, .slice AP4 PD.length cP4, .int .i64 p6, .int .i64 p7, .slice AP7 Pf.length cP7, .slice AP8 Pi.length cP8, .slice AP9 Pl.length cP9, .slice AP10 Pg.length cP10, .int .i64 p12] 55) = w6 at hP hX hB ⊢
 have HX := M_ hX
 have HB := M_ hB
 have HP := M_ hP
 clear hP hX hB
 have y0 := (blk_cell HX.out.box 0).trans (show _ = some (.int .i64 a) from rfl)
 have y1 := (blk_cell HX.out.box 1).trans (show _ = some (.slice AC1 CL.length cC1) from rfl)
 have y2 := (blk_cell HX.out.box 2).trans (show _ = some (.slice AC2 CG.length cC2) from rfl)
 have y3 := (blk_cell HX.out.box 3).trans (show _ = some (.slice AC3 CB.length cC3) from rfl)
 have y4 := (blk_cell HX.out.box 4).trans (show _ = some (.slice AC4 CD.length cC4) from rfl)
 go_upto_region 6 with ((with_reducible refine gate_callee (f := 26) rfl ?_); refine goesL_ (some 62) rfl rfl Try.func26 (by kernel_rfl) rfl #[.agg #[.int .i64 a, .slice AC1 CL.length cC1, .slice AC2 CG.length cC2, .slice AC3 CB.length cC3, .slice AC4 CD.length cC4], .slice AC6 st.length cC6, .slice AC7 inp.length cC7] rfl (by (try simp only [List.map_toArray, List.map_cons, List.map_nil]); first | done | rfl) ?_; (with_reducible refine (values_Props.calls a _ _ CL _ _ CG _ _ CB _ _ CD _ _ st _ _ inp r Bv 0 _ ?s0 ?s1 ?s2 ?s3 ?s4 ?s5 ?s6 ?s7 ?s8 ?s9 ?s10 ?s11 HF.out.pc).mono ?_); (case s0 => exact HX.out.hC1); (case s1 => exact HX.out.lC1); (case s2 => exact HX.out.hC2); (case s3 => exact HX.out.lC2); (case s4 => exact HX.out.hC3); (case s5 => exact HX.out.lC3); (case s6 => exact HX.out.hC4); (case s7 => exact HX.out.lC4); (case s8 => exact HX.out.hC6); (case s9 => exact HX.out.lC6); (case s10 => exact HX.out.hC7); (case s11 => exact HX.out.lC7); rintro e w5 ⟨v, rfl, ho, hb⟩; refine ⟨_, rfl, ?_⟩; have N_ := M_ (HX.out.below hb); clear HX; have HX := N_; clear N_; have N_ := M_ (below_step HB.out hb); clear HB; have HB := N_; clear N_; have N_ := M_ (HP.out.below hb); clear HP; have HP := N_; clear N_; obtain ⟨AB, cB, rfl⟩ := Kd.R_slice ho; have LB := M_ (Kd.R_reads' ho).2.2; have MB := M_ (Kd.R_reads' ho).2.1; clear ho hb)
 clear y0 y1 y2 y3 y4
 have y0 := (blk_cell HP.out.box 0).trans (show _ = some (.int .i64 p1) from rfl)
 have y1 := (blk_cell HP.out.box 1).trans (show _ = some (.slice AP1 PL.length cP1) from rfl)
 have y2 := (blk_cell HP.out.box 2).trans (show _ = some (.slice AP2 PG.length cP2) from rfl)
 have y3 := (blk_cell HP.out.box 3).trans (show _ = some (.slice AP3 PB.length cP3) from rfl)
 have y4 := (blk_cell HP.out.box 4).trans (show _ = some (.slice AP4 PD.length cP4) from rfl)
 go_upto_region 7 with ((with_reducible refine gate_callee (f := 26) rfl ?_); refine goesL_ (some 71) rfl rfl Try.func26 (by kernel_rfl) rfl #[.agg #[.int .i64 p1, .slice AP1 PL.length cP1, .slice AP2 PG.length cP2, .slice AP3 PB.length cP3, .slice AP4 PD.length cP4], .slice AC6 st.length cC6, .slice AC7 inp.length cC7] rfl (by (try simp only [List.map_toArray, List.map_cons, List.map_nil]); first | done | rfl) ?_; (with_reducible refine (values_Props.calls p1 _ _ PL _ _ PG _ _ PB _ _ PD _ _ st _ _ inp r Bv 0 _ ?s0 ?s1 ?s2 ?s3 ?s4 ?s5 ?s6 ?s7 ?s8 ?s9 ?s10 ?s11 HF.out.px).mono ?_); (case s0 => exact HP.out.hP1); (case s1 => exact HP.out.lP1); (case s2 => exact HP.out.hP2); (case s3 => exact HP.out.lP2); (case s4 => exact HP.out.hP3); (case s5 => exact HP.out.lP3); (case s6 => exact HP.out.hP4); (case s7 => exact HP.out.lP4); (case s8 => exact HX.out.hC6); (case s9 => exact HX.out.lC6); (case s10 => exact HX.out.hC7); (case s11 => exact HX.out.lC7); rintro e w5 ⟨v, rfl, ho, hb⟩; refine ⟨_, rfl, ?_⟩; have N_ := M_ (HX.out.below hb); clear HX; have HX := N_; clear N_; have N_ := M_ (below_step HB.out hb); clear HB; have HB := N_; clear N_; have N_ := M_ (HP.out.below hb); clear HP; have HP := N_; clear N_; have N_ := M_ (Kd.C_below LB.out hb); clear LB; have LB := N_; clear N_; obtain ⟨AB2, cB2, rfl⟩ := Kd.R_slice ho; have LB2 := M_ (Kd.R_reads' ho).2.2; have MB2 := M_ (Kd.R_reads' ho).2.1; clear ho hb)
 clear y0 y1 y2 y3 y4
 have y0 := (blk_cell HX.out.box 0).trans (show _ = some (.int .i64 a) from rfl)
 have y1 := (blk_cell HX.out.box 1).trans (show _ = some (.slice AC1 CL.length cC1) from rfl)
 have y2 := (blk_cell HX.out.box 2).trans (show _ = some (.slice AC2 CG.length cC2) from rfl)
 have y3 := (blk_cell HX.out.box 3).trans (show _ = some (.slice AC3 CB.length cC3) from rfl)
 have y4 := (blk_cell HX.out.box 4).trans (show _ = some (.slice AC4 CD.length cC4) from rfl)
 go_upto_region 8 with ((with_reducible refine gate_callee (f := 27) rfl ?_); refine goesL_ (some 79) rfl rfl Try.func27 (by kernel_rfl) rfl #[.agg #[.int .i64 a, .slice AC1 CL.length cC1, .slice AC2 CG.length cC2, .slice AC3 CB.length cC3, .slice AC4 CD.length cC4], .slice AC6 st.length cC6, .slice AC7 inp.length cC7] rfl (by (try simp only [List.map_toArray, List.map_cons, List.map_nil]); first | done | rfl) ?_; (with_reducible refine (values_Next.calls a _ _ CL _ _ CG _ _ CB _ _ CD _ _ st _ _ inp S 0 _ ?s0 ?s1 ?s2 ?s3 ?s4 ?s5 ?s6 ?s7 ?s8 ?s9 ?s10 ?s11 HF.out.nc).mono ?_); (case s0 => exact HX.out.hC1); (case s1 => exact HX.out.lC1); (case s2 => exact HX.out.hC2); (case s3 => exact HX.out.lC2); (case s4 => exact HX.out.hC3); (case s5 => exact HX.out.lC3); (case s6 => exact HX.out.hC4); (case s7 => exact HX.out.lC4); (case s8 => exact HX.out.hC6); (case s9 => exact HX.out.lC6); (case s10 => exact HX.out.hC7); (case s11 => exact HX.out.lC7); rintro e w5 ⟨v, rfl, ho, hb⟩; refine ⟨_, rfl, ?_⟩; have N_ := M_ (HX.out.below hb); clear HX; have HX := N_; clear N_; have N_ := M_ (below_step HB.out hb); clear HB; have HB := N_; clear N_; have N_ := M_ (HP.out.below hb); clear HP; have HP := N_; clear N_; have N_ := M_ (Kd.C_below LB.out hb); clear LB; have LB := N_; clear N_; have N_ := M_ (Kd.C_below LB2.out hb); clear LB2; have LB2 := N_; clear N_; obtain ⟨AS, cS, rfl⟩ := Kd.R_slice ho; have LS := M_ (Kd.R_reads' ho).2.2; have MS := M_ (Kd.R_reads' ho).2.1; clear ho hb)
 clear y0 y1 y2 y3 y4
 have y0 := (blk_cell HP.out.box 0).trans (show _ = some (.int .i64 p1) from rfl)
 have y1 := (blk_cell HP.out.box 1).trans (show _ = some (.slice AP1 PL.length cP1) from rfl)
 have y2 := (blk_cell HP.out.box 2).trans (show _ = some (.slice AP2 PG.length cP2) from rfl)
 have y3 := (blk_cell HP.out.box 3).trans (show _ = some (.slice AP3 PB.length cP3) from rfl)
 have y4 := (blk_cell HP.out.box 4).trans (show _ = some (.slice AP4 PD.length cP4) from rfl)
 go_upto_region 9 with ((with_reducible refine gate_callee (f := 27) rfl ?_); refine goesL_ (some 87) rfl rfl Try.func27 (by kernel_rfl) rfl #[.agg #[.int .i64 p1, .slice AP1 PL.length cP1, .slice AP2 PG.length cP2, .slice AP3 PB.length cP3, .slice AP4 PD.length cP4], .slice AC6 st.length cC6, .slice AC7 inp.length cC7] rfl (by (try simp only [List.map_toArray, List.map_cons, List.map_nil]); first | done | rfl) ?_; (with_reducible refine (values_Next.calls p1 _ _ PL _ _ PG _ _ PB _ _ PD _ _ st _ _ inp S 0 _ ?s0 ?s1 ?s2 ?s3 ?s4 ?s5 ?s6 ?s7 ?s8 ?s9 ?s10 ?s11 HF.out.nx).mono ?_); (case s0 => exact HP.out.hP1); (case s1 => exact HP.out.lP1); (case s2 => exact HP.out.hP2); (case s3 => exact HP.out.lP2); (case s4 => exact HP.out.hP3); (case s5 => exact HP.out.lP3); (case s6 => exact HP.out.hP4); (case s7 => exact HP.out.lP4); (case s8 => exact HX.out.hC6); (case s9 => exact HX.out.lC6); (case s10 => exact HX.out.hC7); (case s11 => exact HX.out.lC7); rintro e w5 ⟨v, rfl, ho, hb⟩; refine ⟨_, rfl, ?_⟩; have N_ := M_ (HX.out.below hb); clear HX; have HX := N_; clear N_; have N_ := M_ (below_step HB.out hb); clear HB; have HB := N_; clear N_; have N_ := M_ (HP.out.below hb); clear HP; have HP := N_; clear N_; have N_ := M_ (Kd.C_below LB.out hb); clear LB; have LB := N_; clear N_; have N_ := M_ (Kd.C_below LB2.out hb); clear LB2; have LB2 := N_; clear N_; have N_ := M_ (Kd.C_below LS.out hb); clear LS; have LS := N_; clear N_; obtain ⟨AS2, cS2, rfl⟩ := Kd.R_slice ho; have LS2 := M_ (Kd.R_reads' ho).2.2; have MS2 := M_ (Kd.R_reads' ho).2.1; clear ho hb)
 clear y0 y1 y2 y3 y4
 have rr : (r != r) = false := by cases r <;> rfl
 have rr2 : (r == r) = true := by cases r <;> rfl
 go_upto_region 11 with (first
  | (go_at_call_of 15 (Value.slice AB Bv.length cB); (with_reducible refine (spiritlevelref04_Same.calls k AB cB Bv AB2 cB2 Bv true _ ?s0 ?s1 ?s2 ?s3 HF.out.sB).mono ?_); (case s0 => exact LB.out); (case s1 => exact MB.out); (case s2 => exact LB2.out); (case s3 => exact MB2.out); rintro e w5 ⟨rfl, hd⟩; have hb := hd.below; have N_ := M_ (HX.out.below hb); clear HX; have HX := N_; clear N_; have N_ := M_ (below_step HB.out hb); clear HB; have HB := N_; clear N_; have N_ := M_ (HP.out.below hb); clear HP; have HP := N_; clear N_; have N_ := M_ (Kd.C_below LB.out hb); clear LB; have LB := N_; clear N_; have N_ := M_ (Kd.C_below LB2.out hb); clear LB2; have LB2 := N_; clear N_; have N_ := M_ (Kd.C_below LS.out hb); clear LS; have LS := N_; clear N_; have N_ := M_ (Kd.C_below LS2.out hb); clear LS2; have LS2 := N_; clear N_; clear hd hb)
  | (go_at_call_of 15 (Value.slice AS S.length cS); (with_reducible refine (spiritlevelref04_Same.calls k AS cS S AS2 cS2 S true _ ?s0 ?s1 ?s2 ?s3 HF.out.sS).mono ?_); (case s0 => exact LS.out); (case s1 => exact MS.out); (case s2 => exact LS2.out); (case s3 => exact MS2.out); rintro e w5 ⟨rfl, hd⟩; have hb := hd.below; have N_ := M_ (HX.out.below hb); clear HX; have HX := N_; clear N_; have N_ := M_ (below_step HB.out hb); clear HB; have HB := N_; clear N_; have N_ := M_ (HP.out.below hb); clear HP; have HP := N_; clear N_; have N_ := M_ (Kd.C_below LB.out hb); clear LB; have LB := N_; clear N_; have N_ := M_ (Kd.C_below LB2.out hb); clear LB2; have LB2 := N_; clear N_; have N_ := M_ (Kd.C_below LS.out hb); clear LS; have LS := N_; clear N_; have N_ := M_ (Kd.C_below LS2.out hb); clear LS2; have LS2 := N_; clear N_; have y0 := (blk_cell HX.out.box 0).trans (show _ = some (.int .i64 a) from rfl); have y1 := (blk_cell HX.out.box 1).trans (show _ = some (.slice AC1 CL.length cC1) from rfl); have y2 := (blk_cell HX.out.box 2).trans (show _ = some (.slice AC2 CG.length cC2) from rfl); have y3 := (blk_cell HX.out.box 3).trans (show _ = some (.slice AC3 CB.length cC3) from rfl); have y4 := (blk_cell HX.out.box 4).trans (show _ = some (.slice AC4 CD.length cC4) from rfl); have z0 := (blk_cell HP.out.box 0).trans (show _ = some (.int .i64 p1) from rfl); have z1 := (blk_cell HP.out.box 1).trans (show _ = some (.slice AP1 PL.length cP1) from rfl); have z2 := (blk_cell HP.out.box 2).trans (show _ = some (.slice AP2 PG.length cP2) from rfl); have z3 := (blk_cell HP.out.box 3).trans (show _ = some (.slice AP3 PB.length cP3) from rfl); have z4 := (blk_cell HP.out.box 4).trans (show _ = some (.slice AP4 PD.length cP4) from rfl); have z5 := (blk_cell HP.out.box 5).trans (show _ = some (.int .i64 p6) from rfl); have z6 := (blk_cell HP.out.box 6).trans (show _ = some (.int .i64 p7) from rfl); have z7 := (blk_cell HP.out.box 7).trans (show _ = some (.slice AP7 Pf.length cP7) from rfl); have z8 := (blk_cell HP.out.box 8).trans (show _ = some (.slice AP8 Pi.length cP8) from rfl); have z9 := (blk_cell HP.out.box 9).trans (show _ = some (.slice AP9 Pl.length cP9) from rfl); have z10 := (blk_cell HP.out.box 10).trans (show _ = some (.slice AP10 Pg.length cP10) from rfl); have z11 := (blk_cell HP.out.box 11).trans (show _ = some (.int .i64 p12) from rfl); clear hd hb)
  | (go_at_call 28; (with_reducible refine (lift_Check.calls k a AC1 cC1 CL AC2 cC2 CG AC3 cC3 CB AC4 cC4 CD p1 AP1 cP1 PL AP2 cP2 PG AP3 cP3 PB AP4 cP4 PD p6 p7 AP7 cP7 Pf AP8 cP8 Pi AP9 cP9 Pl AP10 cP10 Pg p12 0 _ ?s0 ?s1 ?s2 ?s3 ?s4 ?s5 ?s6 ?s7 ?s8 ?s9 ?s10 ?s11 ?s12 ?s13 ?s14 ?s15 ?s16 ?s17 ?s18 ?s19 ?s20 ?s21 ?s22 ?s23 HF.out.chk).mono ?_); (case s0 => exact HX.out.hC1); (case s1 => exact HX.out.lC1); (case s2 => exact HX.out.hC2); (case s3 => exact HX.out.lC2); (case s4 => exact HX.out.hC3); (case s5 => exact HX.out.lC3); (case s6 => exact HX.out.hC4); (case s7 => exact HX.out.lC4); (case s8 => exact HP.out.hP1); (case s9 => exact HP.out.lP1); (case s10 => exact HP.out.hP2); (case s11 => exact HP.out.lP2); (case s12 => exact HP.out.hP3); (case s13 => exact HP.out.lP3); (case s14 => exact HP.out.hP4); (case s15 => exact HP.out.lP4); (case s16 => exact HP.out.hP7); (case s17 => exact HP.out.lP7); (case s18 => exact HP.out.hP8); (case s19 => exact HP.out.lP8); (case s20 => exact HP.out.hP9); (case s21 => exact HP.out.lP9); (case s22 => exact HP.out.hP10); (case s23 => exact HP.out.lP10); rintro e w5 ⟨rfl, hb⟩; have N_ := M_ (HX.out.below hb); clear HX; have HX := N_; clear N_; have N_ := M_ (below_step HB.out hb); clear HB; have HB := N_; clear N_; clear hb))
 clear rr rr2 y0 y1 y2 y3 y4 z0 z1 z2 z3 z4 z5 z6 z7 z8 z9 z10 z11 HP LB LB2 LS LS2 MB MB2 MS MS2
 have y0 := (blk_cell HX.out.box 0).trans (show _ = some (.int .i64 a) from rfl)
 have y1 := (blk_cell HX.out.box 1).trans (show _ = some (.slice AC1 CL.length cC1) from rfl)
 have y2 := (blk_cell HX.out.box 2).trans (show _ = some (.slice AC2 CG.length cC2) from rfl)
 have y3 := (blk_cell HX.out.box 3).trans (show _ = some (.slice AC3 CB.length cC3) from rfl)
 have y4 := (blk_cell HX.out.box 4).trans (show _ = some (.slice AC4 CD.length cC4) from rfl)
 go_upto_region 12 with ((with_reducible refine gate_callee (f := 18) rfl ?_); refine goesL_ (some 137) rfl rfl Try.func18 (by kernel_rfl) rfl #[.agg #[.int .i64 a, .slice AC1 CL.length cC1, .slice AC2 CG.length cC2, .slice AC3 CB.length cC3, .slice AC4 CD.length cC4], .slice AC5 gv.length cC5] rfl (by (try simp only [List.map_toArray, List.map_cons, List.map_nil]); first | done | rfl) ?_; (with_reducible refine (hash_Build.calls a _ _ CL _ _ CG _ _ CB _ _ CD _ _ gv _ _ _ _ _ _ _ _ ?s0 ?s1 ?s2 ?s3 ?s4 ?s5 ?s6 ?s7 ?s8 ?s9 HF.out.build).mono ?_); (case s0 => exact HX.out.hC1); (case s1 => exact HX.out.lC1); (case s2 => exact HX.out.hC2); (case s3 => exact HX.out.lC2); (case s4 => exact HX.out.hC3); (case s5 => exact HX.out.lC3); (case s6 => exact HX.out.hC4); (case s7 => exact HX.out.lC4); (case s8 => exact HX.out.hC5); (case s9 => exact HX.out.lC5); rintro e w5 ⟨v1, v2, v3, v4, v5, rfl, ho1, ho2, ho3, ho4, ho5, hb⟩; refine ⟨_, rfl, ?_⟩; have N_ := M_ (HX.out.below hb); clear HX; have HX := N_; clear N_; have N_ := M_ (below_step HB.out hb); clear HB; have HB := N_; clear N_; obtain ⟨AX1, cX1, rfl⟩ := Kd.R_slice ho1; have hX1 := (Kd.R_reads' ho1).2.2; have lX1 := (Kd.R_reads' ho1).2.1; clear ho1; obtain ⟨AX2, cX2, rfl⟩ := Kd.R_slice ho2; have hX2 := (Kd.R_reads' ho2).2.2; have lX2 := (Kd.R_reads' ho2).2.1; clear ho2; obtain ⟨AX3, cX3, rfl⟩ := Kd.R_slice ho3; have hX3 := (Kd.R_reads' ho3).2.2; have lX3 := (Kd.R_reads' ho3).2.1; clear ho3; obtain ⟨AX4, cX4, rfl⟩ := Kd.R_slice ho4; have hX4 := (Kd.R_reads' ho4).2.2; have lX4 := (Kd.R_reads' ho4).2.1; clear ho4; obtain ⟨AX5, cX5, rfl⟩ := Kd.R_slice ho5; have hX5 := (Kd.R_reads' ho5).2.2; have lX5 := (Kd.R_reads' ho5).2.1; clear ho5; clear hb)
 clear y0 y1 y2 y3 y4
 have hP : ZX (w5.alloc (.cells #[.int .i64 x1, .slice AX1 XL.length cX1, .slice AX2 XG.length cX2, .slice AX3 XB.length cX3, .slice AX4 XD.length cX4] 26)) w5.heap.size x1 AX1 cX1 XL AX2 cX2 XG AX3 cX3 XB AX4 cX4 XD AX5 cX5 T := ⟨heap_alloc_new w5 _, Kd.C_alloc hX1 _, lX1, Kd.C_alloc hX2 _, lX2, Kd.C_alloc hX3 _, lX3, Kd.C_alloc hX4 _, lX4, Kd.C_alloc hX5 _, lX5⟩
 clear hX1 lX1 hX2 lX2 hX3 lX3 hX4 lX4 hX5 lX5
 have hX := HX.out.below (below_alloc (Below.refl _ w5) (.cells #[.int .i64 x1, .slice AX1 XL.length cX1, .slice AX2 XG.length cX2, .slice AX3 XB.length cX3, .slice AX4 XD.length cX4] 26))
 have hB := below_alloc HB.out (.cells #[.int .i64 x1, .slice AX1 XL.length cX1, .slice AX2 XG.length cX2, .slice AX3 XB.length cX3, .slice AX4 XD.length cX4] 26)
 clear HX HB
 generalize w5.heap.size = gx at hP ⊢
 generalize w5.alloc (.cells #[.int .i64 x1, .slice AX1 XL.length cX1, .slice AX2 XG.length cX2, .slice AX3 XB.length cX3, .slice AX4 XD.length cX4] 26) = w6 at hP hX hB ⊢
 have HX := M_ hX
 have HB := M_ hB
 have HN := M_ hP
 clear hP hX hB
 by_cases d1 : j = 0
 case neg =>
  have b3 : decide (j = 0) = false := decide_eq_false d1
  clear HF
  go_wp2_with fail
  go_ret
  exact ⟨rfl, HB.out⟩
 have HR := M_ (HF.out.rest d1)
 clear HF
 subst d1
 go_upto_region 14 with fail
 have y0 := (blk_cell HX.out.box 0).trans (show _ = some (.int .i64 a) from rfl)
 have y1 := (blk_cell HX.out.box 1).trans (show _ = some (.slice AC1 CL.length cC1) from rfl)
 have y2 := (blk_cell HX.out.box 2).trans (show _ = some (.slice AC2 CG.length cC2) from rfl)
 have y3 := (blk_cell HX.out.box 3).trans (show _ = some (.slice AC3 CB.length cC3) from rfl)
 have y4 := (blk_cell HX.out.box 4).trans (show _ = some (.slice AC4 CD.length cC4) from rfl)
 go_upto_region 15 with ((with_reducible refine gate_callee (f := 14) rfl ?_); refine goesL_ (some 148) rfl rfl Try.func14 (by kernel_rfl) rfl #[.agg #[.int .i64 a, .slice AC1 CL.length cC1, .slice AC2 CG.length cC2, .slice AC3 CB.length cC3, .slice AC4 CD.length cC4], .slice AC6 st.length cC6, .slice AC7 inp.length cC7] rfl (by (try simp only [List.map_toArray, List.map_cons, List.map_nil]); first | done | rfl) ?_; (with_reducible refine (values_All.calls a _ _ CL _ _ CG _ _ CB _ _ CD _ _ st _ _ inp F 0 _ ?s0 ?s1 ?s2 ?s3 ?s4 ?s5 ?s6 ?s7 ?s8 ?s9 ?s10 ?s11 HR.out.ac).mono ?_); (case s0 => exact HX.out.hC1); (case s1 => exact HX.out.lC1); (case s2 => exact HX.out.hC2); (case s3 => exact HX.out.lC2); (case s4 => exact HX.out.hC3); (case s5 => exact HX.out.lC3); (case s6 => exact HX.out.hC4); (case s7 => exact HX.out.lC4); (case s8 => exact HX.out.hC6); (case s9 => exact HX.out.lC6); (case s10 => exact HX.out.hC7); (case s11 => exact HX.out.lC7); rintro e w5 ⟨v, rfl, ho, hb⟩; refine ⟨_, rfl, ?_⟩; have N_ := M_ (HX.out.below hb); clear HX; have HX := N_; clear N_; have N_ := M_ (below_step HB.out hb); clear HB; have HB := N_; clear N_; have N_ := M_ (HN.out.below hb); clear HN; have HN := N_; clear N_; obtain ⟨AF, cF, rfl⟩ := Kd.R_slice ho; have LF := M_ (Kd.R_reads' ho).2.2; have MF := M_ (Kd.R_reads' ho).2.1; clear ho hb)
 clear y0 y1 y2 y3 y4
 have y0 := (blk_cell HN.out.box 0).trans (show _ = some (.int .i64 x1) from rfl)
 have y1 := (blk_cell HN.out.box 1).trans (show _ = some (.slice AX1 XL.length cX1) from rfl)
 have y2 := (blk_cell HN.out.box 2).trans (show _ = some (.slice AX2 XG.length cX2) from rfl)
 have y3 := (blk_cell HN.out.box 3).trans (show _ = some (.slice AX3 XB.length cX3) from rfl)
 have y4 := (blk_cell HN.out.box 4).trans (show _ = some (.slice AX4 XD.length cX4) from rfl)
 go_upto_region 16 with ((with_reducible refine gate_callee (f := 14) rfl ?_); refine goesL_ (some 155) rfl rfl Try.func14 (by kernel_rfl) rfl #[.agg #[.int .i64 x1, .slice AX1 XL.length cX1, .slice AX2 XG.length cX2, .slice AX3 XB.length cX3, .slice AX4 XD.length cX4], .slice AC6 st.length cC6, .slice AC7 inp.length cC7] rfl (by (try simp only [List.map_toArray, List.map_cons, List.map_nil]); first | done | rfl) ?_; (with_reducible refine (values_All.calls x1 _ _ XL _ _ XG _ _ XB _ _ XD _ _ st _ _ inp F2 0 _ ?s0 ?s1 ?s2 ?s3 ?s4 ?s5 ?s6 ?s7 ?s8 ?s9 ?s10 ?s11 HR.out.ax).mono ?_); (case s0 => exact HN.out.hX1); (case s1 => exact HN.out.lX1); (case s2 => exact HN.out.hX2); (case s3 => exact HN.out.lX2); (case s4 => exact HN.out.hX3); (case s5 => exact HN.out.lX3); (case s6 => exact HN.out.hX4); (case s7 => exact HN.out.lX4); (case s8 => exact HX.out.hC6); (case s9 => exact HX.out.lC6); (case s10 => exact HX.out.hC7); (case s11 => exact HX.out.lC7); rintro e w5 ⟨v, rfl, ho, hb⟩; refine ⟨_, rfl, ?_⟩; have N_ := M_ (HX.out.below hb); clear HX; have HX := N_; clear N_; have N_ := M_ (below_step HB.out hb); clear HB; have HB := N_; clear N_; have N_ := M_ (HN.out.below hb); clear HN; have HN := N_; clear N_; have N_ := M_ (Kd.C_below LF.out hb); clear LF; have LF := N_; clear N_; obtain ⟨AG, cG, rfl⟩ := Kd.R_slice ho; have LG := M_ (Kd.R_reads' ho).2.2; have MG := M_ (Kd.R_reads' ho).2.1; clear ho hb)
 clear y0 y1 y2 y3 y4
 have e1 := HR.out.t1
 have e2 := HR.out.t2
 go_upto_block 0 with fail
 have EE := M_ (And.intro e1 (And.intro e2 (And.intro HR.out.small HR.out.n1)))
 clear e1 e2
 obtain ⟨wc, hwc⟩ : ∃ x, x = w5 := ⟨_, rfl⟩
 rw [← hwc] at HX HB HN LF LG ⊢
 clear hwc
 by_cases hn : n < F.length
 ·as_aux_lemma =>
  go_wp2
  go_loopg [29] (F.length + 1) (fun kq v29 w' => ∃ v : Nat, v29 = .int .i64 (v : Int) ∧ Aside0 (v ≤ n ∧ kq + v = F.length + 1) ∧ Aside0 (Below wc.heap.size wc w'))
  case atStart => exact ⟨0, rfl, ⟨by omega, by omega⟩, ⟨Below.refl _ _⟩⟩
  case round =>
   obtain ⟨v, rfl, HI, HBI⟩ := hrel
   have small := EE.out.2.2.1
   have hw1 : wrap64 ((v : Int) + 1) = (v : Int) + 1 := by have := HI.out; have := EE.out.2.2; unfold wrap64; omega
   have hw2 : IntKind.i64.wrap ((v : Int) + 1) = (v : Int) + 1 := by have := HI.out; have := EE.out.2.2; rw [IntKind.wrap_i64]; omega
   clear small
   have hvF : v < F.length := by have := HI.out; omega
   by_cases hvn : v < n
   ·by_cases hp : 0 ≤ rd gv (v : Int)
    ·have hv := HR.out.good v hvn hp
     as_aux_lemma =>
     have cF_ : v < F.length := by first | exact hvF | (have := HI.out; have := EE.out.2.2; omega)
     have cb : decide (v < F.length) = true := decide_eq_true cF_
     have cb2 : decide ((v : Int) < (F.length : Int)) = true := decide_eq_true (by omega)
     have r0 : (0 : Int) ≤ (v : Int) := by omega
     have r1 : (v : Int) < (F.length : Int) := by omega
     have r2 : (v : Int) < (gv.length : Int) := by have := EE.out.2.1; omega
     obtain ⟨ag, eg, x1_⟩ := Kd.at_int HX.out.hC5 (v : Int) r0 r2
     obtain ⟨af, ef, x2_⟩ := Kd.at_bool LF.out (v : Int) r0 r1
     rw [Int.toNat_natCast] at x1_ x2_
     subst eg ef
     have HV := M_ hv
     clear hv
     have c1_ : decide (rd gv (v : Int) ≥ 0) = true := decide_eq_true hp
     have c2_ : decide (0 ≤ rd gv (v : Int)) = true := decide_eq_true hp
     clear hp
     generalize rd gv (v : Int) = p at x1_ c1_ c2_ HV
     generalize rdOf false F (v : Int) = X at x2_ HV
     go_upto_region 21 with fail
     have HB3 := M_ (below_step HBI.out (below_drew (Below.refl _ _)))
     have z1 := pw_cell_below HB3.out x1_
     have z2 := pw_cell_below HB3.out x2_
     clear x1_ x2_
     cases X with
     | true =>
      refine wp_region_last_drew (S := fun w' => w'.cell? (ag.add v) = some (.int .i64 p) ∧ w'.cell? (af.add v) = some (.bool true)) (ds := []) (by kernel_rfl) ⟨z1, z2⟩ (fun hH => ?_)
      iterate 15 (refine tk_ [0,1,2,3,4,5,6,7,8,9,10,11,12,13,14,15,16,17] (v := ?_) (by simp; rfl) (by kernel_rfl) (by exact fun _ _ _ h => h) (Or.inl ⟨by rfl, ?_⟩) hH ?_; rotate_left; (intro _ hS; (try dsimp only at hS); go_simp; (try with_reducible rfl)); simp only [Act.put, e1_, e2_, e3_])
      refine os_ 15 (by simp; rfl) (by kernel_rfl) (fun K hK => ?_)
      refine goes_ Try.func29 (by kernel_rfl) rfl #[.slice (some af) F.length cF, .int .i64 p] (by rfl) rfl rfl (by (try simp only [List.map_toArray, List.map_cons, List.map_nil]); first | done | rfl) ?_
      refine (spiritlevelref04_Value.calls _ _ F p true _ (Kd.C_below LF.out HB3.out) MF.out HV.out).mono ?_
      rintro e w5 ⟨rfl, hd⟩
      refine ⟨_, rfl, ?_⟩
      have hb := hd.below
      have HB4 := M_ (below_step HB3.out hb)
      replace z1 := pw_cell_below hb z1
      replace z2 := pw_cell_below hb z2
      refine hK.out _ _ ⟨z1, z2⟩ (fun hH => ?_)
      clear hK K hd hb
      iterate 2 (refine tk_ [0,1,2,3,4,5,6,7,8,9,10,11,12,13,14,15,16,17] (v := ?_) (by simp; rfl) (by kernel_rfl) (by exact fun _ _ _ h => h) (Or.inl ⟨by rfl, ?_⟩) hH ?_; rotate_left; (intro _ hS; (try dsimp only at hS); go_simp; (try with_reducible rfl)); simp only [Act.put, e1_, e2_, e3_])
      refine wpAnyLast_done (by kernel_rfl) ?_ _
      clear hH z1 z2
      go_wp2
      go_roundg (gk - 1)
      case rel => exact ⟨v + 1, congrArg (Value.int .i64) (by first | exact hw1 | exact hw2 | omega), ⟨by first | exact hvn | (have := HI.out; omega), by have := HI.out; have := EE.out.2.2; omega⟩, HB4⟩
      case measure => have := HI.out; have := EE.out.2.2; omega
     | false =>
      refine wp_region_last_drew (S := fun w' => w'.cell? (ag.add v) = some (.int .i64 p) ∧ w'.cell? (af.add v) = some (.bool false)) (ds := []) (by kernel_rfl) ⟨z1, z2⟩ (fun hH => ?_)
      iterate 15 (refine tk_ [0,1,2,3,4,5,6,7,8,9,10,11,12,13,14,15,16,17] (v := ?_) (by simp; rfl) (by kernel_rfl) (by exact fun _ _ _ h => h) (Or.inl ⟨by rfl, ?_⟩) hH ?_; rotate_left; (intro _ hS; (try dsimp only at hS); go_simp; (try with_reducible rfl)); simp only [Act.put, e1_, e2_, e3_])
      refine os_ 15 (by simp; rfl) (by kernel_rfl) (fun K hK => ?_)
      refine goes_ Try.func29 (by kernel_rfl) rfl #[.slice (some af) F.length cF, .int .i64 p] (by rfl) rfl rfl (by (try simp only [List.map_toArray, List.map_cons, List.map_nil]); first | done | rfl) ?_
      refine (spiritlevelref04_Value.calls _ _ F p false _ (Kd.C_below LF.out HB3.out) MF.out HV.out).mono ?_
      rintro e w5 ⟨rfl, hd⟩
      refine ⟨_, rfl, ?_⟩
      have hb := hd.below
      have HB4 := M_ (below_step HB3.out hb)
      replace z1 := pw_cell_below hb z1
      replace z2 := pw_cell_below hb z2
      refine hK.out _ _ ⟨z1, z2⟩ (fun hH => ?_)
      clear hK K hd hb
      iterate 2 (refine tk_ [0,1,2,3,4,5,6,7,8,9,10,11,12,13,14,15,16,17] (v := ?_) (by simp; rfl) (by kernel_rfl) (by exact fun _ _ _ h => h) (Or.inl ⟨by rfl, ?_⟩) hH ?_; rotate_left; (intro _ hS; (try dsimp only at hS); go_simp; (try with_reducible rfl)); simp only [Act.put, e1_, e2_, e3_])
      refine wpAnyLast_done (by kernel_rfl) ?_ _
      clear hH z1 z2
      go_wp2
      go_roundg (gk - 1)
      case rel => exact ⟨v + 1, congrArg (Value.int .i64) (by first | exact hw1 | exact hw2 | omega), ⟨by first | exact hvn | (have := HI.out; omega), by have := HI.out; have := EE.out.2.2; omega⟩, HB4⟩
      case measure => have := HI.out; have := EE.out.2.2; omega
    ·have hv := True.intro
     as_aux_lemma =>
     have cF_ : v < F.length := by first | exact hvF | (have := HI.out; have := EE.out.2.2; omega)
     have cb : decide (v < F.length) = true := decide_eq_true cF_
     have cb2 : decide ((v : Int) < (F.length : Int)) = true := decide_eq_true (by omega)
     have r0 : (0 : Int) ≤ (v : Int) := by omega
     have r1 : (v : Int) < (F.length : Int) := by omega
     have r2 : (v : Int) < (gv.length : Int) := by have := EE.out.2.1; omega
     obtain ⟨ag, eg, x1_⟩ := Kd.at_int HX.out.hC5 (v : Int) r0 r2
     obtain ⟨af, ef, x2_⟩ := Kd.at_bool LF.out (v : Int) r0 r1
     rw [Int.toNat_natCast] at x1_ x2_
     subst eg ef
     have HV := M_ hv
     clear hv
     have c1_ : decide (rd gv (v : Int) ≥ 0) = false := decide_eq_false hp
     have c2_ : decide (0 ≤ rd gv (v : Int)) = false := decide_eq_false hp
     clear hp
     generalize rd gv (v : Int) = p at x1_ c1_ c2_ HV
     generalize rdOf false F (v : Int) = X at x2_ HV
     go_upto_region 21 with fail
     have HB3 := M_ (below_step HBI.out (below_drew (Below.refl _ _)))
     have z1 := pw_cell_below HB3.out x1_
     have z2 := pw_cell_below HB3.out x2_
     clear x1_ x2_
     refine wp_region_last_drew (S := fun w' => w'.cell? (ag.add v) = some (.int .i64 p) ∧ w'.cell? (af.add v) = some (.bool X)) (ds := []) (by kernel_rfl) ⟨z1, z2⟩ (fun hH => ?_)
     iterate 6 (refine tk_ [0,1,2,3,4,5,6,7,8,9,10,11,12,13,14,15,16,17] (v := ?_) (by simp; rfl) (by kernel_rfl) (by exact fun _ _ _ h => h) (Or.inl ⟨by rfl, ?_⟩) hH ?_; rotate_left; (intro _ hS; (try dsimp only at hS); go_simp; (try with_reducible rfl)); simp only [Act.put, e1_, e2_, e3_])
     iterate 11 (refine tk_ [0,1,2,3,4,5,6,7,8,9,10,11,12,13,14,15,16,17] (v := undef) (by simp; rfl) (by kernel_rfl) (by exact fun _ _ _ h => h) (Or.inr ⟨by rfl, rfl⟩) hH ?_; simp only [Act.put, e1_, e2_, e3_])
     iterate 1 (refine tk_ [0,1,2,3,4,5,6,7,8,9,10,11,12,13,14,15,16,17] (v := ?_) (by simp; rfl) (by kernel_rfl) (by exact fun _ _ _ h => h) (Or.inl ⟨by rfl, ?_⟩) hH ?_; rotate_left; (intro _ hS; (try dsimp only at hS); go_simp; (try with_reducible rfl)); simp only [Act.put, e1_, e2_, e3_])
     refine wpAnyLast_done (by kernel_rfl) ?_ _
     clear hH z1 z2
     go_wp2
     go_roundg (gk - 1)
     case rel => exact ⟨v + 1, congrArg (Value.int .i64) (by first | exact hw1 | exact hw2 | omega), ⟨by first | exact hvn | (have := HI.out; omega), by have := HI.out; have := EE.out.2.2; omega⟩, HB3⟩
     case measure => have := HI.out; have := EE.out.2.2; omega
   ·obtain rfl : v = n := by have := HI.out; omega
    obtain ⟨hp, hv⟩ := HR.out.bad hn
    as_aux_lemma =>
    have cF_ : v < F.length := by first | exact hvF | (have := HI.out; have := EE.out.2.2; omega)
    have cb : decide (v < F.length) = true := decide_eq_true cF_
    have cb2 : decide ((v : Int) < (F.length : Int)) = true := decide_eq_true (by omega)
    have r0 : (0 : Int) ≤ (v : Int) := by omega
    have r1 : (v : Int) < (F.length : Int) := by omega
    have r2 : (v : Int) < (gv.length : Int) := by have := EE.out.2.1; omega
    obtain ⟨ag, eg, x1_⟩ := Kd.at_int HX.out.hC5 (v : Int) r0 r2
    obtain ⟨af, ef, x2_⟩ := Kd.at_bool LF.out (v : Int) r0 r1
    rw [Int.toNat_natCast] at x1_ x2_
    subst eg ef
    have HV := M_ hv
    clear hv
    have c1_ : decide (rd gv (v : Int) ≥ 0) = true := decide_eq_true hp
    have c2_ : decide (0 ≤ rd gv (v : Int)) = true := decide_eq_true hp
    clear hp
    generalize rd gv (v : Int) = p at x1_ c1_ c2_ HV
    generalize rdOf false F (v : Int) = X at x2_ HV
    go_upto_region 21 with fail
    have HB3 := M_ (below_step HBI.out (below_drew (Below.refl _ _)))
    have z1 := pw_cell_below HB3.out x1_
    have z2 := pw_cell_below HB3.out x2_
    clear x1_ x2_
    cases X with
    | true =>
     simp only [Bool.not_true, Bool.not_false] at HV
     refine wp_region_last_drew (S := fun w' => w'.cell? (ag.add v) = some (.int .i64 p) ∧ w'.cell? (af.add v) = some (.bool true)) (ds := []) (by kernel_rfl) ⟨z1, z2⟩ (fun hH => ?_)
     iterate 15 (refine tk_ [0,1,2,3,4,5,6,7,8,9,10,11,12,13,14,15,16,17] (v := ?_) (by simp; rfl) (by kernel_rfl) (by exact fun _ _ _ h => h) (Or.inl ⟨by rfl, ?_⟩) hH ?_; rotate_left; (intro _ hS; (try dsimp only at hS); go_simp; (try with_reducible rfl)); simp only [Act.put, e1_, e2_, e3_])
     refine os_ 15 (by simp; rfl) (by kernel_rfl) (fun K hK => ?_)
     refine goes_ Try.func29 (by kernel_rfl) rfl #[.slice (some af) F.length cF, .int .i64 p] (by rfl) rfl rfl (by (try simp only [List.map_toArray, List.map_cons, List.map_nil]); first | done | rfl) ?_
     refine (spiritlevelref04_Value.calls _ _ F p false _ (Kd.C_below LF.out HB3.out) MF.out HV.out).mono ?_
     rintro e w5 ⟨rfl, hd⟩
     refine ⟨_, rfl, ?_⟩
     have hb := hd.below
     have HB4 := M_ (below_step HB3.out hb)
     replace z1 := pw_cell_below hb z1
     replace z2 := pw_cell_below hb z2
     refine hK.out _ _ ⟨z1, z2⟩ (fun hH => ?_)
     clear hK K hd hb
     iterate 2 (refine tk_ [0,1,2,3,4,5,6,7,8,9,10,11,12,13,14,15,16,17] (v := ?_) (by simp; rfl) (by kernel_rfl) (by exact fun _ _ _ h => h) (Or.inl ⟨by rfl, ?_⟩) hH ?_; rotate_left; (intro _ hS; (try dsimp only at hS); go_simp; (try with_reducible rfl)); simp only [Act.put, e1_, e2_, e3_])
     refine wpAnyLast_done (by kernel_rfl) ?_ _
     clear hH z1 z2
     go_wp2
     go_ret
     exact ⟨rfl, below_step HB.out HB4.out⟩
    | false =>
     simp only [Bool.not_true, Bool.not_false] at HV
     refine wp_region_last_drew (S := fun w' => w'.cell? (ag.add v) = some (.int .i64 p) ∧ w'.cell? (af.add v) = some (.bool false)) (ds := []) (by kernel_rfl) ⟨z1, z2⟩ (fun hH => ?_)
     iterate 15 (refine tk_ [0,1,2,3,4,5,6,7,8,9,10,11,12,13,14,15,16,17] (v := ?_) (by simp; rfl) (by kernel_rfl) (by exact fun _ _ _ h => h) (Or.inl ⟨by rfl, ?_⟩) hH ?_; rotate_left; (intro _ hS; (try dsimp only at hS); go_simp; (try with_reducible rfl)); simp only [Act.put, e1_, e2_, e3_])
     refine os_ 15 (by simp; rfl) (by kernel_rfl) (fun K hK => ?_)
     refine goes_ Try.func29 (by kernel_rfl) rfl #[.slice (some af) F.length cF, .int .i64 p] (by rfl) rfl rfl (by (try simp only [List.map_toArray, List.map_cons, List.map_nil]); first | done | rfl) ?_
     refine (spiritlevelref04_Value.calls _ _ F p true _ (Kd.C_below LF.out HB3.out) MF.out HV.out).mono ?_
     rintro e w5 ⟨rfl, hd⟩
     refine ⟨_, rfl, ?_⟩
     have hb := hd.below
     have HB4 := M_ (below_step HB3.out hb)
     replace z1 := pw_cell_below hb z1
     replace z2 := pw_cell_below hb z2
     refine hK.out _ _ ⟨z1, z2⟩ (fun hH => ?_)
     clear hK K hd hb
     iterate 2 (refine tk_ [0,1,2,3,4,5,6,7,8,9,10,11,12,13,14,15,16,17] (v := ?_) (by simp; rfl) (by kernel_rfl) (by exact fun _ _ _ h => h) (Or.inl ⟨by rfl, ?_⟩) hH ?_; rotate_left; (intro _ hS; (try dsimp only at hS); go_simp; (try with_reducible rfl)); simp only [Act.put, e1_, e2_, e3_])
     refine wpAnyLast_done (by kernel_rfl) ?_ _
     clear hH z1 z2
     go_wp2
     go_ret
     exact ⟨rfl, below_step HB.out HB4.out⟩
 have HNE := M_ (show n = F.length by have := EE.out.2.2.2; omega)
 have hn := HNE.out
 go_cut [] (fun wx => Aside0 (Below wc.heap.size wc wx))
 case first =>
  go_wp2
  go_loopg [29] (F.length + 1) (fun kq v29 w' => ∃ v : Nat, v29 = .int .i64 (v : Int) ∧ Aside0 (v ≤ n ∧ kq + v = F.length + 1) ∧ Aside0 (Below wc.heap.size wc w'))
  case atStart => exact ⟨0, rfl, ⟨by omega, by omega⟩, ⟨Below.refl _ _⟩⟩
  case round =>
   obtain ⟨v, rfl, HI, HBI⟩ := hrel
   have small := EE.out.2.2.1
   have hw1 : wrap64 ((v : Int) + 1) = (v : Int) + 1 := by have := HI.out; have := EE.out.2.2; unfold wrap64; omega
   have hw2 : IntKind.i64.wrap ((v : Int) + 1) = (v : Int) + 1 := by have := HI.out; have := EE.out.2.2; rw [IntKind.wrap_i64]; omega
   clear small
   by_cases hvF : v < F.length
   ·have hvn : v < n := by omega
    by_cases hp : 0 ≤ rd gv (v : Int)
    ·have hv := HR.out.good v hvn hp
     as_aux_lemma =>
     have cF_ : v < F.length := by first | exact hvF | (have := HI.out; have := EE.out.2.2; omega)
     have cb : decide (v < F.length) = true := decide_eq_true cF_
     have cb2 : decide ((v : Int) < (F.length : Int)) = true := decide_eq_true (by omega)
     have r0 : (0 : Int) ≤ (v : Int) := by omega
     have r1 : (v : Int) < (F.length : Int) := by omega
     have r2 : (v : Int) < (gv.length : Int) := by have := EE.out.2.1; omega
     obtain ⟨ag, eg, x1_⟩ := Kd.at_int HX.out.hC5 (v : Int) r0 r2
     obtain ⟨af, ef, x2_⟩ := Kd.at_bool LF.out (v : Int) r0 r1
     rw [Int.toNat_natCast] at x1_ x2_
     subst eg ef
     have HV := M_ hv
     clear hv
     have c1_ : decide (rd gv (v : Int) ≥ 0) = true := decide_eq_true hp
     have c2_ : decide (0 ≤ rd gv (v : Int)) = true := decide_eq_true hp
     clear hp
     generalize rd gv (v : Int) = p at x1_ c1_ c2_ HV
     generalize rdOf false F (v : Int) = X at x2_ HV
     go_upto_region 21 with fail
     have HB3 := M_ (below_step HBI.out (below_drew (Below.refl _ _)))
     have z1 := pw_cell_below HB3.out x1_
     have z2 := pw_cell_below HB3.out x2_
     clear x1_ x2_
     cases X with
     | true =>
      refine wp_region_last_drew (S := fun w' => w'.cell? (ag.add v) = some (.int .i64 p) ∧ w'.cell? (af.add v) = some (.bool true)) (ds := []) (by kernel_rfl) ⟨z1, z2⟩ (fun hH => ?_)
      iterate 15 (refine tk_ [0,1,2,3,4,5,6,7,8,9,10,11,12,13,14,15,16,17] (v := ?_) (by simp; rfl) (by kernel_rfl) (by exact fun _ _ _ h => h) (Or.inl ⟨by rfl, ?_⟩) hH ?_; rotate_left; (intro _ hS; (try dsimp only at hS); go_simp; (try with_reducible rfl)); simp only [Act.put, e1_, e2_, e3_])
      refine os_ 15 (by simp; rfl) (by kernel_rfl) (fun K hK => ?_)
      refine goes_ Try.func29 (by kernel_rfl) rfl #[.slice (some af) F.length cF, .int .i64 p] (by rfl) rfl rfl (by (try simp only [List.map_toArray, List.map_cons, List.map_nil]); first | done | rfl) ?_
      refine (spiritlevelref04_Value.calls _ _ F p true _ (Kd.C_below LF.out HB3.out) MF.out HV.out).mono ?_
      rintro e w5 ⟨rfl, hd⟩
      refine ⟨_, rfl, ?_⟩
      have hb := hd.below
      have HB4 := M_ (below_step HB3.out hb)
      replace z1 := pw_cell_below hb z1
      replace z2 := pw_cell_below hb z2
      refine hK.out _ _ ⟨z1, z2⟩ (fun hH => ?_)
      clear hK K hd hb
      iterate 2 (refine tk_ [0,1,2,3,4,5,6,7,8,9,10,11,12,13,14,15,16,17] (v := ?_) (by simp; rfl) (by kernel_rfl) (by exact fun _ _ _ h => h) (Or.inl ⟨by rfl, ?_⟩) hH ?_; rotate_left; (intro _ hS; (try dsimp only at hS); go_simp; (try with_reducible rfl)); simp only [Act.put, e1_, e2_, e3_])
      refine wpAnyLast_done (by kernel_rfl) ?_ _
      clear hH z1 z2
      go_wp2
      go_roundg (gk - 1)
      case rel => exact ⟨v + 1, congrArg (Value.int .i64) (by first | exact hw1 | exact hw2 | omega), ⟨by first | exact hvn | (have := HI.out; omega), by have := HI.out; have := EE.out.2.2; omega⟩, HB4⟩
      case measure => have := HI.out; have := EE.out.2.2; omega
     | false =>
      refine wp_region_last_drew (S := fun w' => w'.cell? (ag.add v) = some (.int .i64 p) ∧ w'.cell? (af.add v) = some (.bool false)) (ds := []) (by kernel_rfl) ⟨z1, z2⟩ (fun hH => ?_)
      iterate 15 (refine tk_ [0,1,2,3,4,5,6,7,8,9,10,11,12,13,14,15,16,17] (v := ?_) (by simp; rfl) (by kernel_rfl) (by exact fun _ _ _ h => h) (Or.inl ⟨by rfl, ?_⟩) hH ?_; rotate_left; (intro _ hS; (try dsimp only at hS); go_simp; (try with_reducible rfl)); simp only [Act.put, e1_, e2_, e3_])
      refine os_ 15 (by simp; rfl) (by kernel_rfl) (fun K hK => ?_)
      refine goes_ Try.func29 (by kernel_rfl) rfl #[.slice (some af) F.length cF, .int .i64 p] (by rfl) rfl rfl (by (try simp only [List.map_toArray, List.map_cons, List.map_nil]); first | done | rfl) ?_
      refine (spiritlevelref04_Value.calls _ _ F p false _ (Kd.C_below LF.out HB3.out) MF.out HV.out).mono ?_
      rintro e w5 ⟨rfl, hd⟩
      refine ⟨_, rfl, ?_⟩
      have hb := hd.below
      have HB4 := M_ (below_step HB3.out hb)
      replace z1 := pw_cell_below hb z1
      replace z2 := pw_cell_below hb z2
      refine hK.out _ _ ⟨z1, z2⟩ (fun hH => ?_)
      clear hK K hd hb
      iterate 2 (refine tk_ [0,1,2,3,4,5,6,7,8,9,10,11,12,13,14,15,16,17] (v := ?_) (by simp; rfl) (by kernel_rfl) (by exact fun _ _ _ h => h) (Or.inl ⟨by rfl, ?_⟩) hH ?_; rotate_left; (intro _ hS; (try dsimp only at hS); go_simp; (try with_reducible rfl)); simp only [Act.put, e1_, e2_, e3_])
      refine wpAnyLast_done (by kernel_rfl) ?_ _
      clear hH z1 z2
      go_wp2
      go_roundg (gk - 1)
      case rel => exact ⟨v + 1, congrArg (Value.int .i64) (by first | exact hw1 | exact hw2 | omega), ⟨by first | exact hvn | (have := HI.out; omega), by have := HI.out; have := EE.out.2.2; omega⟩, HB4⟩
      case measure => have := HI.out; have := EE.out.2.2; omega
    ·have hv := True.intro
     as_aux_lemma =>
     have cF_ : v < F.length := by first | exact hvF | (have := HI.out; have := EE.out.2.2; omega)
     have cb : decide (v < F.length) = true := decide_eq_true cF_
     have cb2 : decide ((v : Int) < (F.length : Int)) = true := decide_eq_true (by omega)
     have r0 : (0 : Int) ≤ (v : Int) := by omega
     have r1 : (v : Int) < (F.length : Int) := by omega
     have r2 : (v : Int) < (gv.length : Int) := by have := EE.out.2.1; omega
     obtain ⟨ag, eg, x1_⟩ := Kd.at_int HX.out.hC5 (v : Int) r0 r2
     obtain ⟨af, ef, x2_⟩ := Kd.at_bool LF.out (v : Int) r0 r1
     rw [Int.toNat_natCast] at x1_ x2_
     subst eg ef
     have HV := M_ hv
     clear hv
     have c1_ : decide (rd gv (v : Int) ≥ 0) = false := decide_eq_false hp
     have c2_ : decide (0 ≤ rd gv (v : Int)) = false := decide_eq_false hp
     clear hp
     generalize rd gv (v : Int) = p at x1_ c1_ c2_ HV
     generalize rdOf false F (v : Int) = X at x2_ HV
     go_upto_region 21 with fail
     have HB3 := M_ (below_step HBI.out (below_drew (Below.refl _ _)))
     have z1 := pw_cell_below HB3.out x1_
     have z2 := pw_cell_below HB3.out x2_
     clear x1_ x2_
     refine wp_region_last_drew (S := fun w' => w'.cell? (ag.add v) = some (.int .i64 p) ∧ w'.cell? (af.add v) = some (.bool X)) (ds := []) (by kernel_rfl) ⟨z1, z2⟩ (fun hH => ?_)
     iterate 6 (refine tk_ [0,1,2,3,4,5,6,7,8,9,10,11,12,13,14,15,16,17] (v := ?_) (by simp; rfl) (by kernel_rfl) (by exact fun _ _ _ h => h) (Or.inl ⟨by rfl, ?_⟩) hH ?_; rotate_left; (intro _ hS; (try dsimp only at hS); go_simp; (try with_reducible rfl)); simp only [Act.put, e1_, e2_, e3_])
     iterate 11 (refine tk_ [0,1,2,3,4,5,6,7,8,9,10,11,12,13,14,15,16,17] (v := undef) (by simp; rfl) (by kernel_rfl) (by exact fun _ _ _ h => h) (Or.inr ⟨by rfl, rfl⟩) hH ?_; simp only [Act.put, e1_, e2_, e3_])
     iterate 1 (refine tk_ [0,1,2,3,4,5,6,7,8,9,10,11,12,13,14,15,16,17] (v := ?_) (by simp; rfl) (by kernel_rfl) (by exact fun _ _ _ h => h) (Or.inl ⟨by rfl, ?_⟩) hH ?_; rotate_left; (intro _ hS; (try dsimp only at hS); go_simp; (try with_reducible rfl)); simp only [Act.put, e1_, e2_, e3_])
     refine wpAnyLast_done (by kernel_rfl) ?_ _
     clear hH z1 z2
     go_wp2
     go_roundg (gk - 1)
     case rel => exact ⟨v + 1, congrArg (Value.int .i64) (by first | exact hw1 | exact hw2 | omega), ⟨by first | exact hvn | (have := HI.out; omega), by have := HI.out; have := EE.out.2.2; omega⟩, HB3⟩
     case measure => have := HI.out; have := EE.out.2.2; omega
   ·have cb : decide (v < F.length) = false := decide_eq_false hvF
    have cb2 : decide ((v : Int) < (F.length : Int)) = false := decide_eq_false (by omega)
    go_wp2_with fail
    go_meet
    exact HBI
 case rest =>
 have HBk := hcut
 clear hcut hn
 have N_ := M_ (HX.out.below HBk.out); clear HX; have HX := N_; clear N_
 have N_ := M_ (HN.out.below HBk.out); clear HN; have HN := N_; clear N_
 have N_ := M_ (Kd.C_below LF.out HBk.out); clear LF; have LF := N_; clear N_
 have N_ := M_ (Kd.C_below LG.out HBk.out); clear LG; have LG := N_; clear N_
 have N_ := M_ (below_step HB.out HBk.out); clear HB HBk; have HB := N_; clear N_
 go_upto_block 2 with fail
 go_cut [] (fun wx => Aside0 (Below wc.heap.size wc wx))
 case first =>
  go_wp2
  go_loopg [30] (F.length + 1) (fun kq v30 w' => ∃ v : Nat, v30 = .int .i64 (v : Int) ∧ Aside0 (v ≤ F.length ∧ kq + v = F.length + 1) ∧ Aside0 (Below wc.heap.size wc w'))
  case atStart => exact ⟨0, rfl, ⟨by omega, by omega⟩, ⟨Below.refl _ _⟩⟩
  case round =>
   obtain ⟨v, rfl, HI, HBI⟩ := hrel
   have hw1 : wrap64 ((v : Int) + 1) = (v : Int) + 1 := by have := HI.out; have := EE.out.2.2; unfold wrap64; omega
   have hw2 : IntKind.i64.wrap ((v : Int) + 1) = (v : Int) + 1 := by have := HI.out; have := EE.out.2.2; rw [IntKind.wrap_i64]; omega
   by_cases hvF : v < F.length
   ·as_aux_lemma =>
    have hv := HR.out.told HNE.out v hvF
    have cb : decide (v < F.length) = true := decide_eq_true hvF
    have cb2 : decide ((v : Int) < (F.length : Int)) = true := decide_eq_true (by omega)
    have r0 : (0 : Int) ≤ (v : Int) := by omega
    have r1 : (v : Int) < (F.length : Int) := by omega
    have r2 : (v : Int) < (T.length : Int) := by have := EE.out.1; omega
    obtain ⟨ag, eg, x1_⟩ := Kd.at_int HN.out.hX5 (v : Int) r0 r2
    obtain ⟨af, ef, x2_⟩ := Kd.at_bool LF.out (v : Int) r0 r1
    rw [Int.toNat_natCast] at x1_ x2_
    subst eg ef
    have HV := M_ hv
    clear hv
    generalize rd T (v : Int) = p at x1_ HV
    generalize rdOf false F (v : Int) = X at x2_ HV
    have z1 := pw_cell_below HBI.out x1_
    have z2 := pw_cell_below HBI.out x2_
    clear x1_ x2_
    have HC := M_ hvF
    clear hvF
    cases X with
    | true =>
     go_wp2_with (go_at_call 16; (with_reducible refine (values_Of.calls _ _ F2 p true 0 _ (Kd.C_below LG.out HBI.out) MG.out HV.out).mono ?_); rintro e w5 ⟨rfl, hd⟩; have hb := hd.below; have HB4 := M_ (below_step HBI.out hb); have z2 := pw_cell_below hb z2; clear hd hb)
     go_roundg (gk - 1)
     case rel => exact ⟨v + 1, congrArg (Value.int .i64) (by first | exact hw1 | exact hw2 | omega), ⟨by have := HC.out; omega, by have := HI.out; have := HC.out; omega⟩, HB4⟩
     case measure => have := HI.out; have := HC.out; omega
    | false =>
     go_wp2_with (go_at_call 16; (with_reducible refine (values_Of.calls _ _ F2 p false 0 _ (Kd.C_below LG.out HBI.out) MG.out HV.out).mono ?_); rintro e w5 ⟨rfl, hd⟩; have hb := hd.below; have HB4 := M_ (below_step HBI.out hb); have z2 := pw_cell_below hb z2; clear hd hb)
     go_roundg (gk - 1)
     case rel => exact ⟨v + 1, congrArg (Value.int .i64) (by first | exact hw1 | exact hw2 | omega), ⟨by have := HC.out; omega, by have := HI.out; have := HC.out; omega⟩, HB4⟩
     case measure => have := HI.out; have := HC.out; omega
   ·have cb : decide (v < F.length) = false := decide_eq_false hvF
    have cb2 : decide ((v : Int) < (F.length : Int)) = false := decide_eq_false (by omega)
    go_wp2_with fail
    go_meet
    exact HBI
 case rest =>
 have N_ := M_ (below_step HB.out hcut.out); clear HB hcut; have HB := N_; clear N_
 go_wp2_with fail
 go_ret
 exact ⟨rfl, HB.out⟩
end Go.Proofs.Ytnbccfecmpocaaa.QHashValuesW
