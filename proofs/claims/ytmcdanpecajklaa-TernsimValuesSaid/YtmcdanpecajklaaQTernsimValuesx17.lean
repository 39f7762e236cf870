-- The walk of TernsimValues: what the law function does, step by step, given what the functions that it calls return (wip/gen/tvals).
import Derived.Test.YtmcdanpecajklaaQTernsimValuesx0
import Derived.Test.YtmcdanpecajklaaQTernsimValuesx1
import Derived.Test.YtmcdanpecajklaaQTernsimValuesx2
import Derived.Test.YtmcdanpecajklaaQTernsimValuesx3
import Derived.Test.YtmcdanpecajklaaQTernsimValuesx4
import Derived.Test.YtmcdanpecajklaaQTernsimValuesx5
import Derived.Test.YtmcdanpecajklaaQTernsimValuesx6
import Derived.Test.YtmcdanpecajklaaQTernsimValuesx7
import Derived.Test.YtmcdanpecajklaaQTernsimValuesx8
import Derived.Test.YtmcdanpecajklaaQTernsimValuesx9
import Derived.Test.YtmcdanpecajklaaQTernsimValuesx10
import Derived.Test.YtmcdanpecajklaaQTernsimValuesx11
import Derived.Test.YtmcdanpecajklaaQTernsimValuesx12
import Derived.Test.YtmcdanpecajklaaQTernsimValuesx13
import Derived.Test.YtmcdanpecajklaaQTernsimValuesx14
import Derived.Test.YtmcdanpecajklaaQTernsimValuesx15
import Derived.Test.YtmcdanpecajklaaQTernsimValuesx16
import Derived.Deep.CutBlock
import Derived.Test.YtmcdanpecajklaaLay
import Derived.Deep.RegionLaw
namespace Go.Proofs.Ytmcdanpecajklaa.QTernsimValuesW
open Go.RowKit Go.Proofs.YtmcdanpecajklaaW.PrintWords Go.Proofs.YtmcdanpecajklaaW.PrintLast Go.Proofs.YtmcdanpecajklaaW.PrintMore Go.Proofs.Ytmcdanpecajklaa.QTernsimValues
attribute [local go_sem] max2_int min2_int max_two min_two max_three min_three max_four min_four
set_option linter.unusedVariables false
set_option linter.unusedSimpArgs false
theorem tk_ (L : List Nat) {P : Program} {ops : Array Oper} {Q : Exit → Act → World → Prop} {S : World → Prop} {ds : List Nat} {oi : Oper} {v : Value} {fuel : Nat} {l : Array Bool} {a : Act} {w : World} (hi : ops[L.getD (ops.size - (fuel + 1)) 0]? = some oi)
  (hc : (Region.noSelect ops && Region.free .any ops l (L.getD (ops.size - (fuel + 1)) 0) && (Region.ready .any ops l).contains (L.getD (ops.size - (fuel + 1)) 0) && Region.closedB .any ops l && Region.lastB .any ops l ds (L.getD (ops.size - (fuel + 1)) 0)) = true)
  (hQ : ∀ c a w, Q (.panic c) (a.put oi.dst v) w → Q (.panic c) a w) (hy : YieldsIf P ops S oi v a) (hS : S w)
  (h : wpAnyLast P .any ops Q S ds fuel (l.setIfInBounds (L.getD (ops.size - (fuel + 1)) 0) true) (a.put oi.dst v) w) : wpAnyLast P .any ops Q S ds (fuel + 1) l a w := by
 simp only [Bool.and_eq_true] at hc
 exact wpAnyLast_take hi hc.1.1.1.1 hc.1.1.1.2 hc.1.1.2 hc.1.2 hc.2 hQ hy hS h
theorem os_ (i : Nat) {P : Program} {ops : Array Oper} {Q : Exit → Act → World → Prop} {S : World → Prop} {ds : List Nat} {o : Oper} {fuel : Nat} {l : Array Bool} {a : Act} {w : World} (hi : ops[i]? = some o)
  (hc : ((Region.ready .any ops l == [i]) && !ds.contains i) = true)
  (h : ∀ K : Act → World → Prop, Shut (∀ a w, S w → (S w → wpAnyLast P .any ops Q S ds fuel (l.setIfInBounds i true) a w) → K a w) → if Region.wanted o (yielded ops a.tmps) = true then Oper.wp P o a w K Q else K (a.put o.dst undef) w) : wpAnyLast P .any ops Q S ds (fuel + 1) l a w := by
 simp at hc
 exact wpAnyLast_ready hc.1 (by simp) (AllReadyL.cons hi hc.2 h AllReadyL.nil)
theorem ol_ (i : Nat) {P : Program} {ops : Array Oper} {Q : Exit → Act → World → Prop} {S : World → Prop} {ds : List Nat} {o : Oper} {fuel : Nat} {l : Array Bool} {a : Act} {w : World} (hi : ops[i]? = some o)
  (hc : ((Region.ready .any ops l == [i]) && ds.contains i) = true)
  (h : ∀ K : Act → World → Prop, Shut (∀ a w, wpAnyLast P .any ops Q S ds fuel (l.setIfInBounds i true) a w → K a w) → if Region.wanted o (yielded ops a.tmps) = true then Oper.wp P o a w K Q else K (a.put o.dst undef) w) : wpAnyLast P .any ops Q S ds (fuel + 1) l a w := by
 simp at hc
 exact wpAnyLast_ready hc.1 (by simp) (AllReadyL.cons_last hi hc.2 h AllReadyL.nil)
structure RF (k : Nat) (ci : Int) (c1 : List S36) (c2 : List S69) (c3 : List Int) (c4 : List Int) (st inp : List Bool) (e : Int) (G : List Int) (F : List Bool) (xi xs xp xl : Int) (x1 : List S36) (x2 : List S69) (x3 : List Int) (x4 : List Int) (x7 : List Int) (x8 : List (List Int)) (x9 : List Int) (xA : List S69) (r : Bool) (Bv S : List Bool) : Prop where
 all : values_All.f ci c1 c2 c3 c4 st inp = some (F, 0)
 gl : e = 0 → G.length = st.length
 few : 0 ≤ ci ∧ ci ≤ 1000 ∧ G.length ≤ 1000
 len : e = 0 → ci + 1 + (G.length : Int) ≤ (F.length : Int)
 good : e = 0 → ∀ i : Nat, i < G.length → 0 ≤ rd G (i : Int) → wrap64 (Int.tdiv (rd G (i : Int)) 2) < ci + 1 + (i : Int) ∧ spiritlevelref04_Value.f F (rd G (i : Int)) = some (rdOf false F (ci + 1 + (i : Int)))
 pc : values_Props.f ci c1 c2 c3 c4 st inp = some (r, Bv, 0)
 px : values_Props.f xi x1 x2 x3 x4 st inp = some (r, Bv, 0)
 nc : values_Next.f ci c1 c2 c3 c4 st inp = some (S, 0)
 nx : values_Next.f xi x1 x2 x3 x4 st inp = some (S, 0)
 sB : spiritlevelref04_Same.f k Bv Bv = some true
 sS : spiritlevelref04_Same.f k S S = some true
structure HF (k : Nat) (ci : Int) (c1 : List S36) (c2 : List S69) (c3 : List Int) (c4 : List Int) (st inp : List Bool) (T : List (List Int)) (e : Int) (G : List Int) (cov : Bool) (F : List Bool) (xi xs xp xl : Int) (x1 : List S36) (x2 : List S69) (x3 : List Int) (x4 : List Int) (x7 : List Int) (x8 : List (List Int)) (x9 : List Int) (xA : List S69) (r : Bool) (Bv S : List Bool) : Prop where
 states : ternsim_States.f k ci c1 c2 c3 c4 = some (T, e)
 given : ternsim_Given.f k ci c1 c2 c3 c4 = some (G, e)
 pass : ternsim_Pass.f k ci c1 c2 c3 c4 = some (xi, x1, x2, x3, x4, xs, xp, x7, x8, x9, xA, xl, 0)
 cv : e = 0 → spiritlevellaw30_covered.f k T st = some cov
 rest : (e = 0 → cov = true) → RF k ci c1 c2 c3 c4 st inp e G F xi xs xp xl x1 x2 x3 x4 x7 x8 x9 xA r Bv S
set_option maxHeartbeats 40000000 in
set_option maxRecDepth 100000 in
theorem values_walk (k : Nat) (ci : Int) (Ac1 : Option Addr) (cc1 : Nat) (c1 : List S36) (Ac2 : Option Addr) (cc2 : Nat) (c2 : List S69) (Ac3 : Option Addr) (cc3 : Nat) (c3 : List Int) (Ac4 : Option Addr) (cc4 : Nat) (c4 : List Int) (As : Option Addr) (cs : Nat) (st : List Bool) (An : Option Addr) (cn : Nat) (inp : List Bool) (T : List (List Int)) (e : Int) (G : List Int) (cov : Bool) (F : List Bool) (xi xs xp xl : Int) (x1 : List S36) (x2 : List S69) (x3 : List Int) (x4 : List Int) (x7 : List Int) (x8 : List (List Int)) (x9 : List Int) (xA : List S69) (r : Bool) (Bv S : List Bool) (g : Bool) (q : Int) (w : World) (h1 : Kd.C k36 w Ac1 c1.length c1) (k1 : c1.length ≤ cc1) (h2 : Kd.C k69 w Ac2 c2.length c2) (k2 : c2.length ≤ cc2) (h3 : Kd.C (Kd.int .i64) w Ac3 c3.length c3) (k3 : c3.length ≤ cc3) (h4 : Kd.C (Kd.int .i64) w Ac4 c4.length c4) (k4 : c4.length ≤ cc4) (h5 : Kd.C Kd.bool w As st.length st) (k5 : st.length ≤ cs) (h6 : Kd.C Kd.bool w An inp.length inp) (k6 : inp.length ≤ cn)
  (hal : spiritlevellaw30_alive.f 4000 = some true) (hgr : spiritlevelref02_Great.f ci c1 c2 c3 c4 = some g) (has : g = false → spiritlevelref04_Asked.f k ci c1 c2 c3 c4 st inp = some q) (hf : g = false → q = 0 → HF k ci c1 c2 c3 c4 st inp T e G cov F xi xs xp xl x1 x2 x3 x4 x7 x8 x9 xA r Bv S) :
  Calls Try.prog 8 #[.agg #[.int .i64 ci, .slice Ac1 c1.length cc1, .slice Ac2 c2.length cc2, .slice Ac3 c3.length cc3, .slice Ac4 c4.length cc4], .slice As st.length cs, .slice An inp.length cn] w fun e w' => e = .returned (.bool true) ∧ Below w.heap.size w w' := by
 have hu26 := Try.underlying26
 have hu48 := Try.underlying48
 have AL := M_ hal
 have GR := M_ hgr
 have AS := M_ has
 have HF0 := M_ hf
 have Cc1 := M_ h1
 have lc1 := M_ k1
 have Cc2 := M_ h2
 have lc2 := M_ k2
 have Cc3 := M_ h3
 have lc3 := M_ k3
 have Cc4 := M_ h4
 have lc4 := M_ k4
 have Cs := M_ h5
 have ls := M_ k5
 have Cn := M_ h6
 have ln := M_ k6
 clear hal hgr has hf h1 k1 h2 k2 h3 k3 h4 k4 h5 k5 h6 k6
 have HB := M_ (Below.refl w.heap.size w)
 go_enter Try.func8, Try.ntmps8
 go_upto_region 1 with fail
 obtain ⟨w1, hwc⟩ : ∃ x, x = w.alloc (.cells #[.int .i64 ci, .slice Ac1 c1.length cc1, .slice Ac2 c2.length cc2, .slice Ac3 c3.length cc3, .slice Ac4 c4.length cc4] 26) := ⟨_, rfl⟩
 have K1 : Aside0 (w1.heap[w.heap.size]? = some (.cells #[.int .i64 ci, .slice Ac1 c1.length cc1, .slice Ac2 c2.length cc2, .slice Ac3 c3.length cc3, .slice Ac4 c4.length cc4] 26 (0, 0))) := ⟨by rw [hwc]; exact heap_alloc_new w _⟩
 have hb : Below w.heap.size w w1 := by rw [hwc]; exact below_alloc (Below.refl _ _) _
 replace HB := M_ (below_step HB.out hb); replace Cc1 := M_ (Kd.C_below Cc1.out hb); replace Cc2 := M_ (Kd.C_below Cc2.out hb); replace Cc3 := M_ (Kd.C_below Cc3.out hb); replace Cc4 := M_ (Kd.C_below Cc4.out hb); replace Cs := M_ (Kd.C_below Cs.out hb); replace Cn := M_ (Kd.C_below Cn.out hb)
 clear hb
 rw [← hwc]
 clear hwc
 generalize w.heap.size = g1 at K1 ⊢
 go_upto_region 2 with ((with_reducible refine gate_callee (f := 9) rfl ?_); refine goesL_ (some 28) rfl rfl Try.func9 (by kernel_rfl) rfl #[] rfl (by (try simp only [List.map_toArray, List.map_cons, List.map_nil]); first | done | rfl) ?_; (with_reducible refine (spiritlevellaw30_alive.calls 4000 true _ AL.out).mono ?_); rintro e w2 ⟨rfl, hb⟩; refine ⟨_, rfl, ?_⟩; replace HB := M_ (below_step HB.out hb); replace Cc1 := M_ (Kd.C_below Cc1.out hb); replace Cc2 := M_ (Kd.C_below Cc2.out hb); replace Cc3 := M_ (Kd.C_below Cc3.out hb); replace Cc4 := M_ (Kd.C_below Cc4.out hb); replace Cs := M_ (Kd.C_below Cs.out hb); replace Cn := M_ (Kd.C_below Cn.out hb); replace K1 := M_ (blk_below K1.out hb); clear hb)
 obtain ⟨y0, y1, y2, y3, y4⟩ := cz5_ K1.out
 cases g with
 | true =>
  go_wp2_with (go_at_call 10; (with_reducible refine (spiritlevelref02_Great.calls ci Ac1 cc1 c1 Ac2 cc2 c2 Ac3 cc3 c3 Ac4 cc4 c4 true _ Cc1.out lc1.out Cc2.out lc2.out Cc3.out lc3.out Cc4.out lc4.out GR.out).mono ?_); rintro e w5 ⟨rfl, hb⟩; replace HB := M_ (below_step HB.out hb); replace Cc1 := M_ (Kd.C_below Cc1.out hb); replace Cc2 := M_ (Kd.C_below Cc2.out hb); replace Cc3 := M_ (Kd.C_below Cc3.out hb); replace Cc4 := M_ (Kd.C_below Cc4.out hb); replace Cs := M_ (Kd.C_below Cs.out hb); replace Cn := M_ (Kd.C_below Cn.out hb); replace K1 := M_ (blk_below K1.out hb); clear hb y0 y1 y2 y3 y4; obtain ⟨y0, y1, y2, y3, y4⟩ := cz5_ K1.out)
  go_ret
  exact ⟨rfl, HB.out⟩
 | false =>
 have AS2 := M_ (AS.out rfl)
 clear AS
 by_cases hc : q = 0
 case neg =>
  have b1 : (q != 0) = true := bne_iff_ne.mpr hc
  have b2 : (q == 0) = false := beq_eq_false_iff_ne.mpr hc
  have b3 : decide (q = 0) = false := decide_eq_false hc
  go_wp2_with (first
   | (go_at_call 10; (with_reducible refine (spiritlevelref02_Great.calls ci Ac1 cc1 c1 Ac2 cc2 c2 Ac3 cc3 c3 Ac4 cc4 c4 false _ Cc1.out lc1.out Cc2.out lc2.out Cc3.out lc3.out Cc4.out lc4.out GR.out).mono ?_); rintro e w5 ⟨rfl, hb⟩; replace HB := M_ (below_step HB.out hb); replace Cc1 := M_ (Kd.C_below Cc1.out hb); replace Cc2 := M_ (Kd.C_below Cc2.out hb); replace Cc3 := M_ (Kd.C_below Cc3.out hb); replace Cc4 := M_ (Kd.C_below Cc4.out hb); replace Cs := M_ (Kd.C_below Cs.out hb); replace Cn := M_ (Kd.C_below Cn.out hb); replace K1 := M_ (blk_below K1.out hb); clear hb y0 y1 y2 y3 y4; obtain ⟨y0, y1, y2, y3, y4⟩ := cz5_ K1.out)
   | (go_at_call 11; (with_reducible refine (spiritlevelref04_Asked.calls k ci Ac1 cc1 c1 Ac2 cc2 c2 Ac3 cc3 c3 Ac4 cc4 c4 As cs st An cn inp q _ Cc1.out lc1.out Cc2.out lc2.out Cc3.out lc3.out Cc4.out lc4.out Cs.out ls.out Cn.out ln.out AS2.out).mono ?_); rintro e w5 ⟨rfl, hb⟩; replace HB := M_ (below_step HB.out hb); replace Cc1 := M_ (Kd.C_below Cc1.out hb); replace Cc2 := M_ (Kd.C_below Cc2.out hb); replace Cc3 := M_ (Kd.C_below Cc3.out hb); replace Cc4 := M_ (Kd.C_below Cc4.out hb); replace Cs := M_ (Kd.C_below Cs.out hb); replace Cn := M_ (Kd.C_below Cn.out hb); replace K1 := M_ (blk_below K1.out hb); clear hb y0 y1 y2 y3 y4; obtain ⟨y0, y1, y2, y3, y4⟩ := cz5_ K1.out))
  go_ret
  exact ⟨rfl, HB.out⟩
 have HF := M_ (HF0.out rfl hc)
 clear HF0
 subst hc
 go_upto_region 4 with (first
  | (go_at_call 10; (with_reducible refine (spiritlevelref02_Great.calls ci Ac1 cc1 c1 Ac2 cc2 c2 Ac3 cc3 c3 Ac4 cc4 c4 false _ Cc1.out lc1.out Cc2.out lc2.out Cc3.out lc3.out Cc4.out lc4.out GR.out).mono ?_); rintro e w5 ⟨rfl, hb⟩; replace HB := M_ (below_step HB.out hb); replace Cc1 := M_ (Kd.C_below Cc1.out hb); replace Cc2 := M_ (Kd.C_below Cc2.out hb); replace Cc3 := M_ (Kd.C_below Cc3.out hb); replace Cc4 := M_ (Kd.C_below Cc4.out hb); replace Cs := M_ (Kd.C_below Cs.out hb); replace Cn := M_ (Kd.C_below Cn.out hb); replace K1 := M_ (blk_below K1.out hb); clear hb y0 y1 y2 y3 y4; obtain ⟨y0, y1, y2, y3, y4⟩ := cz5_ K1.out)
  | (go_at_call 11; (with_reducible refine (spiritlevelref04_Asked.calls k ci Ac1 cc1 c1 Ac2 cc2 c2 Ac3 cc3 c3 Ac4 cc4 c4 As cs st An cn inp 0 _ Cc1.out lc1.out Cc2.out lc2.out Cc3.out lc3.out Cc4.out lc4.out Cs.out ls.out Cn.out ln.out AS2.out).mono ?_); rintro e w5 ⟨rfl, hb⟩; replace HB := M_ (below_step HB.out hb); replace Cc1 := M_ (Kd.C_below Cc1.out hb); replace Cc2 := M_ (Kd.C_below Cc2.out hb); replace Cc3 := M_ (Kd.C_below Cc3.out hb); replace Cc4 := M_ (Kd.C_below Cc4.out hb); replace Cs := M_ (Kd.C_below Cs.out hb); replace Cn := M_ (Kd.C_below Cn.out hb); replace K1 := M_ (blk_below K1.out hb); clear hb y0 y1 y2 y3 y4; obtain ⟨y0, y1, y2, y3, y4⟩ := cz5_ K1.out))
 clear y0 y1 y2 y3 y4
 obtain ⟨y0, y1, y2, y3, y4⟩ := cz5_ K1.out
 go_upto_region 5 with ((with_reducible refine gate_callee (f := 12) rfl ?_); refine goesL_ (some 45) rfl rfl Try.func12 (by kernel_rfl) rfl #[.agg #[.int .i64 ci, .slice Ac1 c1.length cc1, .slice Ac2 c2.length cc2, .slice Ac3 c3.length cc3, .slice Ac4 c4.length cc4]] rfl (by (try simp only [List.map_toArray, List.map_cons, List.map_nil]); first | done | rfl) ?_; (with_reducible refine (ternsim_States.calls k ci Ac1 cc1 c1 Ac2 cc2 c2 Ac3 cc3 c3 Ac4 cc4 c4 T e _ Cc1.out lc1.out Cc2.out lc2.out Cc3.out lc3.out Cc4.out lc4.out HF.out.states).mono ?_); rintro e w6 ⟨v, rfl, o0, hb⟩; refine ⟨_, rfl, ?_⟩; replace HB := M_ (below_step HB.out hb); replace Cc1 := M_ (Kd.C_below Cc1.out hb); replace Cc2 := M_ (Kd.C_below Cc2.out hb); replace Cc3 := M_ (Kd.C_below Cc3.out hb); replace Cc4 := M_ (Kd.C_below Cc4.out hb); replace Cs := M_ (Kd.C_below Cs.out hb); replace Cn := M_ (Kd.C_below Cn.out hb); replace K1 := M_ (blk_below K1.out hb); obtain ⟨AT, cT, rfl⟩ := Kd.N_slice o0; have CT := M_ (Kd.N_reads' o0).2.2; have lT := M_ (Kd.N_reads' o0).2.1; clear hb o0)
 clear y0 y1 y2 y3 y4
 obtain ⟨y0, y1, y2, y3, y4⟩ := cz5_ K1.out
 go_upto_region 6 with ((with_reducible refine gate_callee (f := 15) rfl ?_); refine goesL_ (some 50) rfl rfl Try.func15 (by kernel_rfl) rfl #[.agg #[.int .i64 ci, .slice Ac1 c1.length cc1, .slice Ac2 c2.length cc2, .slice Ac3 c3.length cc3, .slice Ac4 c4.length cc4]] rfl (by (try simp only [List.map_toArray, List.map_cons, List.map_nil]); first | done | rfl) ?_; (with_reducible refine (ternsim_Given.calls k ci Ac1 cc1 c1 Ac2 cc2 c2 Ac3 cc3 c3 Ac4 cc4 c4 G e _ Cc1.out lc1.out Cc2.out lc2.out Cc3.out lc3.out Cc4.out lc4.out HF.out.given).mono ?_); rintro e w7 ⟨v, rfl, o0, hb⟩; refine ⟨_, rfl, ?_⟩; replace HB := M_ (below_step HB.out hb); replace Cc1 := M_ (Kd.C_below Cc1.out hb); replace Cc2 := M_ (Kd.C_below Cc2.out hb); replace Cc3 := M_ (Kd.C_below Cc3.out hb); replace Cc4 := M_ (Kd.C_below Cc4.out hb); replace Cs := M_ (Kd.C_below Cs.out hb); replace Cn := M_ (Kd.C_below Cn.out hb); replace K1 := M_ (blk_below K1.out hb); replace CT := M_ (Kd.C_below CT.out hb); obtain ⟨AG, cG, rfl⟩ := Kd.R_slice o0; have CG := M_ (Kd.R_reads' o0).2.2; have lG := M_ (Kd.R_reads' o0).2.1; clear hb o0)
 clear y0 y1 y2 y3 y4
 obtain ⟨y0, y1, y2, y3, y4⟩ := cz5_ K1.out
 go_upto_region 7 with ((with_reducible refine gate_callee (f := 16) rfl ?_); refine goesL_ (some 55) rfl rfl Try.func16 (by kernel_rfl) rfl #[.agg #[.int .i64 ci, .slice Ac1 c1.length cc1, .slice Ac2 c2.length cc2, .slice Ac3 c3.length cc3, .slice Ac4 c4.length cc4]] rfl (by (try simp only [List.map_toArray, List.map_cons, List.map_nil]); first | done | rfl) ?_; (with_reducible refine (ternsim_Pass.calls k ci Ac1 cc1 c1 Ac2 cc2 c2 Ac3 cc3 c3 Ac4 cc4 c4 xi x1 x2 x3 x4 xs xp x7 x8 x9 xA xl 0 _ Cc1.out lc1.out Cc2.out lc2.out Cc3.out lc3.out Cc4.out lc4.out HF.out.pass).mono ?_); rintro e w8 ⟨v1, v2, v3, v4, v7, v8, v9, v10, rfl, o1, o2, o3, o4, o7, o8, o9, oA, hb⟩; refine ⟨_, rfl, ?_⟩; replace HB := M_ (below_step HB.out hb); replace Cc1 := M_ (Kd.C_below Cc1.out hb); replace Cc2 := M_ (Kd.C_below Cc2.out hb); replace Cc3 := M_ (Kd.C_below Cc3.out hb); replace Cc4 := M_ (Kd.C_below Cc4.out hb); replace Cs := M_ (Kd.C_below Cs.out hb); replace Cn := M_ (Kd.C_below Cn.out hb); replace K1 := M_ (blk_below K1.out hb); replace CT := M_ (Kd.C_below CT.out hb); replace CG := M_ (Kd.C_below CG.out hb); clear hb; obtain ⟨Ax1, cx1, rfl⟩ := Kd.R_slice o1; have Cx1 := M_ (Kd.R_reads' o1).2.2; have lx1 := M_ (Kd.R_reads' o1).2.1; obtain ⟨Ax2, cx2, rfl⟩ := Kd.R_slice o2; have Cx2 := M_ (Kd.R_reads' o2).2.2; have lx2 := M_ (Kd.R_reads' o2).2.1; obtain ⟨Ax3, cx3, rfl⟩ := Kd.R_slice o3; have Cx3 := M_ (Kd.R_reads' o3).2.2; have lx3 := M_ (Kd.R_reads' o3).2.1; obtain ⟨Ax4, cx4, rfl⟩ := Kd.R_slice o4; have Cx4 := M_ (Kd.R_reads' o4).2.2; have lx4 := M_ (Kd.R_reads' o4).2.1; obtain ⟨Ax7, cx7, rfl⟩ := Kd.R_slice o7; obtain ⟨Ax8, cx8, rfl⟩ := Kd.S_slice o8; obtain ⟨Ax9, cx9, rfl⟩ := Kd.R_slice o9; obtain ⟨AxA, cxA, rfl⟩ := Kd.R_slice oA; clear o1 o2 o3 o4 o7 o8 o9 oA)
 clear y0 y1 y2 y3 y4
 obtain ⟨w9, hwc⟩ : ∃ x, x = w8.alloc (.cells #[.int .i64 xi, .slice Ax1 x1.length cx1, .slice Ax2 x2.length cx2, .slice Ax3 x3.length cx3, .slice Ax4 x4.length cx4, .int .i64 xs, .int .i64 xp, .slice Ax7 x7.length cx7, .slice Ax8 x8.length cx8, .slice Ax9 x9.length cx9, .slice AxA xA.length cxA, .int .i64 xl] 48) := ⟨_, rfl⟩
 have K8 : Aside0 (w9.heap[w8.heap.size]? = some (.cells #[.int .i64 xi, .slice Ax1 x1.length cx1, .slice Ax2 x2.length cx2, .slice Ax3 x3.length cx3, .slice Ax4 x4.length cx4, .int .i64 xs, .int .i64 xp, .slice Ax7 x7.length cx7, .slice Ax8 x8.length cx8, .slice Ax9 x9.length cx9, .slice AxA xA.length cxA, .int .i64 xl] 48 (0, 0))) := ⟨by rw [hwc]; exact heap_alloc_new w8 _⟩
 have hb : Below w8.heap.size w8 w9 := by rw [hwc]; exact below_alloc (Below.refl _ _) _
 replace HB := M_ (below_step HB.out hb); replace Cc1 := M_ (Kd.C_below Cc1.out hb); replace Cc2 := M_ (Kd.C_below Cc2.out hb); replace Cc3 := M_ (Kd.C_below Cc3.out hb); replace Cc4 := M_ (Kd.C_below Cc4.out hb); replace Cs := M_ (Kd.C_below Cs.out hb); replace Cn := M_ (Kd.C_below Cn.out hb); replace K1 := M_ (blk_below K1.out hb); replace CT := M_ (Kd.C_below CT.out hb); replace CG := M_ (Kd.C_below CG.out hb); replace Cx1 := M_ (Kd.C_below Cx1.out hb); replace Cx2 := M_ (Kd.C_below Cx2.out hb); replace Cx3 := M_ (Kd.C_below Cx3.out hb); replace Cx4 := M_ (Kd.C_below Cx4.out hb)
 clear hb
 rw [← hwc]
 clear hwc
 generalize w8.heap.size = g8 at K8 ⊢
 have be : (e != e) = false := by simp
 have be2 : (e == e) = true := by simp
 go_upto_region 9 with fail
 clear be be2
 by_cases he : e = 0
 ·as_aux_lemma =>
  subst he
  have CV := M_ (HF.out.cv rfl)
  cases cov with
  | false =>
   go_wp2_with (go_at_call 14; (with_reducible refine (spiritlevellaw30_covered.calls k AT cT T As cs st false _ CT.out lT.out Cs.out ls.out CV.out).mono ?_); rintro e w5 ⟨rfl, hb⟩; replace HB := M_ (below_step HB.out hb); clear hb)
   go_ret
   exact ⟨rfl, HB.out⟩
  | true =>
  have HR := M_ (HF.out.rest fun _ => rfl)
  clear HF
  go_upto_region 11 with (go_at_call 14; (with_reducible refine (spiritlevellaw30_covered.calls k AT cT T As cs st true _ CT.out lT.out Cs.out ls.out CV.out).mono ?_); rintro e w5 ⟨rfl, hb⟩; replace HB := M_ (below_step HB.out hb); replace Cc1 := M_ (Kd.C_below Cc1.out hb); replace Cc2 := M_ (Kd.C_below Cc2.out hb); replace Cc3 := M_ (Kd.C_below Cc3.out hb); replace Cc4 := M_ (Kd.C_below Cc4.out hb); replace Cs := M_ (Kd.C_below Cs.out hb); replace Cn := M_ (Kd.C_below Cn.out hb); replace K1 := M_ (blk_below K1.out hb); replace CT := M_ (Kd.C_below CT.out hb); replace CG := M_ (Kd.C_below CG.out hb); replace Cx1 := M_ (Kd.C_below Cx1.out hb); replace Cx2 := M_ (Kd.C_below Cx2.out hb); replace Cx3 := M_ (Kd.C_below Cx3.out hb); replace Cx4 := M_ (Kd.C_below Cx4.out hb); replace K8 := M_ (blk_below K8.out hb); clear hb)
  clear CT lT CV
  have hgl := HR.out.gl rfl
  have bl : ((G.length : Int) != (st.length : Int)) = false := by rw [hgl]; simp
  have bl2 : ((G.length : Int) == (st.length : Int)) = true := by rw [hgl]; simp
  clear hgl
  obtain ⟨y0, y1, y2, y3, y4⟩ := cz5_ K1.out
  go_upto_region 12 with ((with_reducible refine gate_callee (f := 35) rfl ?_); refine goesL_ (some 78) rfl rfl Try.func35 (by kernel_rfl) rfl #[.agg #[.int .i64 ci, .slice Ac1 c1.length cc1, .slice Ac2 c2.length cc2, .slice Ac3 c3.length cc3, .slice Ac4 c4.length cc4], .slice As st.length cs, .slice An inp.length cn] rfl (by (try simp only [List.map_toArray, List.map_cons, List.map_nil]); first | done | rfl) ?_; (with_reducible refine (values_All.calls ci Ac1 cc1 c1 Ac2 cc2 c2 Ac3 cc3 c3 Ac4 cc4 c4 As cs st An cn inp F 0 _ Cc1.out lc1.out Cc2.out lc2.out Cc3.out lc3.out Cc4.out lc4.out Cs.out ls.out Cn.out ln.out HR.out.all).mono ?_); rintro e w10 ⟨v, rfl, o0, hb⟩; refine ⟨_, rfl, ?_⟩; replace HB := M_ (below_step HB.out hb); replace Cc1 := M_ (Kd.C_below Cc1.out hb); replace Cc2 := M_ (Kd.C_below Cc2.out hb); replace Cc3 := M_ (Kd.C_below Cc3.out hb); replace Cc4 := M_ (Kd.C_below Cc4.out hb); replace Cs := M_ (Kd.C_below Cs.out hb); replace Cn := M_ (Kd.C_below Cn.out hb); replace K1 := M_ (blk_below K1.out hb); replace CG := M_ (Kd.C_below CG.out hb); replace Cx1 := M_ (Kd.C_below Cx1.out hb); replace Cx2 := M_ (Kd.C_below Cx2.out hb); replace Cx3 := M_ (Kd.C_below Cx3.out hb); replace Cx4 := M_ (Kd.C_below Cx4.out hb); replace K8 := M_ (blk_below K8.out hb); obtain ⟨AF, cF, rfl⟩ := Kd.R_slice o0; have CF := M_ (Kd.R_reads' o0).2.2; have lF := M_ (Kd.R_reads' o0).2.1; clear hb o0)
  clear y0 y1 y2 y3 y4
  go_upto_block 0 with fail
  clear bl bl2
  go_cut [] (fun wx => Aside0 (Below w10.heap.size w10 wx))
  case first =>
   go_wp2
   go_loopg [16, 17] (G.length + 1) (fun kq v16 v17 w' => ∃ i : Nat, v16 = .int .i64 (i : Int) ∧ Aside0 (i ≤ G.length ∧ kq + i = G.length + 1) ∧ Aside0 (Below w10.heap.size w10 w'))
   case atStart => exact ⟨0, rfl, ⟨by omega, by omega⟩, ⟨Below.refl _ _⟩⟩
   case round =>
    obtain ⟨i, rfl, HI, HBI⟩ := hrel
    by_cases c : i < G.length
    ·have cb : decide (i < G.length) = true := decide_eq_true c
     have HC := M_ c
     have hfew := HR.out.few
     have hlen := HR.out.len rfl
     obtain ⟨z, hz⟩ : ∃ z : Int, z = ci + 1 + (i : Int) := ⟨_, rfl⟩
     have u1 : wrap64 (ci + 1) = ci + 1 := by unfold wrap64; omega
     have u2 : wrap64 (ci + 1 + (i : Int)) = z := by unfold wrap64; omega
     have EW := M_ (show wrap64 ((i : Int) + 1) = ((i + 1 : Nat) : Int) by unfold wrap64; omega)
     obtain ⟨ag, eg, x1_⟩ := Kd.at_int (Kd.C_below CG.out HBI.out) (i : Int) (by omega) (by omega)
     obtain ⟨af, ef, x2_⟩ := Kd.at_bool (Kd.C_below CF.out HBI.out) z (by omega) (by omega)
     rw [Int.toNat_natCast] at x1_
     have p0 : (0 : Int) ≤ (i : Int) := by omega
     have p1 : (i : Int) < (G.length : Int) := by omega
     have r0 : (0 : Int) ≤ z := by omega
     have r1_ : z < (F.length : Int) := by omega
     subst eg ef
     have HV := M_ (HR.out.good rfl i c)
     rw [← hz] at HV
     have hk1 := (blk_cell (blk_below K1.out HBI.out) 0).trans (show _ = some (.int .i64 ci) from rfl)
     clear hfew hlen hz
     generalize rd G (i : Int) = p at x1_ HV
     generalize rdOf false F z = X at x2_ HV
     go_upto_region 18 with fail
     rw [u2]
     have HB3 := M_ (below_step HBI.out (below_drew (Below.refl _ _)))
     have z1 := pw_cell_below (below_drew (Below.refl _ _)) x1_
     have z2 := pw_cell_below (below_drew (Below.refl _ _)) x2_
     clear x1_ x2_ hk1 u1 u2
     by_cases hp : 0 ≤ p
     ·obtain ⟨hq, hv⟩ := HV.out hp
      have HV2 := M_ hv
      have c1_ : decide (p ≥ 0) = true := decide_eq_true hp
      have c2_ : decide (0 ≤ p) = true := decide_eq_true hp
      have c3_ : decide (wrap64 (Int.tdiv p 2) ≥ z) = false := decide_eq_false (by omega)
      have c4_ : decide (z ≤ wrap64 (Int.tdiv p 2)) = false := decide_eq_false (by omega)
      have c5_ : decide (z ≤ IntKind.i64.wrap (Int.tdiv p 2)) = false := decide_eq_false (by have h := hq; unfold wrap64 at h; rw [IntKind.wrap_i64]; omega)
      clear hp hq hv HV
      cases X with
      | true =>
       refine wp_region_last_drew (S := fun w' => w'.cell? (ag.add i) = some (.int .i64 p) ∧ w'.cell? (af.add z.toNat) = some (.bool true)) (ds := []) (by kernel_rfl) ⟨z1, z2⟩ (fun hH => ?_)
       iterate 23 (refine tk_ [0,1,2,3,4,5,6,7,8,9,10,11,12,13,14,15,16,17,18,20,21,22,23,19,24,25,26] (v := ?_) (by simp; rfl) (by kernel_rfl) (by exact fun _ _ _ h => h) (Or.inl ⟨by rfl, ?_⟩) hH ?_; rotate_left; (intro _ hS; (try dsimp only at hS); go_simp; (try with_reducible rfl)); simp only [Act.put, e1_, e2_, e3_])
       refine os_ 19 (by simp; rfl) (by kernel_rfl) (fun K hK => ?_)
       refine goes_ Try.func36 (by kernel_rfl) rfl #[.slice (some af) F.length cF, .int .i64 p] (by rfl) rfl rfl (by (try simp only [List.map_toArray, List.map_cons, List.map_nil]); first | done | rfl) ?_
       refine (spiritlevelref04_Value.calls _ _ F p true _ (Kd.C_below CF.out HB3.out) lF.out HV2.out).mono ?_
       rintro e wq ⟨rfl, hd⟩
       refine ⟨_, rfl, ?_⟩
       have hb := hd.below
       have HB4 := M_ (below_step HB3.out hb)
       replace z1 := pw_cell_below hb z1
       replace z2 := pw_cell_below hb z2
       refine hK.out _ _ ⟨z1, z2⟩ (fun hH => ?_)
       clear hK K hd hb
       iterate 3 (refine tk_ [0,1,2,3,4,5,6,7,8,9,10,11,12,13,14,15,16,17,18,20,21,22,23,19,24,25,26] (v := ?_) (by simp; rfl) (by kernel_rfl) (by exact fun _ _ _ h => h) (Or.inl ⟨by rfl, ?_⟩) hH ?_; rotate_left; (intro _ hS; (try dsimp only at hS); go_simp; (try with_reducible rfl)); simp only [Act.put, e1_, e2_, e3_])
       refine wpAnyLast_done (by kernel_rfl) ?_ _
       clear hH z1 z2
       go_wp2
       go_roundg (gk - 1)
       case rel => exact ⟨i + 1, congrArg (Value.int .i64) EW.out, ⟨by have := HC.out; omega, by have := HI.out; have := HC.out; omega⟩, HB4⟩
       case measure => have := HI.out; have := HC.out; omega
      | false =>
       refine wp_region_last_drew (S := fun w' => w'.cell? (ag.add i) = some (.int .i64 p) ∧ w'.cell? (af.add z.toNat) = some (.bool false)) (ds := []) (by kernel_rfl) ⟨z1, z2⟩ (fun hH => ?_)
       iterate 23 (refine tk_ [0,1,2,3,4,5,6,7,8,9,10,11,12,13,14,15,16,17,18,20,21,22,23,19,24,25,26] (v := ?_) (by simp; rfl) (by kernel_rfl) (by exact fun _ _ _ h => h) (Or.inl ⟨by rfl, ?_⟩) hH ?_; rotate_left; (intro _ hS; (try dsimp only at hS); go_simp; (try with_reducible rfl)); simp only [Act.put, e1_, e2_, e3_])
       refine os_ 19 (by simp; rfl) (by kernel_rfl) (fun K hK => ?_)
       refine goes_ Try.func36 (by kernel_rfl) rfl #[.slice (some af) F.length cF, .int .i64 p] (by rfl) rfl rfl (by (try simp only [List.map_toArray, List.map_cons, List.map_nil]); first | done | rfl) ?_
       refine (spiritlevelref04_Value.calls _ _ F p false _ (Kd.C_below CF.out HB3.out) lF.out HV2.out).mono ?_
       rintro e wq ⟨rfl, hd⟩
       refine ⟨_, rfl, ?_⟩
       have hb := hd.below
       have HB4 := M_ (below_step HB3.out hb)
       replace z1 := pw_cell_below hb z1
       replace z2 := pw_cell_below hb z2
       refine hK.out _ _ ⟨z1, z2⟩ (fun hH => ?_)
       clear hK K hd hb
       iterate 3 (refine tk_ [0,1,2,3,4,5,6,7,8,9,10,11,12,13,14,15,16,17,18,20,21,22,23,19,24,25,26] (v := ?_) (by simp; rfl) (by kernel_rfl) (by exact fun _ _ _ h => h) (Or.inl ⟨by rfl, ?_⟩) hH ?_; rotate_left; (intro _ hS; (try dsimp only at hS); go_simp; (try with_reducible rfl)); simp only [Act.put, e1_, e2_, e3_])
       refine wpAnyLast_done (by kernel_rfl) ?_ _
       clear hH z1 z2
       go_wp2
       go_roundg (gk - 1)
       case rel => exact ⟨i + 1, congrArg (Value.int .i64) EW.out, ⟨by have := HC.out; omega, by have := HI.out; have := HC.out; omega⟩, HB4⟩
       case measure => have := HI.out; have := HC.out; omega
     ·have c1_ : decide (p ≥ 0) = false := decide_eq_false hp
      have c2_ : decide (0 ≤ p) = false := decide_eq_false hp
      clear hp HV
      refine wp_region_last_drew (S := fun w' => w'.cell? (ag.add i) = some (.int .i64 p) ∧ w'.cell? (af.add z.toNat) = some (.bool X)) (ds := []) (by kernel_rfl) ⟨z1, z2⟩ (fun hH => ?_)
      iterate 6 (refine tk_ [0,1,2,3,4,5,6,7,8,9,10,11,12,13,14,15,16,17,18,19,20,21,22,23,24,25,26] (v := ?_) (by simp; rfl) (by kernel_rfl) (by exact fun _ _ _ h => h) (Or.inl ⟨by rfl, ?_⟩) hH ?_; rotate_left; (intro _ hS; (try dsimp only at hS); go_simp; (try with_reducible rfl)); simp only [Act.put, e1_, e2_, e3_])
      iterate 20 (refine tk_ [0,1,2,3,4,5,6,7,8,9,10,11,12,13,14,15,16,17,18,19,20,21,22,23,24,25,26] (v := undef) (by simp; rfl) (by kernel_rfl) (by exact fun _ _ _ h => h) (Or.inr ⟨by rfl, rfl⟩) hH ?_; simp only [Act.put, e1_, e2_, e3_])
      iterate 1 (refine tk_ [0,1,2,3,4,5,6,7,8,9,10,11,12,13,14,15,16,17,18,19,20,21,22,23,24,25,26] (v := ?_) (by simp; rfl) (by kernel_rfl) (by exact fun _ _ _ h => h) (Or.inl ⟨by rfl, ?_⟩) hH ?_; rotate_left; (intro _ hS; (try dsimp only at hS); go_simp; (try with_reducible rfl)); simp only [Act.put, e1_, e2_, e3_])
      refine wpAnyLast_done (by kernel_rfl) ?_ _
      clear hH z1 z2
      go_wp2
      go_roundg (gk - 1)
      case rel => exact ⟨i + 1, congrArg (Value.int .i64) EW.out, ⟨by have := HC.out; omega, by have := HI.out; have := HC.out; omega⟩, HB3⟩
      case measure => have := HI.out; have := HC.out; omega
    ·have cb : decide (i < G.length) = false := decide_eq_false c
     go_wp2_with fail
     go_meet
     exact HBI
  case rest =>
  have hb := hcut.out
  replace HB := M_ (below_step HB.out hb); replace Cc1 := M_ (Kd.C_below Cc1.out hb); replace Cc2 := M_ (Kd.C_below Cc2.out hb); replace Cc3 := M_ (Kd.C_below Cc3.out hb); replace Cc4 := M_ (Kd.C_below Cc4.out hb); replace Cs := M_ (Kd.C_below Cs.out hb); replace Cn := M_ (Kd.C_below Cn.out hb); replace K1 := M_ (blk_below K1.out hb); replace Cx1 := M_ (Kd.C_below Cx1.out hb); replace Cx2 := M_ (Kd.C_below Cx2.out hb); replace Cx3 := M_ (Kd.C_below Cx3.out hb); replace Cx4 := M_ (Kd.C_below Cx4.out hb); replace K8 := M_ (blk_below K8.out hb)
  clear hb hcut CF lF CG lG
  obtain ⟨y0, y1, y2, y3, y4⟩ := cz5_ K1.out
  go_upto_region 21 with ((with_reducible refine gate_callee (f := 37) rfl ?_); refine goesL_ (some 140) rfl rfl Try.func37 (by kernel_rfl) rfl #[.agg #[.int .i64 ci, .slice Ac1 c1.length cc1, .slice Ac2 c2.length cc2, .slice Ac3 c3.length cc3, .slice Ac4 c4.length cc4], .slice As st.length cs, .slice An inp.length cn] rfl (by (try simp only [List.map_toArray, List.map_cons, List.map_nil]); first | done | rfl) ?_; (with_reducible refine (values_Props.calls ci Ac1 cc1 c1 Ac2 cc2 c2 Ac3 cc3 c3 Ac4 cc4 c4 As cs st An cn inp r Bv 0 _ Cc1.out lc1.out Cc2.out lc2.out Cc3.out lc3.out Cc4.out lc4.out Cs.out ls.out Cn.out ln.out HR.out.pc).mono ?_); rintro e w11 ⟨v, rfl, o0, hb⟩; refine ⟨_, rfl, ?_⟩; replace HB := M_ (below_step HB.out hb); replace Cc1 := M_ (Kd.C_below Cc1.out hb); replace Cc2 := M_ (Kd.C_below Cc2.out hb); replace Cc3 := M_ (Kd.C_below Cc3.out hb); replace Cc4 := M_ (Kd.C_below Cc4.out hb); replace Cs := M_ (Kd.C_below Cs.out hb); replace Cn := M_ (Kd.C_below Cn.out hb); replace K1 := M_ (blk_below K1.out hb); replace Cx1 := M_ (Kd.C_below Cx1.out hb); replace Cx2 := M_ (Kd.C_below Cx2.out hb); replace Cx3 := M_ (Kd.C_below Cx3.out hb); replace Cx4 := M_ (Kd.C_below Cx4.out hb); replace K8 := M_ (blk_below K8.out hb); obtain ⟨AB, cB, rfl⟩ := Kd.R_slice o0; have CB := M_ (Kd.R_reads' o0).2.2; have lB := M_ (Kd.R_reads' o0).2.1; clear hb o0)
  clear y0 y1 y2 y3 y4
  obtain ⟨y0, y1, y2, y3, y4, -⟩ := cz12_ K8.out
  go_upto_region 22 with ((with_reducible refine gate_callee (f := 37) rfl ?_); refine goesL_ (some 149) rfl rfl Try.func37 (by kernel_rfl) rfl #[.agg #[.int .i64 xi, .slice Ax1 x1.length cx1, .slice Ax2 x2.length cx2, .slice Ax3 x3.length cx3, .slice Ax4 x4.length cx4], .slice As st.length cs, .slice An inp.length cn] rfl (by (try simp only [List.map_toArray, List.map_cons, List.map_nil]); first | done | rfl) ?_; (with_reducible refine (values_Props.calls xi Ax1 cx1 x1 Ax2 cx2 x2 Ax3 cx3 x3 Ax4 cx4 x4 As cs st An cn inp r Bv 0 _ Cx1.out lx1.out Cx2.out lx2.out Cx3.out lx3.out Cx4.out lx4.out Cs.out ls.out Cn.out ln.out HR.out.px).mono ?_); rintro e w12 ⟨v, rfl, o0, hb⟩; refine ⟨_, rfl, ?_⟩; replace HB := M_ (below_step HB.out hb); replace Cc1 := M_ (Kd.C_below Cc1.out hb); replace Cc2 := M_ (Kd.C_below Cc2.out hb); replace Cc3 := M_ (Kd.C_below Cc3.out hb); replace Cc4 := M_ (Kd.C_below Cc4.out hb); replace Cs := M_ (Kd.C_below Cs.out hb); replace Cn := M_ (Kd.C_below Cn.out hb); replace K1 := M_ (blk_below K1.out hb); replace Cx1 := M_ (Kd.C_below Cx1.out hb); replace Cx2 := M_ (Kd.C_below Cx2.out hb); replace Cx3 := M_ (Kd.C_below Cx3.out hb); replace Cx4 := M_ (Kd.C_below Cx4.out hb); replace K8 := M_ (blk_below K8.out hb); replace CB := M_ (Kd.C_below CB.out hb); obtain ⟨AD, cD, rfl⟩ := Kd.R_slice o0; have CD := M_ (Kd.R_reads' o0).2.2; have lD := M_ (Kd.R_reads' o0).2.1; clear hb o0)
  clear y0 y1 y2 y3 y4
  obtain ⟨y0, y1, y2, y3, y4⟩ := cz5_ K1.out
  go_upto_region 23 with ((with_reducible refine gate_callee (f := 13) rfl ?_); refine goesL_ (some 157) rfl rfl Try.func13 (by kernel_rfl) rfl #[.agg #[.int .i64 ci, .slice Ac1 c1.length cc1, .slice Ac2 c2.length cc2, .slice Ac3 c3.length cc3, .slice Ac4 c4.length cc4], .slice As st.length cs, .slice An inp.length cn] rfl (by (try simp only [List.map_toArray, List.map_cons, List.map_nil]); first | done | rfl) ?_; (with_reducible refine (values_Next.calls ci Ac1 cc1 c1 Ac2 cc2 c2 Ac3 cc3 c3 Ac4 cc4 c4 As cs st An cn inp S 0 _ Cc1.out lc1.out Cc2.out lc2.out Cc3.out lc3.out Cc4.out lc4.out Cs.out ls.out Cn.out ln.out HR.out.nc).mono ?_); rintro e w13 ⟨v, rfl, o0, hb⟩; refine ⟨_, rfl, ?_⟩; replace HB := M_ (below_step HB.out hb); replace Cc1 := M_ (Kd.C_below Cc1.out hb); replace Cc2 := M_ (Kd.C_below Cc2.out hb); replace Cc3 := M_ (Kd.C_below Cc3.out hb); replace Cc4 := M_ (Kd.C_below Cc4.out hb); replace Cs := M_ (Kd.C_below Cs.out hb); replace Cn := M_ (Kd.C_below Cn.out hb); replace K1 := M_ (blk_below K1.out hb); replace Cx1 := M_ (Kd.C_below Cx1.out hb); replace Cx2 := M_ (Kd.C_below Cx2.out hb); replace Cx3 := M_ (Kd.C_below Cx3.out hb); replace Cx4 := M_ (Kd.C_below Cx4.out hb); replace K8 := M_ (blk_below K8.out hb); replace CB := M_ (Kd.C_below CB.out hb); replace CD := M_ (Kd.C_below CD.out hb); obtain ⟨AS, cS, rfl⟩ := Kd.R_slice o0; have CS := M_ (Kd.R_reads' o0).2.2; have lS := M_ (Kd.R_reads' o0).2.1; clear hb o0)
  clear y0 y1 y2 y3 y4
  obtain ⟨y0, y1, y2, y3, y4, -⟩ := cz12_ K8.out
  go_upto_region 24 with ((with_reducible refine gate_callee (f := 13) rfl ?_); refine goesL_ (some 165) rfl rfl Try.func13 (by kernel_rfl) rfl #[.agg #[.int .i64 xi, .slice Ax1 x1.length cx1, .slice Ax2 x2.length cx2, .slice Ax3 x3.length cx3, .slice Ax4 x4.length cx4], .slice As st.length cs, .slice An inp.length cn] rfl (by (try simp only [List.map_toArray, List.map_cons, List.map_nil]); first | done | rfl) ?_; (with_reducible refine (values_Next.calls xi Ax1 cx1 x1 Ax2 cx2 x2 Ax3 cx3 x3 Ax4 cx4 x4 As cs st An cn inp S 0 _ Cx1.out lx1.out Cx2.out lx2.out Cx3.out lx3.out Cx4.out lx4.out Cs.out ls.out Cn.out ln.out HR.out.nx).mono ?_); rintro e w14 ⟨v, rfl, o0, hb⟩; refine ⟨_, rfl, ?_⟩; replace HB := M_ (below_step HB.out hb); replace Cc1 := M_ (Kd.C_below Cc1.out hb); replace Cc2 := M_ (Kd.C_below Cc2.out hb); replace Cc3 := M_ (Kd.C_below Cc3.out hb); replace Cc4 := M_ (Kd.C_below Cc4.out hb); replace Cs := M_ (Kd.C_below Cs.out hb); replace Cn := M_ (Kd.C_below Cn.out hb); replace K1 := M_ (blk_below K1.out hb); replace Cx1 := M_ (Kd.C_below Cx1.out hb); replace Cx2 := M_ (Kd.C_below Cx2.out hb); replace Cx3 := M_ (Kd.C_below Cx3.out hb); replace Cx4 := M_ (Kd.C_below Cx4.out hb); replace K8 := M_ (blk_below K8.out hb); replace CB := M_ (Kd.C_below CB.out hb); replace CD := M_ (Kd.C_below CD.out hb); replace CS := M_ (Kd.C_below CS.out hb); obtain ⟨AE, cE, rfl⟩ := Kd.R_slice o0; have CE := M_ (Kd.R_reads' o0).2.2; have lE := M_ (Kd.R_reads' o0).2.1; clear hb o0)
  clear y0 y1 y2 y3 y4
  have rr : (r != r) = false := by cases r <;> rfl
  have rr2 : (r == r) = true := by cases r <;> rfl
  go_wp2_with (first
   | (go_at_call_of 38 (Value.slice AB Bv.length cB); (with_reducible refine (spiritlevelref04_Same.calls k AB cB Bv AD cD Bv true _ CB.out lB.out CD.out lD.out HR.out.sB).mono ?_); rintro e w15 ⟨rfl, hd⟩; have hb := hd.below; replace HB := M_ (below_step HB.out hb); replace CS := M_ (Kd.C_below CS.out hb); replace CE := M_ (Kd.C_below CE.out hb); clear hd hb)
   | (go_at_call 38; (with_reducible refine (spiritlevelref04_Same.calls k AS cS S AE cE S true _ CS.out lS.out CE.out lE.out HR.out.sS).mono ?_); rintro e w16 ⟨rfl, hd⟩; have hb := hd.below; replace HB := M_ (below_step HB.out hb); clear hd hb))
  go_ret
  exact ⟨rfl, HB.out⟩
 ·as_aux_lemma =>
  have b5 : (e == 0) = false := beq_eq_false_iff_ne.mpr he
  have b6 : (e != 0) = true := bne_iff_ne.mpr he
  have b7 : decide (e = 0) = false := decide_eq_false he
  have HR := M_ (HF.out.rest fun h => absurd h he)
  clear HF
  go_upto_region 11 with fail
  clear CT lT
  obtain ⟨y0, y1, y2, y3, y4⟩ := cz5_ K1.out
  go_upto_region 12 with ((with_reducible refine gate_callee (f := 35) rfl ?_); refine goesL_ (some 78) rfl rfl Try.func35 (by kernel_rfl) rfl #[.agg #[.int .i64 ci, .slice Ac1 c1.length cc1, .slice Ac2 c2.length cc2, .slice Ac3 c3.length cc3, .slice Ac4 c4.length cc4], .slice As st.length cs, .slice An inp.length cn] rfl (by (try simp only [List.map_toArray, List.map_cons, List.map_nil]); first | done | rfl) ?_; (with_reducible refine (values_All.calls ci Ac1 cc1 c1 Ac2 cc2 c2 Ac3 cc3 c3 Ac4 cc4 c4 As cs st An cn inp F 0 _ Cc1.out lc1.out Cc2.out lc2.out Cc3.out lc3.out Cc4.out lc4.out Cs.out ls.out Cn.out ln.out HR.out.all).mono ?_); rintro e w10 ⟨v, rfl, o0, hb⟩; refine ⟨_, rfl, ?_⟩; replace HB := M_ (below_step HB.out hb); replace Cc1 := M_ (Kd.C_below Cc1.out hb); replace Cc2 := M_ (Kd.C_below Cc2.out hb); replace Cc3 := M_ (Kd.C_below Cc3.out hb); replace Cc4 := M_ (Kd.C_below Cc4.out hb); replace Cs := M_ (Kd.C_below Cs.out hb); replace Cn := M_ (Kd.C_below Cn.out hb); replace K1 := M_ (blk_below K1.out hb); replace CG := M_ (Kd.C_below CG.out hb); replace Cx1 := M_ (Kd.C_below Cx1.out hb); replace Cx2 := M_ (Kd.C_below Cx2.out hb); replace Cx3 := M_ (Kd.C_below Cx3.out hb); replace Cx4 := M_ (Kd.C_below Cx4.out hb); replace K8 := M_ (blk_below K8.out hb); obtain ⟨AF, cF, rfl⟩ := Kd.R_slice o0; have CF := M_ (Kd.R_reads' o0).2.2; have lF := M_ (Kd.R_reads' o0).2.1; clear hb o0)
  clear y0 y1 y2 y3 y4
  go_upto_block 0 with fail
  go_cut [] (fun wx => Aside0 (Below w10.heap.size w10 wx))
  case first =>
   go_wp2
   go_loopg [16, 17] (G.length + 1) (fun kq v16 v17 w' => ∃ i : Nat, v16 = .int .i64 (i : Int) ∧ Aside0 (i ≤ G.length ∧ kq + i = G.length + 1) ∧ Aside0 (Below w10.heap.size w10 w'))
   case atStart => exact ⟨0, rfl, ⟨by omega, by omega⟩, ⟨Below.refl _ _⟩⟩
   case round =>
    obtain ⟨i, rfl, HI, HBI⟩ := hrel
    go_wp2_with fail
    go_meet
    exact HBI
  case rest =>
  have hb := hcut.out
  replace HB := M_ (below_step HB.out hb); replace Cc1 := M_ (Kd.C_below Cc1.out hb); replace Cc2 := M_ (Kd.C_below Cc2.out hb); replace Cc3 := M_ (Kd.C_below Cc3.out hb); replace Cc4 := M_ (Kd.C_below Cc4.out hb); replace Cs := M_ (Kd.C_below Cs.out hb); replace Cn := M_ (Kd.C_below Cn.out hb); replace K1 := M_ (blk_below K1.out hb); replace Cx1 := M_ (Kd.C_below Cx1.out hb); replace Cx2 := M_ (Kd.C_below Cx2.out hb); replace Cx3 := M_ (Kd.C_below Cx3.out hb); replace Cx4 := M_ (Kd.C_below Cx4.out hb); replace K8 := M_ (blk_below K8.out hb)
  clear hb hcut CF lF CG lG
  obtain ⟨y0, y1, y2, y3, y4⟩ := cz5_ K1.out
  go_upto_region 21 with ((with_reducible refine gate_callee (f := 37) rfl ?_); refine goesL_ (some 140) rfl rfl Try.func37 (by kernel_rfl) rfl #[.agg #[.int .i64 ci, .slice Ac1 c1.length cc1, .slice Ac2 c2.length cc2, .slice Ac3 c3.length cc3, .slice Ac4 c4.length cc4], .slice As st.length cs, .slice An inp.length cn] rfl (by (try simp only [List.map_toArray, List.map_cons, List.map_nil]); first | done | rfl) ?_; (with_reducible refine (values_Props.calls ci Ac1 cc1 c1 Ac2 cc2 c2 Ac3 cc3 c3 Ac4 cc4 c4 As cs st An cn inp r Bv 0 _ Cc1.out lc1.out Cc2.out lc2.out Cc3.out lc3.out Cc4.out lc4.out Cs.out ls.out Cn.out ln.out HR.out.pc).mono ?_); rintro e w11 ⟨v, rfl, o0, hb⟩; refine ⟨_, rfl, ?_⟩; replace HB := M_ (below_step HB.out hb); replace Cc1 := M_ (Kd.C_below Cc1.out hb); replace Cc2 := M_ (Kd.C_below Cc2.out hb); replace Cc3 := M_ (Kd.C_below Cc3.out hb); replace Cc4 := M_ (Kd.C_below Cc4.out hb); replace Cs := M_ (Kd.C_below Cs.out hb); replace Cn := M_ (Kd.C_below Cn.out hb); replace K1 := M_ (blk_below K1.out hb); replace Cx1 := M_ (Kd.C_below Cx1.out hb); replace Cx2 := M_ (Kd.C_below Cx2.out hb); replace Cx3 := M_ (Kd.C_below Cx3.out hb); replace Cx4 := M_ (Kd.C_below Cx4.out hb); replace K8 := M_ (blk_below K8.out hb); obtain ⟨AB, cB, rfl⟩ := Kd.R_slice o0; have CB := M_ (Kd.R_reads' o0).2.2; have lB := M_ (Kd.R_reads' o0).2.1; clear hb o0)
  clear y0 y1 y2 y3 y4
  obtain ⟨y0, y1, y2, y3, y4, -⟩ := cz12_ K8.out
  go_upto_region 22 with ((with_reducible refine gate_callee (f := 37) rfl ?_); refine goesL_ (some 149) rfl rfl Try.func37 (by kernel_rfl) rfl #[.agg #[.int .i64 xi, .slice Ax1 x1.length cx1, .slice Ax2 x2.length cx2, .slice Ax3 x3.length cx3, .slice Ax4 x4.length cx4], .slice As st.length cs, .slice An inp.length cn] rfl (by (try simp only [List.map_toArray, List.map_cons, List.map_nil]); first | done | rfl) ?_; (with_reducible refine (values_Props.calls xi Ax1 cx1 x1 Ax2 cx2 x2 Ax3 cx3 x3 Ax4 cx4 x4 As cs st An cn inp r Bv 0 _ Cx1.out lx1.out Cx2.out lx2.out Cx3.out lx3.out Cx4.out lx4.out Cs.out ls.out Cn.out ln.out HR.out.px).mono ?_); rintro e w12 ⟨v, rfl, o0, hb⟩; refine ⟨_, rfl, ?_⟩; replace HB := M_ (below_step HB.out hb); replace Cc1 := M_ (Kd.C_below Cc1.out hb); replace Cc2 := M_ (Kd.C_below Cc2.out hb); replace Cc3 := M_ (Kd.C_below Cc3.out hb); replace Cc4 := M_ (Kd.C_below Cc4.out hb); replace Cs := M_ (Kd.C_below Cs.out hb); replace Cn := M_ (Kd.C_below Cn.out hb); replace K1 := M_ (blk_below K1.out hb); replace Cx1 := M_ (Kd.C_below Cx1.out hb); replace Cx2 := M_ (Kd.C_below Cx2.out hb); replace Cx3 := M_ (Kd.C_below Cx3.out hb); replace Cx4 := M_ (Kd.C_below Cx4.out hb); replace K8 := M_ (blk_below K8.out hb); replace CB := M_ (Kd.C_below CB.out hb); obtain ⟨AD, cD, rfl⟩ := Kd.R_slice o0; have CD := M_ (Kd.R_reads' o0).2.2; have lD := M_ (Kd.R_reads' o0).2.1; clear hb o0)
  clear y0 y1 y2 y3 y4
  obtain ⟨y0, y1, y2, y3, y4⟩ := cz5_ K1.out
  go_upto_region 23 with ((with_reducible refine gate_callee (f := 13) rfl ?_); refine goesL_ (some 157) rfl rfl Try.func13 (by kernel_rfl) rfl #[.agg #[.int .i64 ci, .slice Ac1 c1.length cc1, .slice Ac2 c2.length cc2, .slice Ac3 c3.length cc3, .slice Ac4 c4.length cc4], .slice As st.length cs, .slice An inp.length cn] rfl (by (try simp only [List.map_toArray, List.map_cons, List.map_nil]); first | done | rfl) ?_; (with_reducible refine (values_Next.calls ci Ac1 cc1 c1 Ac2 cc2 c2 Ac3 cc3 c3 Ac4 cc4 c4 As cs st An cn inp S 0 _ Cc1.out lc1.out Cc2.out lc2.out Cc3.out lc3.out Cc4.out lc4.out Cs.out ls.out Cn.out ln.out HR.out.nc).mono ?_); rintro e w13 ⟨v, rfl, o0, hb⟩; refine ⟨_, rfl, ?_⟩; replace HB := M_ (below_step HB.out hb); replace Cc1 := M_ (Kd.C_below Cc1.out hb); replace Cc2 := M_ (Kd.C_below Cc2.out hb); replace Cc3 := M_ (Kd.C_below Cc3.out hb); replace Cc4 := M_ (Kd.C_below Cc4.out hb); replace Cs := M_ (Kd.C_below Cs.out hb); replace Cn := M_ (Kd.C_below Cn.out hb); replace K1 := M_ (blk_below K1.out hb); replace Cx1 := M_ (Kd.C_below Cx1.out hb); replace Cx2 := M_ (Kd.C_below Cx2.out hb); replace Cx3 := M_ (Kd.C_below Cx3.out hb); replace Cx4 := M_ (Kd.C_below Cx4.out hb); replace K8 := M_ (blk_below K8.out hb); replace CB := M_ (Kd.C_below CB.out hb); replace CD := M_ (Kd.C_below CD.out hb); obtain ⟨AS, cS, rfl⟩ := Kd.R_slice o0; have CS := M_ (Kd.R_reads' o0).2.2; have lS := M_ (Kd.R_reads' o0).2.1; clear hb o0)
  clear y0 y1 y2 y3 y4
  obtain ⟨y0, y1, y2, y3, y4, -⟩ := cz12_ K8.out
  go_upto_region 24 with ((with_reducible refine gate_callee (f := 13) rfl ?_); refine goesL_ (some 165) rfl rfl Try.func13 (by kernel_rfl) rfl #[.agg #[.int .i64 xi, .slice Ax1 x1.length cx1, .slice Ax2 x2.length cx2, .slice Ax3 x3.length cx3, .slice Ax4 x4.length cx4], .slice As st.length cs, .slice An inp.length cn] rfl (by (try simp only [List.map_toArray, List.map_cons, List.map_nil]); first | done | rfl) ?_; (with_reducible refine (values_Next.calls xi Ax1 cx1 x1 Ax2 cx2 x2 Ax3 cx3 x3 Ax4 cx4 x4 As cs st An cn inp S 0 _ Cx1.out lx1.out Cx2.out lx2.out Cx3.out lx3.out Cx4.out lx4.out Cs.out ls.out Cn.out ln.out HR.out.nx).mono ?_); rintro e w14 ⟨v, rfl, o0, hb⟩; refine ⟨_, rfl, ?_⟩; replace HB := M_ (below_step HB.out hb); replace Cc1 := M_ (Kd.C_below Cc1.out hb); replace Cc2 := M_ (Kd.C_below Cc2.out hb); replace Cc3 := M_ (Kd.C_below Cc3.out hb); replace Cc4 := M_ (Kd.C_below Cc4.out hb); replace Cs := M_ (Kd.C_below Cs.out hb); replace Cn := M_ (Kd.C_below Cn.out hb); replace K1 := M_ (blk_below K1.out hb); replace Cx1 := M_ (Kd.C_below Cx1.out hb); replace Cx2 := M_ (Kd.C_below Cx2.out hb); replace Cx3 := M_ (Kd.C_below Cx3.out hb); replace Cx4 := M_ (Kd.C_below Cx4.out hb); replace K8 := M_ (blk_below K8.out hb); replace CB := M_ (Kd.C_below CB.out hb); replace CD := M_ (Kd.C_below CD.out hb); replace CS := M_ (Kd.C_below CS.out hb); obtain ⟨AE, cE, rfl⟩ := Kd.R_slice o0; have CE := M_ (Kd.R_reads' o0).2.2; have lE := M_ (Kd.R_reads' o0).2.1; clear hb o0)
  clear y0 y1 y2 y3 y4
  have rr : (r != r) = false := by cases r <;> rfl
  have rr2 : (r == r) = true := by cases r <;> rfl
  go_wp2_with (first
   | (go_at_call_of 38 (Value.slice AB Bv.length cB); (with_reducible refine (spiritlevelref04_Same.calls k AB cB Bv AD cD Bv true _ CB.out lB.out CD.out lD.out HR.out.sB).mono ?_); rintro e w15 ⟨rfl, hd⟩; have hb := hd.below; replace HB := M_ (below_step HB.out hb); replace CS := M_ (Kd.C_below CS.out hb); replace CE := M_ (Kd.C_below CE.out hb); clear hd hb)
   | (go_at_call 38; (with_reducible refine (spiritlevelref04_Same.calls k AS cS S AE cE S true _ CS.out lS.out CE.out lE.out HR.out.sS).mono ?_); rintro e w16 ⟨rfl, hd⟩; have hb := hd.below; replace HB := M_ (below_step HB.out hb); clear hd hb))
  go_ret
  exact ⟨rfl, HB.out⟩
end Go.Proofs.Ytmcdanpecajklaa.QTernsimValuesW
