-- The walk of ConstantsCones: what the law function does, step by step, given what the functions that it calls return (wip/gen/ccones).
import Derived.Test.YtlgoniocoifjjaaQConstantsConesx0
import Derived.Test.YtlgoniocoifjjaaQConstantsConesx1
import Derived.Test.YtlgoniocoifjjaaQConstantsConesx2
import Derived.Test.YtlgoniocoifjjaaQConstantsConesx3
import Derived.Test.YtlgoniocoifjjaaQConstantsConesx4
import Derived.Test.YtlgoniocoifjjaaQConstantsConesx5
import Derived.Test.YtlgoniocoifjjaaQConstantsConesx6
import Derived.Test.YtlgoniocoifjjaaQConstantsConesx7
import Derived.Test.YtlgoniocoifjjaaQConstantsConesx8
import Derived.Test.YtlgoniocoifjjaaQConstantsConesx9
import Derived.Test.YtlgoniocoifjjaaQConstantsConesx10
import Derived.Test.YtlgoniocoifjjaaQConstantsConesx11
import Derived.Test.YtlgoniocoifjjaaQConstantsConesx12
import Derived.Deep.CutBlock
import Derived.Deep.RegionLaw
namespace Go.Proofs.Ytlgoniocoifjjaa.QConstantsConesW
open Go.RowKit Go.Proofs.YtlgoniocoifjjaaW.PrintWords Go.Proofs.YtlgoniocoifjjaaW.PrintLast Go.Proofs.YtlgoniocoifjjaaW.PrintMore Go.Proofs.Ytlgoniocoifjjaa.QConstantsCones
attribute [local go_sem] max2_int min2_int max_two min_two max_three min_three max_four min_four
set_option linter.unusedVariables false
set_option linter.unusedSimpArgs false
/-- PrintLast: the operations of the list L, in its order, are taken first. -/
theorem tk_ (L : List Nat) {P : Program} {ops : Array Oper} {Q : Exit → Act → World → Prop} {S : World → Prop} {ds : List Nat} {oi : Oper} {v : Value} {fuel : Nat} {l : Array Bool} {a : Act} {w : World} (hi : ops[L.getD (ops.size - (fuel + 1)) 0]? = some oi)
  (hc : (Region.noSelect ops && Region.free .any ops l (L.getD (ops.size - (fuel + 1)) 0) && (Region.ready .any ops l).contains (L.getD (ops.size - (fuel + 1)) 0) && Region.closedB .any ops l && Region.lastB .any ops l ds (L.getD (ops.size - (fuel + 1)) 0)) = true)
  (hQ : ∀ c a w, Q (.panic c) (a.put oi.dst v) w → Q (.panic c) a w) (hy : YieldsIf P ops S oi v a) (hS : S w)
  (h : wpAnyLast P .any ops Q S ds fuel (l.setIfInBounds (L.getD (ops.size - (fuel + 1)) 0) true) (a.put oi.dst v) w) : wpAnyLast P .any ops Q S ds (fuel + 1) l a w := by
 simp only [Bool.and_eq_true] at hc
 exact wpAnyLast_take hi hc.1.1.1.1 hc.1.1.1.2 hc.1.1.2 hc.1.2 hc.2 hQ hy hS h
theorem os_ (i : Nat) {P : Program} {ops : Array Oper} {Q : Exit → Act → World → Prop} {S : World → Prop} {ds : List Nat} {o : Oper} {fuel : Nat} {l : Array Bool} {a : Act} {w : World} (hi : ops[i]? = some o)
  (hc : ((Region.ready .any ops l == [i]) && !ds.contains i) = true)
  (h : ∀ K : Act → World → Prop, Shut (∀ a w, S w → (S w → wpAnyLast P .any ops Q S ds fuel (l.setIfInBounds i true) a w) → K a w) → if Region.wanted o (yielded ops a.tmps) = true then Oper.wp P o a w K Q else K (a.put o.dst undef) w) : wpAnyLast P .any ops Q S ds (fuel + 1) l a w := by
 simp at hc
 exact wpAnyLast_ready hc.1 (by simp) (AllReadyL.cons hi hc.2 h AllReadyL.nil)
theorem ol_ (i : Nat) {P : Program} {ops : Array Oper} {Q : Exit → Act → World → Prop} {S : World → Prop} {ds : List Nat} {o : Oper} {fuel : Nat} {l : Array Bool} {a : Act} {w : World} (hi : ops[i]? = some o)
  (hc : ((Region.ready .any ops l == [i]) && ds.contains i) = true)
  (h : ∀ K : Act → World → Prop, Shut (∀ a w, wpAnyLast P .any ops Q S ds fuel (l.setIfInBounds i true) a w → K a w) → if Region.wanted o (yielded ops a.tmps) = true then Oper.wp P o a w K Q else K (a.put o.dst undef) w) : wpAnyLast P .any ops Q S ds (fuel + 1) l a w := by
 simp at hc
 exact wpAnyLast_ready hc.1 (by simp) (AllReadyL.cons_last hi hc.2 h AllReadyL.nil)
/-- What the called functions say of a valid circuit. -/
structure HF (k : Nat) (ci : Int) (c1 : List S45) (c2 : List S55) (c3 : List Int) (c4 : List Int) (S : List Int) (xi xs xp xl : Int) (x1 : List S45) (x2 : List S55) (x3 : List Int) (x4 : List Int) (x7 : List Int) (x8 : List (List Int)) (x9 : List Int) (xA : List S55) (ri rs rp rl : Int) (r1 : List S45) (r2 : List S55) (r3 : List Int) (r4 : List Int) (r7 : List Int) (r8 : List (List Int)) (r9 : List Int) (rA : List S55) : Prop where
 stay : constants_Stay.f k ci c1 c2 c3 c4 = some (S, 0)
 pass : constants_Pass.f k ci c1 c2 c3 c4 = some (xi, x1, x2, x3, x4, xs, xp, x7, x8, x9, xA, xl, 0)
 stay2 : constants_Stay.f k xi x1 x2 x3 x4 = some (S, 0)
 pass2 : constants_Pass.f k xi x1 x2 x3 x4 = some (ri, r1, r2, r3, r4, rs, rp, r7, r8, r9, rA, rl, 0)
 si : spiritlevelref02_SameInts.f k S S = some true
 sm : spiritlevelref02_Same.f k ri r1 r2 r3 r4 xi x1 x2 x3 x4 = some true
 len : x1.length = c1.length
 few : 0 ≤ ci ∧ ci ≤ 1000 ∧ S.length ≤ 1000 ∧ x1.length ≤ 1000 ∧ x3.length ≤ 1000 ∧ x4.length ≤ 1000
 inS : ∀ s ∈ S, 0 ≤ s ∧ s ≤ 1000
 cone : ∀ l ∈ (x3 ++ x4 ++ x1.map fun x => x.f0), ∃ C : List Int, gates_Cone.f k xi x1 x2 x3 x4 l = some (C, 0) ∧ C.length ≤ 100000 ∧ ∀ y ∈ C, ∀ s ∈ S, y ≠ ci + 1 + s
set_option maxHeartbeats 40000000 in
set_option maxRecDepth 100000 in
theorem cones_walk (k : Nat) (ci : Int) (Ac1 : Option Addr) (cc1 : Nat) (c1 : List S45) (Ac2 : Option Addr) (cc2 : Nat) (c2 : List S55) (Ac3 : Option Addr) (cc3 : Nat) (c3 : List Int) (Ac4 : Option Addr) (cc4 : Nat) (c4 : List Int) (S : List Int) (xi xs xp xl : Int) (x1 : List S45) (x2 : List S55) (x3 : List Int) (x4 : List Int) (x7 : List Int) (x8 : List (List Int)) (x9 : List Int) (xA : List S55) (ri rs rp rl : Int) (r1 : List S45) (r2 : List S55) (r3 : List Int) (r4 : List Int) (r7 : List Int) (r8 : List (List Int)) (r9 : List Int) (rA : List S55) (chk : Int) (g : Bool) (w : World) (h1 : Kd.C k45 w Ac1 c1.length c1) (k1 : c1.length ≤ cc1) (h2 : Kd.C k55 w Ac2 c2.length c2) (k2 : c2.length ≤ cc2) (h3 : Kd.C (Kd.int .i64) w Ac3 c3.length c3) (k3 : c3.length ≤ cc3) (h4 : Kd.C (Kd.int .i64) w Ac4 c4.length c4) (k4 : c4.length ≤ cc4)
  (hal : spiritlevellaw27_alive.f k = some true) (hgr : spiritlevelref02_Great.f ci c1 c2 c3 c4 = some g) (hck : g = false → spiritlevelref02_Check.f k ci c1 c2 c3 c4 = some chk) (hf : g = false → chk = 0 → HF k ci c1 c2 c3 c4 S xi xs xp xl x1 x2 x3 x4 x7 x8 x9 xA ri rs rp rl r1 r2 r3 r4 r7 r8 r9 rA) :
  Calls Try.prog 3 #[.agg #[.int .i64 ci, .slice Ac1 c1.length cc1, .slice Ac2 c2.length cc2, .slice Ac3 c3.length cc3, .slice Ac4 c4.length cc4]] w fun e w' => e = .returned (.bool true) ∧ Below w.heap.size w w' := by
 have hu26 := Try.underlying26
 have hu39 := Try.underlying39
 have hu45 := Try.underlying45
 have AL := M_ hal
 have GR := M_ hgr
 have CK := M_ hck
 have HF0 := M_ hf
 have Cc1 := M_ h1
 have lc1 := M_ k1
 have Cc2 := M_ h2
 have lc2 := M_ k2
 have Cc3 := M_ h3
 have lc3 := M_ k3
 have Cc4 := M_ h4
 have lc4 := M_ k4
 clear hal hgr hck hf h1 k1 h2 k2 h3 k3 h4 k4
 have HB := M_ (Below.refl w.heap.size w)
 go_enter Try.func3, Try.ntmps3
 go_upto_region 1 with fail
 obtain ⟨w1, hwc⟩ : ∃ x, x = w.alloc (.cells #[.int .i64 ci, .slice Ac1 c1.length cc1, .slice Ac2 c2.length cc2, .slice Ac3 c3.length cc3, .slice Ac4 c4.length cc4] 26) := ⟨_, rfl⟩
 have K1 : Aside0 (w1.heap[w.heap.size]? = some (.cells #[.int .i64 ci, .slice Ac1 c1.length cc1, .slice Ac2 c2.length cc2, .slice Ac3 c3.length cc3, .slice Ac4 c4.length cc4] 26 (0, 0))) := ⟨by rw [hwc]; exact heap_alloc_new w _⟩
 have hb : Below w.heap.size w w1 := by rw [hwc]; exact below_alloc (Below.refl _ _) _
 have N_ := M_ (below_step HB.out hb); clear HB; have HB := N_; clear N_; have N_ := M_ (Kd.C_below Cc1.out hb); clear Cc1; have Cc1 := N_; clear N_; have N_ := M_ (Kd.C_below Cc2.out hb); clear Cc2; have Cc2 := N_; clear N_; have N_ := M_ (Kd.C_below Cc3.out hb); clear Cc3; have Cc3 := N_; clear N_; have N_ := M_ (Kd.C_below Cc4.out hb); clear Cc4; have Cc4 := N_; clear N_
 clear hb
 rw [← hwc]
 clear hwc
 generalize w.heap.size = g1 at K1 ⊢
 go_upto_region 2 with ((with_reducible refine gate_callee (f := 8) rfl ?_); refine goesL_ (some 19) rfl rfl Try.func8 (by kernel_rfl) rfl #[] rfl (by (try simp only [List.map_toArray, List.map_cons, List.map_nil]); first | done | rfl) ?_; (with_reducible refine (spiritlevellaw27_alive.calls k true _ AL.out).mono ?_); rintro e w2 ⟨rfl, hb⟩; refine ⟨_, rfl, ?_⟩; have N_ := M_ (below_step HB.out hb); clear HB; have HB := N_; clear N_; have N_ := M_ (Kd.C_below Cc1.out hb); clear Cc1; have Cc1 := N_; clear N_; have N_ := M_ (Kd.C_below Cc2.out hb); clear Cc2; have Cc2 := N_; clear N_; have N_ := M_ (Kd.C_below Cc3.out hb); clear Cc3; have Cc3 := N_; clear N_; have N_ := M_ (Kd.C_below Cc4.out hb); clear Cc4; have Cc4 := N_; clear N_; have N_ := M_ (blk_below K1.out hb); clear K1; have K1 := N_; clear N_; clear hb)
 have y0 := (blk_cell K1.out 0).trans (show _ = some (.int .i64 ci) from rfl)
 have y1 := (blk_cell K1.out 1).trans (show _ = some (.slice Ac1 c1.length cc1) from rfl)
 have y2 := (blk_cell K1.out 2).trans (show _ = some (.slice Ac2 c2.length cc2) from rfl)
 have y3 := (blk_cell K1.out 3).trans (show _ = some (.slice Ac3 c3.length cc3) from rfl)
 have y4 := (blk_cell K1.out 4).trans (show _ = some (.slice Ac4 c4.length cc4) from rfl)
 cases g with
 | true =>
  go_wp2_with (go_at_call 9; (with_reducible refine (spiritlevelref02_Great.calls ci Ac1 cc1 c1 Ac2 cc2 c2 Ac3 cc3 c3 Ac4 cc4 c4 true _ ?s0 ?s1 ?s2 ?s3 ?s4 ?s5 ?s6 ?s7 GR.out).mono ?_); (case s0 => exact Cc1.out); (case s1 => exact lc1.out); (case s2 => exact Cc2.out); (case s3 => exact lc2.out); (case s4 => exact Cc3.out); (case s5 => exact lc3.out); (case s6 => exact Cc4.out); (case s7 => exact lc4.out); rintro e w5 ⟨rfl, hb⟩; have N_ := M_ (below_step HB.out hb); clear HB; have HB := N_; clear N_; have N_ := M_ (Kd.C_below Cc1.out hb); clear Cc1; have Cc1 := N_; clear N_; have N_ := M_ (Kd.C_below Cc2.out hb); clear Cc2; have Cc2 := N_; clear N_; have N_ := M_ (Kd.C_below Cc3.out hb); clear Cc3; have Cc3 := N_; clear N_; have N_ := M_ (Kd.C_below Cc4.out hb); clear Cc4; have Cc4 := N_; clear N_; have N_ := M_ (blk_below K1.out hb); clear K1; have K1 := N_; clear N_; clear hb y0 y1 y2 y3 y4; have y0 := (blk_cell K1.out 0).trans (show _ = some (.int .i64 ci) from rfl); have y1 := (blk_cell K1.out 1).trans (show _ = some (.slice Ac1 c1.length cc1) from rfl); have y2 := (blk_cell K1.out 2).trans (show _ = some (.slice Ac2 c2.length cc2) from rfl); have y3 := (blk_cell K1.out 3).trans (show _ = some (.slice Ac3 c3.length cc3) from rfl); have y4 := (blk_cell K1.out 4).trans (show _ = some (.slice Ac4 c4.length cc4) from rfl))
  go_ret
  exact ⟨rfl, HB.out⟩
 | false =>
 have CK2 := M_ (CK.out rfl)
 clear CK
 by_cases hc : chk = 0
 case neg =>
  have b1 : (chk != 0) = true := bne_iff_ne.mpr hc
  have b2 : (chk == 0) = false := beq_eq_false_iff_ne.mpr hc
  go_wp2_with (first
   | (go_at_call 9; (with_reducible refine (spiritlevelref02_Great.calls ci Ac1 cc1 c1 Ac2 cc2 c2 Ac3 cc3 c3 Ac4 cc4 c4 false _ ?s0 ?s1 ?s2 ?s3 ?s4 ?s5 ?s6 ?s7 GR.out).mono ?_); (case s0 => exact Cc1.out); (case s1 => exact lc1.out); (case s2 => exact Cc2.out); (case s3 => exact lc2.out); (case s4 => exact Cc3.out); (case s5 => exact lc3.out); (case s6 => exact Cc4.out); (case s7 => exact lc4.out); rintro e w5 ⟨rfl, hb⟩; have N_ := M_ (below_step HB.out hb); clear HB; have HB := N_; clear N_; have N_ := M_ (Kd.C_below Cc1.out hb); clear Cc1; have Cc1 := N_; clear N_; have N_ := M_ (Kd.C_below Cc2.out hb); clear Cc2; have Cc2 := N_; clear N_; have N_ := M_ (Kd.C_below Cc3.out hb); clear Cc3; have Cc3 := N_; clear N_; have N_ := M_ (Kd.C_below Cc4.out hb); clear Cc4; have Cc4 := N_; clear N_; have N_ := M_ (blk_below K1.out hb); clear K1; have K1 := N_; clear N_; clear hb y0 y1 y2 y3 y4; have y0 := (blk_cell K1.out 0).trans (show _ = some (.int .i64 ci) from rfl); have y1 := (blk_cell K1.out 1).trans (show _ = some (.slice Ac1 c1.length cc1) from rfl); have y2 := (blk_cell K1.out 2).trans (show _ = some (.slice Ac2 c2.length cc2) from rfl); have y3 := (blk_cell K1.out 3).trans (show _ = some (.slice Ac3 c3.length cc3) from rfl); have y4 := (blk_cell K1.out 4).trans (show _ = some (.slice Ac4 c4.length cc4) from rfl))
   | (go_at_call 10; (with_reducible refine (spiritlevelref02_Check.calls k ci Ac1 cc1 c1 Ac2 cc2 c2 Ac3 cc3 c3 Ac4 cc4 c4 chk _ ?s0 ?s1 ?s2 ?s3 ?s4 ?s5 ?s6 ?s7 CK2.out).mono ?_); (case s0 => exact Cc1.out); (case s1 => exact lc1.out); (case s2 => exact Cc2.out); (case s3 => exact lc2.out); (case s4 => exact Cc3.out); (case s5 => exact lc3.out); (case s6 => exact Cc4.out); (case s7 => exact lc4.out); rintro e w5 ⟨rfl, hb⟩; have N_ := M_ (below_step HB.out hb); clear HB; have HB := N_; clear N_; have N_ := M_ (Kd.C_below Cc1.out hb); clear Cc1; have Cc1 := N_; clear N_; have N_ := M_ (Kd.C_below Cc2.out hb); clear Cc2; have Cc2 := N_; clear N_; have N_ := M_ (Kd.C_below Cc3.out hb); clear Cc3; have Cc3 := N_; clear N_; have N_ := M_ (Kd.C_below Cc4.out hb); clear Cc4; have Cc4 := N_; clear N_; have N_ := M_ (blk_below K1.out hb); clear K1; have K1 := N_; clear N_; clear hb y0 y1 y2 y3 y4; have y0 := (blk_cell K1.out 0).trans (show _ = some (.int .i64 ci) from rfl); have y1 := (blk_cell K1.out 1).trans (show _ = some (.slice Ac1 c1.length cc1) from rfl); have y2 := (blk_cell K1.out 2).trans (show _ = some (.slice Ac2 c2.length cc2) from rfl); have y3 := (blk_cell K1.out 3).trans (show _ = some (.slice Ac3 c3.length cc3) from rfl); have y4 := (blk_cell K1.out 4).trans (show _ = some (.slice Ac4 c4.length cc4) from rfl)))
  go_ret
  exact ⟨rfl, HB.out⟩
 have HF := M_ (HF0.out rfl hc)
 clear HF0
 subst hc
 go_upto_region 4 with (first
  | (go_at_call 9; (with_reducible refine (spiritlevelref02_Great.calls ci Ac1 cc1 c1 Ac2 cc2 c2 Ac3 cc3 c3 Ac4 cc4 c4 false _ ?s0 ?s1 ?s2 ?s3 ?s4 ?s5 ?s6 ?s7 GR.out).mono ?_); (case s0 => exact Cc1.out); (case s1 => exact lc1.out); (case s2 => exact Cc2.out); (case s3 => exact lc2.out); (case s4 => exact Cc3.out); (case s5 => exact lc3.out); (case s6 => exact Cc4.out); (case s7 => exact lc4.out); rintro e w5 ⟨rfl, hb⟩; have N_ := M_ (below_step HB.out hb); clear HB; have HB := N_; clear N_; have N_ := M_ (Kd.C_below Cc1.out hb); clear Cc1; have Cc1 := N_; clear N_; have N_ := M_ (Kd.C_below Cc2.out hb); clear Cc2; have Cc2 := N_; clear N_; have N_ := M_ (Kd.C_below Cc3.out hb); clear Cc3; have Cc3 := N_; clear N_; have N_ := M_ (Kd.C_below Cc4.out hb); clear Cc4; have Cc4 := N_; clear N_; have N_ := M_ (blk_below K1.out hb); clear K1; have K1 := N_; clear N_; clear hb y0 y1 y2 y3 y4; have y0 := (blk_cell K1.out 0).trans (show _ = some (.int .i64 ci) from rfl); have y1 := (blk_cell K1.out 1).trans (show _ = some (.slice Ac1 c1.length cc1) from rfl); have y2 := (blk_cell K1.out 2).trans (show _ = some (.slice Ac2 c2.length cc2) from rfl); have y3 := (blk_cell K1.out 3).trans (show _ = some (.slice Ac3 c3.length cc3) from rfl); have y4 := (blk_cell K1.out 4).trans (show _ = some (.slice Ac4 c4.length cc4) from rfl))
  | (go_at_call 10; (with_reducible refine (spiritlevelref02_Check.calls k ci Ac1 cc1 c1 Ac2 cc2 c2 Ac3 cc3 c3 Ac4 cc4 c4 0 _ ?s0 ?s1 ?s2 ?s3 ?s4 ?s5 ?s6 ?s7 CK2.out).mono ?_); (case s0 => exact Cc1.out); (case s1 => exact lc1.out); (case s2 => exact Cc2.out); (case s3 => exact lc2.out); (case s4 => exact Cc3.out); (case s5 => exact lc3.out); (case s6 => exact Cc4.out); (case s7 => exact lc4.out); rintro e w5 ⟨rfl, hb⟩; have N_ := M_ (below_step HB.out hb); clear HB; have HB := N_; clear N_; have N_ := M_ (Kd.C_below Cc1.out hb); clear Cc1; have Cc1 := N_; clear N_; have N_ := M_ (Kd.C_below Cc2.out hb); clear Cc2; have Cc2 := N_; clear N_; have N_ := M_ (Kd.C_below Cc3.out hb); clear Cc3; have Cc3 := N_; clear N_; have N_ := M_ (Kd.C_below Cc4.out hb); clear Cc4; have Cc4 := N_; clear N_; have N_ := M_ (blk_below K1.out hb); clear K1; have K1 := N_; clear N_; clear hb y0 y1 y2 y3 y4; have y0 := (blk_cell K1.out 0).trans (show _ = some (.int .i64 ci) from rfl); have y1 := (blk_cell K1.out 1).trans (show _ = some (.slice Ac1 c1.length cc1) from rfl); have y2 := (blk_cell K1.out 2).trans (show _ = some (.slice Ac2 c2.length cc2) from rfl); have y3 := (blk_cell K1.out 3).trans (show _ = some (.slice Ac3 c3.length cc3) from rfl); have y4 := (blk_cell K1.out 4).trans (show _ = some (.slice Ac4 c4.length cc4) from rfl)))
 clear y0 y1 y2 y3 y4
 have y0 := (blk_cell K1.out 0).trans (show _ = some (.int .i64 ci) from rfl)
 have y1 := (blk_cell K1.out 1).trans (show _ = some (.slice Ac1 c1.length cc1) from rfl)
 have y2 := (blk_cell K1.out 2).trans (show _ = some (.slice Ac2 c2.length cc2) from rfl)
 have y3 := (blk_cell K1.out 3).trans (show _ = some (.slice Ac3 c3.length cc3) from rfl)
 have y4 := (blk_cell K1.out 4).trans (show _ = some (.slice Ac4 c4.length cc4) from rfl)
 go_upto_region 5 with ((with_reducible refine gate_callee (f := 11) rfl ?_); refine goesL_ (some 34) rfl rfl Try.func11 (by kernel_rfl) rfl #[.agg #[.int .i64 ci, .slice Ac1 c1.length cc1, .slice Ac2 c2.length cc2, .slice Ac3 c3.length cc3, .slice Ac4 c4.length cc4]] rfl (by (try simp only [List.map_toArray, List.map_cons, List.map_nil]); first | done | rfl) ?_; (with_reducible refine (constants_Stay.calls k ci Ac1 cc1 c1 Ac2 cc2 c2 Ac3 cc3 c3 Ac4 cc4 c4 S 0 _ ?s0 ?s1 ?s2 ?s3 ?s4 ?s5 ?s6 ?s7 HF.out.stay).mono ?_); (case s0 => exact Cc1.out); (case s1 => exact lc1.out); (case s2 => exact Cc2.out); (case s3 => exact lc2.out); (case s4 => exact Cc3.out); (case s5 => exact lc3.out); (case s6 => exact Cc4.out); (case s7 => exact lc4.out); rintro e w6 ⟨v, rfl, o0, hb⟩; refine ⟨_, rfl, ?_⟩; have N_ := M_ (below_step HB.out hb); clear HB; have HB := N_; clear N_; have N_ := M_ (Kd.C_below Cc1.out hb); clear Cc1; have Cc1 := N_; clear N_; have N_ := M_ (Kd.C_below Cc2.out hb); clear Cc2; have Cc2 := N_; clear N_; have N_ := M_ (Kd.C_below Cc3.out hb); clear Cc3; have Cc3 := N_; clear N_; have N_ := M_ (Kd.C_below Cc4.out hb); clear Cc4; have Cc4 := N_; clear N_; have N_ := M_ (blk_below K1.out hb); clear K1; have K1 := N_; clear N_; obtain ⟨AS, cS, rfl⟩ := Kd.R_slice o0; have CS := M_ (Kd.R_reads' o0).2.2; have lS := M_ (Kd.R_reads' o0).2.1; clear hb o0)
 clear y0 y1 y2 y3 y4
 have y0 := (blk_cell K1.out 0).trans (show _ = some (.int .i64 ci) from rfl)
 have y1 := (blk_cell K1.out 1).trans (show _ = some (.slice Ac1 c1.length cc1) from rfl)
 have y2 := (blk_cell K1.out 2).trans (show _ = some (.slice Ac2 c2.length cc2) from rfl)
 have y3 := (blk_cell K1.out 3).trans (show _ = some (.slice Ac3 c3.length cc3) from rfl)
 have y4 := (blk_cell K1.out 4).trans (show _ = some (.slice Ac4 c4.length cc4) from rfl)
 go_upto_region 6 with ((with_reducible refine gate_callee (f := 12) rfl ?_); refine goesL_ (some 39) rfl rfl Try.func12 (by kernel_rfl) rfl #[.agg #[.int .i64 ci, .slice Ac1 c1.length cc1, .slice Ac2 c2.length cc2, .slice Ac3 c3.length cc3, .slice Ac4 c4.length cc4]] rfl (by (try simp only [List.map_toArray, List.map_cons, List.map_nil]); first | done | rfl) ?_; (with_reducible refine (constants_Pass.calls k ci Ac1 cc1 c1 Ac2 cc2 c2 Ac3 cc3 c3 Ac4 cc4 c4 xi x1 x2 x3 x4 xs xp x7 x8 x9 xA xl 0 _ ?s0 ?s1 ?s2 ?s3 ?s4 ?s5 ?s6 ?s7 HF.out.pass).mono ?_); (case s0 => exact Cc1.out); (case s1 => exact lc1.out); (case s2 => exact Cc2.out); (case s3 => exact lc2.out); (case s4 => exact Cc3.out); (case s5 => exact lc3.out); (case s6 => exact Cc4.out); (case s7 => exact lc4.out); rintro e w7 ⟨v1, v2, v3, v4, v7, v8, v9, v10, rfl, o1, o2, o3, o4, o7, o8, o9, oA, hb⟩; refine ⟨_, rfl, ?_⟩; have N_ := M_ (below_step HB.out hb); clear HB; have HB := N_; clear N_; have N_ := M_ (Kd.C_below Cc1.out hb); clear Cc1; have Cc1 := N_; clear N_; have N_ := M_ (Kd.C_below Cc2.out hb); clear Cc2; have Cc2 := N_; clear N_; have N_ := M_ (Kd.C_below Cc3.out hb); clear Cc3; have Cc3 := N_; clear N_; have N_ := M_ (Kd.C_below Cc4.out hb); clear Cc4; have Cc4 := N_; clear N_; have N_ := M_ (blk_below K1.out hb); clear K1; have K1 := N_; clear N_; have N_ := M_ (Kd.C_below CS.out hb); clear CS; have CS := N_; clear N_; clear hb; obtain ⟨Ax1, cx1, rfl⟩ := Kd.R_slice o1; have Cx1 := M_ (Kd.R_reads' o1).2.2; have lx1 := M_ (Kd.R_reads' o1).2.1; obtain ⟨Ax2, cx2, rfl⟩ := Kd.R_slice o2; have Cx2 := M_ (Kd.R_reads' o2).2.2; have lx2 := M_ (Kd.R_reads' o2).2.1; obtain ⟨Ax3, cx3, rfl⟩ := Kd.R_slice o3; have Cx3 := M_ (Kd.R_reads' o3).2.2; have lx3 := M_ (Kd.R_reads' o3).2.1; obtain ⟨Ax4, cx4, rfl⟩ := Kd.R_slice o4; have Cx4 := M_ (Kd.R_reads' o4).2.2; have lx4 := M_ (Kd.R_reads' o4).2.1; obtain ⟨Ax7, cx7, rfl⟩ := Kd.R_slice o7; obtain ⟨Ax8, cx8, rfl⟩ := Kd.S_slice o8; obtain ⟨Ax9, cx9, rfl⟩ := Kd.R_slice o9; obtain ⟨AxA, cxA, rfl⟩ := Kd.R_slice oA; clear o1 o2 o3 o4 o7 o8 o9 oA)
 clear y0 y1 y2 y3 y4
 obtain ⟨w8, hwc⟩ : ∃ x, x = w7.alloc (.cells #[.int .i64 xi, .slice Ax1 x1.length cx1, .slice Ax2 x2.length cx2, .slice Ax3 x3.length cx3, .slice Ax4 x4.length cx4, .int .i64 xs, .int .i64 xp, .slice Ax7 x7.length cx7, .slice Ax8 x8.length cx8, .slice Ax9 x9.length cx9, .slice AxA xA.length cxA, .int .i64 xl] 39) := ⟨_, rfl⟩
 have K8 : Aside0 (w8.heap[w7.heap.size]? = some (.cells #[.int .i64 xi, .slice Ax1 x1.length cx1, .slice Ax2 x2.length cx2, .slice Ax3 x3.length cx3, .slice Ax4 x4.length cx4, .int .i64 xs, .int .i64 xp, .slice Ax7 x7.length cx7, .slice Ax8 x8.length cx8, .slice Ax9 x9.length cx9, .slice AxA xA.length cxA, .int .i64 xl] 39 (0, 0))) := ⟨by rw [hwc]; exact heap_alloc_new w7 _⟩
 have hb : Below w7.heap.size w7 w8 := by rw [hwc]; exact below_alloc (Below.refl _ _) _
 have N_ := M_ (below_step HB.out hb); clear HB; have HB := N_; clear N_; have N_ := M_ (Kd.C_below Cc1.out hb); clear Cc1; have Cc1 := N_; clear N_; have N_ := M_ (Kd.C_below Cc2.out hb); clear Cc2; have Cc2 := N_; clear N_; have N_ := M_ (Kd.C_below Cc3.out hb); clear Cc3; have Cc3 := N_; clear N_; have N_ := M_ (Kd.C_below Cc4.out hb); clear Cc4; have Cc4 := N_; clear N_; have N_ := M_ (blk_below K1.out hb); clear K1; have K1 := N_; clear N_; have N_ := M_ (Kd.C_below CS.out hb); clear CS; have CS := N_; clear N_; have N_ := M_ (Kd.C_below Cx1.out hb); clear Cx1; have Cx1 := N_; clear N_; have N_ := M_ (Kd.C_below Cx2.out hb); clear Cx2; have Cx2 := N_; clear N_; have N_ := M_ (Kd.C_below Cx3.out hb); clear Cx3; have Cx3 := N_; clear N_; have N_ := M_ (Kd.C_below Cx4.out hb); clear Cx4; have Cx4 := N_; clear N_
 clear hb
 rw [← hwc]
 clear hwc
 generalize w7.heap.size = g8 at K8 ⊢
 have y0 := (blk_cell K8.out 0).trans (show _ = some (.int .i64 xi) from rfl)
 have y1 := (blk_cell K8.out 1).trans (show _ = some (.slice Ax1 x1.length cx1) from rfl)
 have y2 := (blk_cell K8.out 2).trans (show _ = some (.slice Ax2 x2.length cx2) from rfl)
 have y3 := (blk_cell K8.out 3).trans (show _ = some (.slice Ax3 x3.length cx3) from rfl)
 have y4 := (blk_cell K8.out 4).trans (show _ = some (.slice Ax4 x4.length cx4) from rfl)
 go_upto_region 7 with ((with_reducible refine gate_callee (f := 11) rfl ?_); refine goesL_ (some 45) rfl rfl Try.func11 (by kernel_rfl) rfl #[.agg #[.int .i64 xi, .slice Ax1 x1.length cx1, .slice Ax2 x2.length cx2, .slice Ax3 x3.length cx3, .slice Ax4 x4.length cx4]] rfl (by (try simp only [List.map_toArray, List.map_cons, List.map_nil]); first | done | rfl) ?_; (with_reducible refine (constants_Stay.calls k xi Ax1 cx1 x1 Ax2 cx2 x2 Ax3 cx3 x3 Ax4 cx4 x4 S 0 _ ?s0 ?s1 ?s2 ?s3 ?s4 ?s5 ?s6 ?s7 HF.out.stay2).mono ?_); (case s0 => exact Cx1.out); (case s1 => exact lx1.out); (case s2 => exact Cx2.out); (case s3 => exact lx2.out); (case s4 => exact Cx3.out); (case s5 => exact lx3.out); (case s6 => exact Cx4.out); (case s7 => exact lx4.out); rintro e w9 ⟨v, rfl, o0, hb⟩; refine ⟨_, rfl, ?_⟩; have N_ := M_ (below_step HB.out hb); clear HB; have HB := N_; clear N_; have N_ := M_ (Kd.C_below Cc1.out hb); clear Cc1; have Cc1 := N_; clear N_; have N_ := M_ (Kd.C_below Cc2.out hb); clear Cc2; have Cc2 := N_; clear N_; have N_ := M_ (Kd.C_below Cc3.out hb); clear Cc3; have Cc3 := N_; clear N_; have N_ := M_ (Kd.C_below Cc4.out hb); clear Cc4; have Cc4 := N_; clear N_; have N_ := M_ (blk_below K1.out hb); clear K1; have K1 := N_; clear N_; have N_ := M_ (Kd.C_below CS.out hb); clear CS; have CS := N_; clear N_; have N_ := M_ (Kd.C_below Cx1.out hb); clear Cx1; have Cx1 := N_; clear N_; have N_ := M_ (Kd.C_below Cx2.out hb); clear Cx2; have Cx2 := N_; clear N_; have N_ := M_ (Kd.C_below Cx3.out hb); clear Cx3; have Cx3 := N_; clear N_; have N_ := M_ (Kd.C_below Cx4.out hb); clear Cx4; have Cx4 := N_; clear N_; have N_ := M_ (blk_below K8.out hb); clear K8; have K8 := N_; clear N_; obtain ⟨AR, cR, rfl⟩ := Kd.R_slice o0; have CR := M_ (Kd.R_reads' o0).2.2; have lR := M_ (Kd.R_reads' o0).2.1; clear hb o0)
 clear y0 y1 y2 y3 y4
 have y0 := (blk_cell K8.out 0).trans (show _ = some (.int .i64 xi) from rfl)
 have y1 := (blk_cell K8.out 1).trans (show _ = some (.slice Ax1 x1.length cx1) from rfl)
 have y2 := (blk_cell K8.out 2).trans (show _ = some (.slice Ax2 x2.length cx2) from rfl)
 have y3 := (blk_cell K8.out 3).trans (show _ = some (.slice Ax3 x3.length cx3) from rfl)
 have y4 := (blk_cell K8.out 4).trans (show _ = some (.slice Ax4 x4.length cx4) from rfl)
 go_upto_region 8 with ((with_reducible refine gate_callee (f := 12) rfl ?_); refine goesL_ (some 51) rfl rfl Try.func12 (by kernel_rfl) rfl #[.agg #[.int .i64 xi, .slice Ax1 x1.length cx1, .slice Ax2 x2.length cx2, .slice Ax3 x3.length cx3, .slice Ax4 x4.length cx4]] rfl (by (try simp only [List.map_toArray, List.map_cons, List.map_nil]); first | done | rfl) ?_; (with_reducible refine (constants_Pass.calls k xi Ax1 cx1 x1 Ax2 cx2 x2 Ax3 cx3 x3 Ax4 cx4 x4 ri r1 r2 r3 r4 rs rp r7 r8 r9 rA rl 0 _ ?s0 ?s1 ?s2 ?s3 ?s4 ?s5 ?s6 ?s7 HF.out.pass2).mono ?_); (case s0 => exact Cx1.out); (case s1 => exact lx1.out); (case s2 => exact Cx2.out); (case s3 => exact lx2.out); (case s4 => exact Cx3.out); (case s5 => exact lx3.out); (case s6 => exact Cx4.out); (case s7 => exact lx4.out); rintro e w10 ⟨v1, v2, v3, v4, v7, v8, v9, v10, rfl, o1, o2, o3, o4, o7, o8, o9, oA, hb⟩; refine ⟨_, rfl, ?_⟩; have N_ := M_ (below_step HB.out hb); clear HB; have HB := N_; clear N_; have N_ := M_ (Kd.C_below Cc1.out hb); clear Cc1; have Cc1 := N_; clear N_; have N_ := M_ (Kd.C_below Cc2.out hb); clear Cc2; have Cc2 := N_; clear N_; have N_ := M_ (Kd.C_below Cc3.out hb); clear Cc3; have Cc3 := N_; clear N_; have N_ := M_ (Kd.C_below Cc4.out hb); clear Cc4; have Cc4 := N_; clear N_; have N_ := M_ (blk_below K1.out hb); clear K1; have K1 := N_; clear N_; have N_ := M_ (Kd.C_below CS.out hb); clear CS; have CS := N_; clear N_; have N_ := M_ (Kd.C_below Cx1.out hb); clear Cx1; have Cx1 := N_; clear N_; have N_ := M_ (Kd.C_below Cx2.out hb); clear Cx2; have Cx2 := N_; clear N_; have N_ := M_ (Kd.C_below Cx3.out hb); clear Cx3; have Cx3 := N_; clear N_; have N_ := M_ (Kd.C_below Cx4.out hb); clear Cx4; have Cx4 := N_; clear N_; have N_ := M_ (blk_below K8.out hb); clear K8; have K8 := N_; clear N_; have N_ := M_ (Kd.C_below CR.out hb); clear CR; have CR := N_; clear N_; clear hb; obtain ⟨Ar1, cr1, rfl⟩ := Kd.R_slice o1; have Cr1 := M_ (Kd.R_reads' o1).2.2; have lr1 := M_ (Kd.R_reads' o1).2.1; obtain ⟨Ar2, cr2, rfl⟩ := Kd.R_slice o2; have Cr2 := M_ (Kd.R_reads' o2).2.2; have lr2 := M_ (Kd.R_reads' o2).2.1; obtain ⟨Ar3, cr3, rfl⟩ := Kd.R_slice o3; have Cr3 := M_ (Kd.R_reads' o3).2.2; have lr3 := M_ (Kd.R_reads' o3).2.1; obtain ⟨Ar4, cr4, rfl⟩ := Kd.R_slice o4; have Cr4 := M_ (Kd.R_reads' o4).2.2; have lr4 := M_ (Kd.R_reads' o4).2.1; obtain ⟨Ar7, cr7, rfl⟩ := Kd.R_slice o7; obtain ⟨Ar8, cr8, rfl⟩ := Kd.S_slice o8; obtain ⟨Ar9, cr9, rfl⟩ := Kd.R_slice o9; obtain ⟨ArA, crA, rfl⟩ := Kd.R_slice oA; clear o1 o2 o3 o4 o7 o8 o9 oA)
 clear y0 y1 y2 y3 y4
 obtain ⟨w11, hwc⟩ : ∃ x, x = w10.alloc (.cells #[.int .i64 ri, .slice Ar1 r1.length cr1, .slice Ar2 r2.length cr2, .slice Ar3 r3.length cr3, .slice Ar4 r4.length cr4, .int .i64 rs, .int .i64 rp, .slice Ar7 r7.length cr7, .slice Ar8 r8.length cr8, .slice Ar9 r9.length cr9, .slice ArA rA.length crA, .int .i64 rl] 39) := ⟨_, rfl⟩
 have K10 : Aside0 (w11.heap[w10.heap.size]? = some (.cells #[.int .i64 ri, .slice Ar1 r1.length cr1, .slice Ar2 r2.length cr2, .slice Ar3 r3.length cr3, .slice Ar4 r4.length cr4, .int .i64 rs, .int .i64 rp, .slice Ar7 r7.length cr7, .slice Ar8 r8.length cr8, .slice Ar9 r9.length cr9, .slice ArA rA.length crA, .int .i64 rl] 39 (0, 0))) := ⟨by rw [hwc]; exact heap_alloc_new w10 _⟩
 have hb : Below w10.heap.size w10 w11 := by rw [hwc]; exact below_alloc (Below.refl _ _) _
 have N_ := M_ (below_step HB.out hb); clear HB; have HB := N_; clear N_; have N_ := M_ (Kd.C_below Cc1.out hb); clear Cc1; have Cc1 := N_; clear N_; have N_ := M_ (Kd.C_below Cc2.out hb); clear Cc2; have Cc2 := N_; clear N_; have N_ := M_ (Kd.C_below Cc3.out hb); clear Cc3; have Cc3 := N_; clear N_; have N_ := M_ (Kd.C_below Cc4.out hb); clear Cc4; have Cc4 := N_; clear N_; have N_ := M_ (blk_below K1.out hb); clear K1; have K1 := N_; clear N_; have N_ := M_ (Kd.C_below CS.out hb); clear CS; have CS := N_; clear N_; have N_ := M_ (Kd.C_below Cx1.out hb); clear Cx1; have Cx1 := N_; clear N_; have N_ := M_ (Kd.C_below Cx2.out hb); clear Cx2; have Cx2 := N_; clear N_; have N_ := M_ (Kd.C_below Cx3.out hb); clear Cx3; have Cx3 := N_; clear N_; have N_ := M_ (Kd.C_below Cx4.out hb); clear Cx4; have Cx4 := N_; clear N_; have N_ := M_ (blk_below K8.out hb); clear K8; have K8 := N_; clear N_; have N_ := M_ (Kd.C_below CR.out hb); clear CR; have CR := N_; clear N_; have N_ := M_ (Kd.C_below Cr1.out hb); clear Cr1; have Cr1 := N_; clear N_; have N_ := M_ (Kd.C_below Cr2.out hb); clear Cr2; have Cr2 := N_; clear N_; have N_ := M_ (Kd.C_below Cr3.out hb); clear Cr3; have Cr3 := N_; clear N_; have N_ := M_ (Kd.C_below Cr4.out hb); clear Cr4; have Cr4 := N_; clear N_
 clear hb
 rw [← hwc]
 clear hwc
 generalize w10.heap.size = g10 at K10 ⊢
 have bl : ((x1.length : Int) != (c1.length : Int)) = false := by rw [HF.out.len]; simp
 have bl2 : ((x1.length : Int) == (c1.length : Int)) = true := by rw [HF.out.len]; simp
 go_upto_region 10 with (first
  | (go_at_call 13; (with_reducible refine (spiritlevelref02_SameInts.calls k AS cS S AR cR S true _ ?s0 ?s1 ?s2 ?s3 HF.out.si).mono ?_); (case s0 => exact CS.out); (case s1 => exact lS.out); (case s2 => exact CR.out); (case s3 => exact lR.out); rintro e w12 ⟨rfl, hd⟩; have hb := Drawn0.below hd; clear hd; have N_ := M_ (below_step HB.out hb); clear HB; have HB := N_; clear N_; have N_ := M_ (Kd.C_below Cc1.out hb); clear Cc1; have Cc1 := N_; clear N_; have N_ := M_ (Kd.C_below Cc2.out hb); clear Cc2; have Cc2 := N_; clear N_; have N_ := M_ (Kd.C_below Cc3.out hb); clear Cc3; have Cc3 := N_; clear N_; have N_ := M_ (Kd.C_below Cc4.out hb); clear Cc4; have Cc4 := N_; clear N_; have N_ := M_ (blk_below K1.out hb); clear K1; have K1 := N_; clear N_; have N_ := M_ (Kd.C_below CS.out hb); clear CS; have CS := N_; clear N_; have N_ := M_ (Kd.C_below Cx1.out hb); clear Cx1; have Cx1 := N_; clear N_; have N_ := M_ (Kd.C_below Cx2.out hb); clear Cx2; have Cx2 := N_; clear N_; have N_ := M_ (Kd.C_below Cx3.out hb); clear Cx3; have Cx3 := N_; clear N_; have N_ := M_ (Kd.C_below Cx4.out hb); clear Cx4; have Cx4 := N_; clear N_; have N_ := M_ (blk_below K8.out hb); clear K8; have K8 := N_; clear N_; have N_ := M_ (Kd.C_below CR.out hb); clear CR; have CR := N_; clear N_; have N_ := M_ (Kd.C_below Cr1.out hb); clear Cr1; have Cr1 := N_; clear N_; have N_ := M_ (Kd.C_below Cr2.out hb); clear Cr2; have Cr2 := N_; clear N_; have N_ := M_ (Kd.C_below Cr3.out hb); clear Cr3; have Cr3 := N_; clear N_; have N_ := M_ (Kd.C_below Cr4.out hb); clear Cr4; have Cr4 := N_; clear N_; have N_ := M_ (blk_below K10.out hb); clear K10; have K10 := N_; clear N_; have z0 := (blk_cell K10.out 0).trans (show _ = some (.int .i64 ri) from rfl); have z1 := (blk_cell K10.out 1).trans (show _ = some (.slice Ar1 r1.length cr1) from rfl); have z2 := (blk_cell K10.out 2).trans (show _ = some (.slice Ar2 r2.length cr2) from rfl); have z3 := (blk_cell K10.out 3).trans (show _ = some (.slice Ar3 r3.length cr3) from rfl); have z4 := (blk_cell K10.out 4).trans (show _ = some (.slice Ar4 r4.length cr4) from rfl); have y0 := (blk_cell K8.out 0).trans (show _ = some (.int .i64 xi) from rfl); have y1 := (blk_cell K8.out 1).trans (show _ = some (.slice Ax1 x1.length cx1) from rfl); have y2 := (blk_cell K8.out 2).trans (show _ = some (.slice Ax2 x2.length cx2) from rfl); have y3 := (blk_cell K8.out 3).trans (show _ = some (.slice Ax3 x3.length cx3) from rfl); have y4 := (blk_cell K8.out 4).trans (show _ = some (.slice Ax4 x4.length cx4) from rfl); clear hb)
  | (go_at_call 14; (with_reducible refine (spiritlevelref02_Same.calls k ri Ar1 cr1 r1 Ar2 cr2 r2 Ar3 cr3 r3 Ar4 cr4 r4 xi Ax1 cx1 x1 Ax2 cx2 x2 Ax3 cx3 x3 Ax4 cx4 x4 true _ ?s0 ?s1 ?s2 ?s3 ?s4 ?s5 ?s6 ?s7 ?s8 ?s9 ?s10 ?s11 ?s12 ?s13 ?s14 ?s15 HF.out.sm).mono ?_); (case s0 => exact Cr1.out); (case s1 => exact lr1.out); (case s2 => exact Cr2.out); (case s3 => exact lr2.out); (case s4 => exact Cr3.out); (case s5 => exact lr3.out); (case s6 => exact Cr4.out); (case s7 => exact lr4.out); (case s8 => exact Cx1.out); (case s9 => exact lx1.out); (case s10 => exact Cx2.out); (case s11 => exact lx2.out); (case s12 => exact Cx3.out); (case s13 => exact lx3.out); (case s14 => exact Cx4.out); (case s15 => exact lx4.out); rintro e w13 ⟨rfl, hb⟩; have N_ := M_ (below_step HB.out hb); clear HB; have HB := N_; clear N_; have N_ := M_ (Kd.C_below Cc1.out hb); clear Cc1; have Cc1 := N_; clear N_; have N_ := M_ (Kd.C_below Cc2.out hb); clear Cc2; have Cc2 := N_; clear N_; have N_ := M_ (Kd.C_below Cc3.out hb); clear Cc3; have Cc3 := N_; clear N_; have N_ := M_ (Kd.C_below Cc4.out hb); clear Cc4; have Cc4 := N_; clear N_; have N_ := M_ (blk_below K1.out hb); clear K1; have K1 := N_; clear N_; have N_ := M_ (Kd.C_below CS.out hb); clear CS; have CS := N_; clear N_; have N_ := M_ (Kd.C_below Cx1.out hb); clear Cx1; have Cx1 := N_; clear N_; have N_ := M_ (Kd.C_below Cx2.out hb); clear Cx2; have Cx2 := N_; clear N_; have N_ := M_ (Kd.C_below Cx3.out hb); clear Cx3; have Cx3 := N_; clear N_; have N_ := M_ (Kd.C_below Cx4.out hb); clear Cx4; have Cx4 := N_; clear N_; have N_ := M_ (blk_below K8.out hb); clear K8; have K8 := N_; clear N_; have N_ := M_ (Kd.C_below CR.out hb); clear CR; have CR := N_; clear N_; have N_ := M_ (Kd.C_below Cr1.out hb); clear Cr1; have Cr1 := N_; clear N_; have N_ := M_ (Kd.C_below Cr2.out hb); clear Cr2; have Cr2 := N_; clear N_; have N_ := M_ (Kd.C_below Cr3.out hb); clear Cr3; have Cr3 := N_; clear N_; have N_ := M_ (Kd.C_below Cr4.out hb); clear Cr4; have Cr4 := N_; clear N_; have N_ := M_ (blk_below K10.out hb); clear K10; have K10 := N_; clear N_; clear hb y0 z0 y1 z1 y2 z2 y3 z3 y4 z4; have y0 := (blk_cell K8.out 0).trans (show _ = some (.int .i64 xi) from rfl); have y1 := (blk_cell K8.out 1).trans (show _ = some (.slice Ax1 x1.length cx1) from rfl); have y2 := (blk_cell K8.out 2).trans (show _ = some (.slice Ax2 x2.length cx2) from rfl); have y3 := (blk_cell K8.out 3).trans (show _ = some (.slice Ax3 x3.length cx3) from rfl); have y4 := (blk_cell K8.out 4).trans (show _ = some (.slice Ax4 x4.length cx4) from rfl); have z0 := (blk_cell K1.out 0).trans (show _ = some (.int .i64 ci) from rfl); have z1 := (blk_cell K1.out 1).trans (show _ = some (.slice Ac1 c1.length cc1) from rfl); have z2 := (blk_cell K1.out 2).trans (show _ = some (.slice Ac2 c2.length cc2) from rfl); have z3 := (blk_cell K1.out 3).trans (show _ = some (.slice Ac3 c3.length cc3) from rfl); have z4 := (blk_cell K1.out 4).trans (show _ = some (.slice Ac4 c4.length cc4) from rfl)))
 clear y0 z0 y1 z1 y2 z2 y3 z3 y4 z4 bl bl2 CR lR K10 Cr1 Cr2 Cr3 Cr4 lr1 lr2 lr3 lr4 Cc1 Cc2 Cc3 Cc4 lc1 lc2 lc3 lc4
 have hb : Below w13.heap.size w13 w13.drew := below_drew (Below.refl _ _)
 have N_ := M_ (below_step HB.out hb); clear HB; have HB := N_; clear N_; have N_ := M_ (blk_below K1.out hb); clear K1; have K1 := N_; clear N_; have N_ := M_ (Kd.C_below CS.out hb); clear CS; have CS := N_; clear N_; have N_ := M_ (Kd.C_below Cx1.out hb); clear Cx1; have Cx1 := N_; clear N_; have N_ := M_ (Kd.C_below Cx2.out hb); clear Cx2; have Cx2 := N_; clear N_; have N_ := M_ (Kd.C_below Cx3.out hb); clear Cx3; have Cx3 := N_; clear N_; have N_ := M_ (Kd.C_below Cx4.out hb); clear Cx4; have Cx4 := N_; clear N_; have N_ := M_ (blk_below K8.out hb); clear K8; have K8 := N_; clear N_
 clear hb
 refine wp_region_last_drew (S := fun W => W.cell? ⟨g8, 3, none⟩ = some (.slice Ax3 x3.length cx3) ∧ W.cell? ⟨g8, 4, none⟩ = some (.slice Ax4 x4.length cx4)) (ds := []) (by kernel_rfl) ⟨(blk_cell K8.out 3).trans rfl, (blk_cell K8.out 4).trans rfl⟩ (fun hH => ?_)
 generalize w13.drew = wB at HB K1 CS Cx1 Cx2 Cx3 Cx4 K8 hH ⊢
 have HBB := M_ (Below.refl wB.heap.size wB)
 iterate 6 (refine tk_ [1,2,5,6,3,7,0,4,8,9] (v := ?_) (by simp; rfl) (by kernel_rfl) (by exact fun _ _ _ h => h) (Or.inl ⟨by rfl, ?_⟩) hH ?_; rotate_left; (intro _ hS; obtain ⟨s3, s4⟩ := hS; go_simp; (try with_reducible rfl)); simp only [Act.put, e1_, e2_, e3_])
 refine os_ 0 (by simp; rfl) (by kernel_rfl) (fun K hK => ?_)
 refine Kd.R_lit_step (Kd.int .i64) _ 3 ?hg (N := 92) ?hd (xs := ([] : List Int)) (inner := []) (ok := fun _ => True) (okp := fun _ => True) ?hr ?hp (fun _ hk => hk) trivial (Below.refl _ _) (Nat.le_refl _) (by simp) ?_; (case hd => rfl); (case hg => rfl); (case hr => first | (go_simp; done) | (go_simp; rfl)); (case hp => exact (Reps.none _ _))
 intro v1 we ho hb hg hn
 have HO := M_ ho
 have N_ := M_ (below_step HBB.out hb)
 clear HBB ho hg hn hb
 have HBB := N_
 clear N_
 refine hK.out _ _ ⟨(blk_cell (blk_below K8.out HBB.out) 3).trans rfl, (blk_cell (blk_below K8.out HBB.out) 4).trans rfl⟩ (fun hH => ?_)
 clear hK K
 refine os_ 4 (by simp; rfl) (by kernel_rfl) (fun K hK => ?_)
 refine Kd.R_append_rows_step (Kd.int .i64) (w0 := wB) wB.heap.size (by rfl) (.tmp 92) (.tmp 95) 24 3 (.int .i64 0) 8 rfl Try.underlying24 info3 rfl (by decide) (by omega) _ [] x3 _ _ _ (fun _ => True) (fun _ => False) rfl rfl ?aO ?aR (fun _ _ h => h) (fun _ h => h.elim) ?aF ?aB ?aS ?aL ?_
 case aO => exact HO.out
 case aR => exact Kd.C_below Cx3.out HBB.out
 case aF => exact fun _ _ => trivial
 case aB => exact HBB.out
 case aS => exact below_size HBB.out
 case aL => have := HF.out.few; simp only [List.length_append, List.length_nil]; omega
 intro v2 we2 ho hb hg hat
 clear HO HBB
 have HO := M_ ho
 have HBB := M_ hb
 clear ho hb hg hat
 refine hK.out _ _ ⟨(blk_cell (blk_below K8.out HBB.out) 3).trans rfl, (blk_cell (blk_below K8.out HBB.out) 4).trans rfl⟩ (fun hH => ?_)
 clear hK K
 refine os_ 8 (by simp; rfl) (by kernel_rfl) (fun K hK => ?_)
 refine Kd.R_append_rows_step (Kd.int .i64) (w0 := wB) wB.heap.size (by rfl) (.tmp 96) (.tmp 99) 24 3 (.int .i64 0) 8 rfl Try.underlying24 info3 rfl (by decide) (by omega) _ ([] ++ x3) x4 _ _ _ (fun _ => True) (fun _ => False) rfl rfl ?aO ?aR (fun _ _ h => h) (fun _ h => h.elim) ?aF ?aB ?aS ?aL ?_
 case aO => exact HO.out
 case aR => exact Kd.C_below Cx4.out HBB.out
 case aF => exact fun _ _ => trivial
 case aB => exact HBB.out
 case aS => exact below_size HBB.out
 case aL => have := HF.out.few; simp only [List.length_append, List.length_nil]; omega
 intro v2 we2 ho hb hg hat
 clear HO HBB
 have HO := M_ ho
 have HBB := M_ hb
 clear ho hb hg hat
 refine hK.out _ _ ⟨(blk_cell (blk_below K8.out HBB.out) 3).trans rfl, (blk_cell (blk_below K8.out HBB.out) 4).trans rfl⟩ (fun hH => ?_)
 clear hK K
 iterate 1 (refine tk_ [1,2,5,6,3,7,0,4,8,9] (v := ?_) (by simp; rfl) (by kernel_rfl) (by exact fun _ _ _ h => h) (Or.inl ⟨by rfl, ?_⟩) hH ?_; rotate_left; (intro _ hS; obtain ⟨s3, s4⟩ := hS; go_simp; (try with_reducible rfl)); simp only [Act.put, e1_, e2_, e3_])
 refine wpAnyLast_done (by kernel_rfl) ?_ _
 clear hH
 rw [List.nil_append] at HO
 generalize v2 = va at HO ⊢
 have HLA : Aside0 ((x3 ++ x4).length ≤ 2000) := ⟨by have := HF.out.few; rw [List.length_append]; omega⟩
 generalize we2 = wC at HO HBB ⊢
 go_upto_block 0 with fail
 go_cut [12] (fun v12 wx => ∃ wD : World, wD = wx ∧ Aside0 (Below wB.heap.size wB wD) ∧ Aside0 (Kd.R (Kd.int .i64) 3 wD wB.heap.size (fun _ => True) v12 (x3 ++ x4 ++ x1.map fun x => x.f0)))
 case first =>
  go_wp2
  go_loopg [12, 13] (x1.length + 1) (fun kq v12 v13 w' => ∃ i : Nat, v13 = .int .i64 (i : Int) ∧ Aside0 (i ≤ x1.length ∧ kq + i = x1.length + 1) ∧ Aside0 (Below wB.heap.size wB w') ∧ Aside0 (Kd.R (Kd.int .i64) 3 w' wB.heap.size (fun _ => True) v12 (x3 ++ x4 ++ (x1.take i).map fun x => x.f0)))
  case atStart => exact ⟨0, rfl, ⟨by omega, by omega⟩, HBB, ⟨by have := HO.out; simpa using this⟩⟩
  case round =>
   clear HBB HO
   obtain ⟨i, rfl, HI, HBB, HO⟩ := hrel
   have y1 := (blk_cell (blk_below K8.out HBB.out) 1).trans (show _ = some (.slice Ax1 x1.length cx1) from rfl)
   by_cases c : i < x1.length
   ·have cb : decide (i < x1.length) = true := decide_eq_true c
    have HC := M_ c
    have p0 : (0 : Int) ≤ (i : Int) := by omega
    have p1 : (i : Int) < (x1.length : Int) := by omega
    obtain ⟨ad, rfl, hx0, hx1⟩ := at_T45 (Kd.C_below Cx1.out HBB.out) (i : Int) p0 p1
    have er : rd_T45 x1 (i : Int) = x1[i] := by simp [rd_T45, List.getD, c]
    have HN : Aside0 (x3 ++ x4 ++ ((x1.take (i + 1)).map fun x => x.f0) = (x3 ++ x4 ++ ((x1.take i).map fun x => x.f0)) ++ [(rd_T45 x1 (i : Int)).f0]) := ⟨by rw [List.take_succ_eq_append_getElem c, List.map_append, er]; simp⟩
    have HLE : Aside0 ((x3 ++ x4 ++ ((x1.take i).map fun x => x.f0)).length ≤ 3000) := ⟨by have := HF.out.few; simp only [List.length_append, List.length_map, List.length_take] at *; omega⟩
    clear er hx1
    rw [Int.toNat_natCast] at hx0
    have EW := M_ (show wrap64 ((i : Int) + 1) = ((i + 1 : Nat) : Int) by have h1 := HF.out.few; unfold wrap64; omega)
    generalize (rd_T45 x1 (i : Int)).f0 = q at hx0 HN
    generalize ho_ : (x3 ++ x4 ++ ((x1.take i).map fun x => x.f0)) = acc at HN HLE HO
    clear ho_
    go_wp2_with ((with_reducible refine gate_builtin (b := .append) (xs := #[.tmp 109, .tmp 117]) rfl ?_); at_builtin; refine Kd.R_append (Kd.int .i64) (w0 := wB) wB.heap.size rfl (.tmp 109) (.tmp 117) 24 3 (.int .i64 0) 8 rfl Try.underlying24 info3 rfl (by decide) (by omega) u12 acc q [.int .i64 q] (fun _ => True) (fun _ => False) rfl rfl ?aP (fun _ hk => hk.elim) ?aF ?aO ?aB ?aS ?aL ?_; (case aP => exact rfl); (case aB => exact HBB.out); (case aF => exact (fun _ _ => trivial)); (case aO => exact HO.out); (case aS => exact below_size HBB.out); (case aL => have h1 := HLE.out; omega); intro vn wn ho hb hg hat; rw [← HN.out] at ho; have HO3 := M_ ho; have HB3 := M_ hb; (try clear ho); (try clear hb); (try clear hg); (try clear hat))
    go_roundg (gk - 1)
    case rel => exact ⟨i + 1, congrArg (Value.int .i64) EW.out, ⟨by have := HC.out; omega, by have := HI.out; have := HC.out; omega⟩, HB3, HO3⟩
    case measure => have := HI.out; have := HC.out; omega
   ·have cb : decide (i < x1.length) = false := decide_eq_false c
    have ei : i = x1.length := by have := HI.out; omega
    subst ei
    go_wp2
    go_meet
    exact ⟨_, rfl, HBB, ⟨by have := HO.out; rw [List.take_length] at this; exact this⟩⟩
 case rest =>
  clear HBB HO
  obtain ⟨wD, ew, HBB, HO⟩ := hcut
  subst ew
  obtain ⟨AA, cA, rfl⟩ := Kd.R_slice HO.out
  have CA := M_ (Kd.R_reads' HO.out).2.2
  have lA := M_ (Kd.R_reads' HO.out).2.1
  have N_ := M_ (below_step HB.out HBB.out); clear HB; have HB := N_; clear N_; have N_ := M_ (blk_below K1.out HBB.out); clear K1; have K1 := N_; clear N_; have N_ := M_ (Kd.C_below CS.out HBB.out); clear CS; have CS := N_; clear N_; have N_ := M_ (Kd.C_below Cx1.out HBB.out); clear Cx1; have Cx1 := N_; clear N_; have N_ := M_ (Kd.C_below Cx2.out HBB.out); clear Cx2; have Cx2 := N_; clear N_; have N_ := M_ (Kd.C_below Cx3.out HBB.out); clear Cx3; have Cx3 := N_; clear N_; have N_ := M_ (Kd.C_below Cx4.out HBB.out); clear Cx4; have Cx4 := N_; clear N_; have N_ := M_ (blk_below K8.out HBB.out); clear K8; have K8 := N_; clear N_
  clear HBB HO HLA
  have HCN := M_ HF.out.cone
  have HLN : Aside0 ((x3 ++ x4 ++ x1.map fun x => x.f0).length ≤ 3000) := ⟨by have := HF.out.few; simp only [List.length_append, List.length_map]; omega⟩
  generalize (x3 ++ x4 ++ x1.map fun x => x.f0) = all at CA lA HCN HLN ⊢
  go_wp2
  go_loopg [14, 15, 16, 17, 18] (all.length + 1) (fun kq v14 v15 v16 v17 v18 w' => ∃ j : Nat, v14 = .int .i64 (j : Int) ∧ Aside0 (j ≤ all.length ∧ kq + j = all.length + 1) ∧ Aside0 (Below wD.heap.size wD w'))
  case atStart => exact ⟨0, rfl, ⟨by omega, by omega⟩, ⟨Below.refl _ _⟩⟩
  case round =>
   obtain ⟨j, rfl, HI, HBD⟩ := hrel
   by_cases c : j < all.length
   ·have cb : decide (j < all.length) = true := decide_eq_true c
    have HC := M_ c
    have p0 : (0 : Int) ≤ (j : Int) := by omega
    have p1 : (j : Int) < (all.length : Int) := by omega
    obtain ⟨ad, e7, hx0⟩ := Kd.at_int CA.out (j : Int) p0 p1
    have er : rd all (j : Int) = all[j] := by simp [rd, List.getD, c]
    rw [Int.toNat_natCast, er] at hx0
    have hcn := HCN.out all[j] (List.getElem_mem c)
    have EW := M_ (show wrap64 ((j : Int) + 1) = ((j + 1 : Nat) : Int) by have h1 := HLN.out; unfold wrap64; omega)
    generalize all[j] = l at hx0 hcn
    obtain ⟨C, hC, hCl, hCx⟩ := hcn
    have HX := M_ hx0
    have HCC := M_ hC
    have HCL := M_ hCl
    have HCX := M_ hCx
    subst e7
    clear hx0 hC hCl hCx er
    go_upto_region 18 with fail
    refine wp_region_last_drew (S := fun W => W.cell? ⟨g8, 0, none⟩ = some (.int .i64 xi) ∧ W.cell? ⟨g8, 1, none⟩ = some (.slice Ax1 x1.length cx1) ∧ W.cell? ⟨g8, 2, none⟩ = some (.slice Ax2 x2.length cx2) ∧ W.cell? ⟨g8, 3, none⟩ = some (.slice Ax3 x3.length cx3) ∧ W.cell? ⟨g8, 4, none⟩ = some (.slice Ax4 x4.length cx4) ∧ W.cell? (ad.add j) = some (.int .i64 l)) (ds := []) (by kernel_rfl) ⟨(blk_cell (blk_drew (blk_below K8.out HBD.out)) 0).trans rfl, (blk_cell (blk_drew (blk_below K8.out HBD.out)) 1).trans rfl, (blk_cell (blk_drew (blk_below K8.out HBD.out)) 2).trans rfl, (blk_cell (blk_drew (blk_below K8.out HBD.out)) 3).trans rfl, (blk_cell (blk_drew (blk_below K8.out HBD.out)) 4).trans rfl, pw_cell_below (below_drew HBD.out) HX.out⟩ (fun hH => ?_)
    have HBD2 := M_ (below_drew HBD.out)
    clear HBD
    have HBD := HBD2
    clear HBD2

    iterate 6 (refine tk_ [0,2,3,4,1,5,6,7,8,9,10,11] (v := ?_) (by simp; rfl) (by kernel_rfl) (by exact fun _ _ _ h => h) (Or.inl ⟨by rfl, ?_⟩) hH ?_; rotate_left; (intro _ hS; obtain ⟨s0, s1, s2, s3, s4, s5⟩ := hS; go_simp; (try with_reducible rfl)); simp only [Act.put, e1_, e2_, e3_])
    refine os_ 6 (by simp; rfl) (by kernel_rfl) (fun K hK => ?_)
    refine goes_ Try.func15 (by kernel_rfl) rfl #[.agg #[.int .i64 xi, .slice Ax1 x1.length cx1, .slice Ax2 x2.length cx2, .slice Ax3 x3.length cx3, .slice Ax4 x4.length cx4], .int .i64 l] (by rfl) rfl rfl (by (try simp only [List.map_toArray, List.map_cons, List.map_nil]); first | done | rfl) ?_
    with_reducible refine (gates_Cone.calls k xi Ax1 cx1 x1 Ax2 cx2 x2 Ax3 cx3 x3 Ax4 cx4 x4 l C 0 _ ?s0 ?s1 ?s2 ?s3 ?s4 ?s5 ?s6 ?s7 HCC.out).mono ?_
    case s0 => exact Kd.C_below Cx1.out HBD.out
    case s1 => exact lx1.out
    case s2 => exact Kd.C_below Cx2.out HBD.out
    case s3 => exact lx2.out
    case s4 => exact Kd.C_below Cx3.out HBD.out
    case s5 => exact lx3.out
    case s6 => exact Kd.C_below Cx4.out HBD.out
    case s7 => exact lx4.out
    rintro e wE ⟨v0, rfl, ho, hb⟩
    refine ⟨_, rfl, ?_⟩
    obtain ⟨AC, cC, rfl⟩ := Kd.R_slice ho
    have CC := M_ (Kd.R_reads' ho).2.2
    have HBE := M_ (below_step HBD.out hb)
    clear ho hb HBD
    refine hK.out _ _ ⟨(blk_cell (blk_below K8.out HBE.out) 0).trans rfl, (blk_cell (blk_below K8.out HBE.out) 1).trans rfl, (blk_cell (blk_below K8.out HBE.out) 2).trans rfl, (blk_cell (blk_below K8.out HBE.out) 3).trans rfl, (blk_cell (blk_below K8.out HBE.out) 4).trans rfl, pw_cell_below HBE.out HX.out⟩ (fun hH => ?_)
    clear hK K
    iterate 5 (refine tk_ [0,2,3,4,1,5,6,7,8,9,10,11] (v := ?_) (by simp; rfl) (by kernel_rfl) (by exact fun _ _ _ h => h) (Or.inl ⟨by rfl, ?_⟩) hH ?_; rotate_left; (intro _ hS; obtain ⟨s0, s1, s2, s3, s4, s5⟩ := hS; go_simp; (try with_reducible rfl)); simp only [Act.put, e1_, e2_, e3_])
    refine wpAnyLast_done (by kernel_rfl) ?_ _
    clear hH
    obtain ⟨gj, hgj⟩ : ∃ x, x = gk := ⟨gk, rfl⟩
    have HGJ := M_ hgj
    clear hgj
    go_wp2
    go_loopg [17, 18] (C.length + 1) (fun kq v17 v18 w' => ∃ i : Nat, v17 = .int .i64 (i : Int) ∧ Aside0 (i ≤ C.length ∧ kq + i = C.length + 1) ∧ Aside0 (Below wE.heap.size wE w'))
    case atStart => exact ⟨0, rfl, ⟨by omega, by omega⟩, ⟨Below.refl _ _⟩⟩
    case round =>
     obtain ⟨i, rfl, HI2, HBG⟩ := hrel
     by_cases c2 : i < C.length
     ·have cb2 : decide (i < C.length) = true := decide_eq_true c2
      have HC2 := M_ c2
      have q0 : (0 : Int) ≤ (i : Int) := by omega
      have q1 : (i : Int) < (C.length : Int) := by omega
      obtain ⟨ae, e8, hy0⟩ := Kd.at_int CC.out (i : Int) q0 q1
      have er : rd C (i : Int) = C[i] := by simp [rd, List.getD, c2]
      rw [Int.toNat_natCast, er] at hy0
      have hcx := HCX.out C[i] (List.getElem_mem c2)
      have EW2 := M_ (show wrap64 ((i : Int) + 1) = ((i + 1 : Nat) : Int) by have h1 := HCL.out; unfold wrap64; omega)
      generalize C[i] = y at hy0 hcx
      have HY := M_ hy0
      have HYX := M_ hcx
      subst e8
      clear hy0 hcx er
      obtain ⟨gi, hgi⟩ : ∃ x, x = gk := ⟨gk, rfl⟩
      have HGI := M_ hgi
      clear hgi
      go_wp2
      go_loopg [18] (S.length + 1) (fun kq v18 w' => ∃ n : Nat, v18 = .int .i64 (n : Int) ∧ Aside0 (n ≤ S.length ∧ kq + n = S.length + 1) ∧ Aside0 (Below wE.heap.size wE w'))
      case atStart => exact ⟨0, rfl, ⟨by omega, by omega⟩, HBG⟩
      case round =>
       clear HBG
       obtain ⟨n, rfl, HI3, HBG⟩ := hrel
       by_cases c3 : n < S.length
       ·have cb3 : decide (n < S.length) = true := decide_eq_true c3
        have HC3 := M_ c3
        have r0 : (0 : Int) ≤ (n : Int) := by omega
        have r1_ : (n : Int) < (S.length : Int) := by omega
        obtain ⟨af, e9, hz0⟩ := Kd.at_int (Kd.C_below CS.out (below_step HBE.out HBG.out)) (n : Int) r0 r1_
        have er : rd S (n : Int) = S[n] := by simp [rd, List.getD, c3]
        rw [Int.toNat_natCast, er] at hz0
        have hin := HF.out.inS S[n] (List.getElem_mem c3)
        have hne := HYX.out S[n] (List.getElem_mem c3)
        have EW3 := M_ (show wrap64 ((n : Int) + 1) = ((n + 1 : Nat) : Int) by have h1 := HF.out.few; unfold wrap64; omega)
        generalize S[n] = sn at hz0 hin hne
        subst e9
        have hy := pw_cell_below HBG.out HY.out
        have hk1 := (blk_cell (blk_below K1.out (below_step HBE.out HBG.out)) 0).trans (show _ = some (.int .i64 ci) from rfl)
        have u1 : wrap64 (ci + 1) = ci + 1 := by have h1 := HF.out.few; unfold wrap64; omega
        have u2 : wrap64 (ci + 1 + sn) = ci + 1 + sn := by have h1 := HF.out.few; unfold wrap64; omega
        have u3 : (y == ci + 1 + sn) = false := beq_eq_false_iff_ne.mpr hne
        clear er hin hne
        go_upto_region 27 with fail
        go_region
        all_goals (
         go_wp2
         go_roundg (gk - 1)
         case measure => have := HI3.out; have := HC3.out; omega
         case rel => exact ⟨n + 1, congrArg (Value.int .i64) EW3.out, ⟨by have := HC3.out; omega, by have := HI3.out; have := HC3.out; omega⟩, ⟨below_drew HBG.out⟩⟩)
       ·have cb3 : decide (n < S.length) = false := decide_eq_false c3
        go_wp2
        go_roundg (gi - 1)
        case measure => have := HI2.out; have := HC2.out; have := HGI.out; omega
        case rel => exact ⟨i + 1, congrArg (Value.int .i64) EW2.out, ⟨by have := HC2.out; omega, by have := HI2.out; have := HC2.out; have := HGI.out; omega⟩, HBG⟩
     ·have cb2 : decide (i < C.length) = false := decide_eq_false c2
      go_wp2
      go_roundg (gj - 1)
      case measure => have := HI.out; have := HC.out; have := HGJ.out; omega
      case rel => exact ⟨j + 1, congrArg (Value.int .i64) EW.out, ⟨by have := HC.out; omega, by have := HI.out; have := HC.out; have := HGJ.out; omega⟩, ⟨below_step HBE.out HBG.out⟩⟩
   ·have cb : decide (j < all.length) = false := decide_eq_false c
    go_wp2
    go_ret
    exact ⟨rfl, below_step HB.out HBD.out⟩
end Go.Proofs.Ytlgoniocoifjjaa.QConstantsConesW
