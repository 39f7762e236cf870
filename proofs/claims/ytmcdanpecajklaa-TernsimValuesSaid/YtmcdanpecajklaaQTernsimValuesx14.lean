-- Made by wip/myprint.sh (a patched print): a text of this session's own.
import Derived.Test.YtmcdanpecajklaaLay
import Derived.Test.YtmcdanpecajklaaQTernsimValuesx0
import Derived.Test.YtmcdanpecajklaaQTernsimValuesx1
import Derived.Test.YtmcdanpecajklaaQTernsimValuesx5
import Derived.Test.YtmcdanpecajklaaQTernsimValuesx13
namespace Go.Proofs.Ytmcdanpecajklaa.QTernsimValues
open Go.RowKit Go.Proofs.YtmcdanpecajklaaW.PrintWords Go.Proofs.YtmcdanpecajklaaW.PrintLast Go.Proofs.YtmcdanpecajklaaW.PrintMore
attribute [local go_sem] max2_int min2_int max_two min_two max_three min_three max_four min_four
set_option linter.unusedVariables false
set_option linter.unusedSimpArgs false

def spiritlevelref04_Asked.f (k : Nat) (a0_0 : Int) (l0_1 : List (S36)) (l0_2 : List (S69)) (l0_3 : List Int) (l0_4 : List Int) (l1 : List Bool) (l2 : List Bool) : Option (Int) := (spiritlevelref02_Check.f k a0_0 l0_1 l0_2 l0_3 l0_4).bind fun t317 => (if t317 = 0 then (if (l1.length : Int) = (l0_1.length : Int) then (if (l2.length : Int) = a0_0 then (some 0) else (some 2)) else (some 2)) else ((spiritlevelref02_Check.f k a0_0 l0_1 l0_2 l0_3 l0_4).bind fun t318 => (some t318)))
set_option maxHeartbeats 8000000 in
set_option maxRecDepth 100000 in
theorem spiritlevelref04_Asked.calls (k : Nat) (a0_0 : Int) (A0_1 : Option Addr) (c0_1 : Nat) (l0_1 : List (S36)) (A0_2 : Option Addr) (c0_2 : Nat) (l0_2 : List (S69)) (A0_3 : Option Addr) (c0_3 : Nat) (l0_3 : List Int) (A0_4 : Option Addr) (c0_4 : Nat) (l0_4 : List Int) (A1 : Option Addr) (c1 : Nat) (l1 : List Bool) (A2 : Option Addr) (c2 : Nat) (l2 : List Bool) (r : Int) (w : World) (hr0_1 : Kd.C k36 w A0_1 l0_1.length l0_1) (hc0_1 : l0_1.length ≤ c0_1) (hr0_2 : Kd.C k69 w A0_2 l0_2.length l0_2) (hc0_2 : l0_2.length ≤ c0_2) (hr0_3 : Kd.C (Kd.int .i64) w A0_3 l0_3.length l0_3) (hc0_3 : l0_3.length ≤ c0_3) (hr0_4 : Kd.C (Kd.int .i64) w A0_4 l0_4.length l0_4) (hc0_4 : l0_4.length ≤ c0_4) (hr1 : Kd.C Kd.bool w A1 l1.length l1) (hc1 : l1.length ≤ c1) (hr2 : Kd.C Kd.bool w A2 l2.length l2) (hc2 : l2.length ≤ c2) (h : spiritlevelref04_Asked.f k a0_0 l0_1 l0_2 l0_3 l0_4 l1 l2 = some r) :
  Calls Try.prog 11 #[.agg #[.int .i64 a0_0, .slice A0_1 l0_1.length c0_1, .slice A0_2 l0_2.length c0_2, .slice A0_3 l0_3.length c0_3, .slice A0_4 l0_4.length c0_4], .slice A1 l1.length c1, .slice A2 l2.length c2] w fun e w' => e = .returned (.int .i64 r) ∧ Below w.heap.size w w' := by
 have hu26 := Try.underlying26
 have HR0_1 := M_ hr0_1
 have HC0_1 := M_ hc0_1
 clear hr0_1 hc0_1
 have HR0_2 := M_ hr0_2
 have HC0_2 := M_ hc0_2
 clear hr0_2 hc0_2
 have HR0_3 := M_ hr0_3
 have HC0_3 := M_ hc0_3
 clear hr0_3 hc0_3
 have HR0_4 := M_ hr0_4
 have HC0_4 := M_ hc0_4
 clear hr0_4 hc0_4
 have HR1 := M_ hr1
 have HC1 := M_ hc1
 clear hr1 hc1
 have HR2 := M_ hr2
 have HC2 := M_ hc2
 clear hr2 hc2
 have HB := M_ (Below.refl w.heap.size w)
 have H : ((spiritlevelref02_Check.f k a0_0 l0_1 l0_2 l0_3 l0_4).bind fun t317 => (if t317 = 0 then (if (l1.length : Int) = (l0_1.length : Int) then (if (l2.length : Int) = a0_0 then (some 0) else (some 2)) else (some 2)) else ((spiritlevelref02_Check.f k a0_0 l0_1 l0_2 l0_3 l0_4).bind fun t318 => (some t318)))) = some r := h
 clear h
 replace H := Option.bind_eq_some_iff.mp H
 obtain ⟨t317, A40, H⟩ := H
 replace H : (if t317 = 0 then (if (l1.length : Int) = (l0_1.length : Int) then (if (l2.length : Int) = a0_0 then (some 0) else (some 2)) else (some 2)) else ((spiritlevelref02_Check.f k a0_0 l0_1 l0_2 l0_3 l0_4).bind fun t318 => (some t318))) = some r := H
 have A4 := M_ A40
 clear A40
 by_cases c5 : t317 = 0
 ·rw [if_pos c5] at H
  have c5b0 : (t317 == 0) = true := beq_iff_eq.mpr c5
  have c5b1 : (t317 != 0) = false := bne_eq_false_iff_eq.mpr c5
  clear c5
  by_cases c6 : (l1.length : Int) = (l0_1.length : Int)
  ·rw [if_pos c6] at H
   have c6b0 : ((l1.length : Int) == (l0_1.length : Int)) = true := beq_iff_eq.mpr c6
   have c6b1 : ((l1.length : Int) != (l0_1.length : Int)) = false := bne_eq_false_iff_eq.mpr c6
   have c6b2 : (l1.length == l0_1.length) = true := by first | simpa using c6 | (simp at c6 ⊢; omega)
   clear c6
   by_cases c7 : (l2.length : Int) = a0_0
   ·rw [if_pos c7] at H
    have c7b0 : ((l2.length : Int) == a0_0) = true := beq_iff_eq.mpr c7
    have c7b1 : ((l2.length : Int) != a0_0) = false := bne_eq_false_iff_eq.mpr c7
    clear c7
    obtain rfl := Option.some.inj H
    go_enter Try.func11, Try.ntmps11
    go_wp2_with (first | ((with_reducible refine gate_dst (N := 3) rfl ?_); (try (refine gate_guard (by rfl) ?_; dsimp only)); refine box_event ?hg (N := 3) ?hd (cs := #[.int .i64 a0_0, .slice A0_1 l0_1.length c0_1, .slice A0_2 l0_2.length c0_2, .slice A0_3 l0_3.length c0_3, .slice A0_4 l0_4.length c0_4]) (t := 26) ?hr ?_; (case hd => rfl); (case hg => rfl); (case hr => first | (go_simp; done) | (go_simp; rfl)); intro gb316 hg w8 hbox hb; have n1_ := M_ (hbox); have n2_ := M_ ((by rw [hg]; exact (below_size (wl_ HB.out)) : w.heap.size ≤ gb316)); have n3_ := M_ ((by rw [hg]; exact (below_size (wl_ HB.out)) : w.heap.size ≤ gb316)); replace HB := wb_ HB hb; have BK316 := n1_; have GW316 := n2_; have GE316 := n3_; have gi316 : Ge _ _ := ⟨GE316.out⟩; clear n1_ n2_ n3_; clear hb hbox hg; obtain ⟨hcz9_0, hcz9_1, hcz9_2, hcz9_3, hcz9_4⟩ := cz5_ BK316.out; have hfz9_0 := blk_frozen BK316.out 0; have hfz9_1 := blk_frozen BK316.out 1; have hfz9_2 := blk_frozen BK316.out 2; have hfz9_3 := blk_frozen BK316.out 3; have hfz9_4 := blk_frozen BK316.out 4) | ((with_reducible refine gate_callee (f := 40) rfl ?_); refine goesL_ (some 8) rfl rfl Try.func40 (by kernel_rfl) rfl #[.agg #[.int .i64 a0_0, .slice A0_1 l0_1.length c0_1, .slice A0_2 l0_2.length c0_2, .slice A0_3 l0_3.length c0_3, .slice A0_4 l0_4.length c0_4]] rfl (by (try simp only [List.map_toArray, List.map_cons, List.map_nil]); first | done | rfl) ?_; (with_reducible refine (spiritlevelref02_Check.calls k a0_0 _ _ l0_1 _ _ l0_2 _ _ l0_3 _ _ l0_4 t317 _ ?side1 ?side2 ?side3 ?side4 ?side5 ?side6 ?side7 ?side8 A4.out).mono ?_); (case side1 => exact cl_ (Kd.C_below HR0_1.out HB.out)); (case side2 => exact HC0_1.out); (case side3 => exact cl_ (Kd.C_below HR0_2.out HB.out)); (case side4 => exact HC0_2.out); (case side5 => exact cl_ (Kd.C_below HR0_3.out HB.out)); (case side6 => exact HC0_3.out); (case side7 => exact cl_ (Kd.C_below HR0_4.out HB.out)); (case side8 => exact HC0_4.out); rintro e w10 ⟨rfl, hb⟩; refine ⟨_, rfl, ?_⟩; replace BK316 := bb_ BK316 hb; replace HB := wb_ HB hb; (try clear hb); (try clear hb2); (try clear hk); (try clear hi); obtain ⟨hcz11_0, hcz11_1, hcz11_2, hcz11_3, hcz11_4⟩ := cz5_ BK316.out; have hfz11_0 := blk_frozen BK316.out 0; have hfz11_1 := blk_frozen BK316.out 1; have hfz11_2 := blk_frozen BK316.out 2; have hfz11_3 := blk_frozen BK316.out 3; have hfz11_4 := blk_frozen BK316.out 4))
    go_ret
    exact ⟨by first | rfl | (simp [errW_none, errW_some] <;> rfl) | (simp [*, errW_none, errW_some] <;> rfl), by repeat (first | (with_reducible first | exact HB.out | apply b0_ | apply b1_ | apply b2_ | refine below_set ?_ GE316.out) | exact HB.out)⟩
   ·rw [if_neg c7] at H
    have c7b0 : ((l2.length : Int) == a0_0) = false := beq_eq_false_iff_ne.mpr c7
    have c7b1 : ((l2.length : Int) != a0_0) = true := bne_iff_ne.mpr c7
    obtain rfl := Option.some.inj H
    go_enter Try.func11, Try.ntmps11
    go_wp2_with (first | ((with_reducible refine gate_dst (N := 3) rfl ?_); (try (refine gate_guard (by rfl) ?_; dsimp only)); refine box_event ?hg (N := 3) ?hd (cs := #[.int .i64 a0_0, .slice A0_1 l0_1.length c0_1, .slice A0_2 l0_2.length c0_2, .slice A0_3 l0_3.length c0_3, .slice A0_4 l0_4.length c0_4]) (t := 26) ?hr ?_; (case hd => rfl); (case hg => rfl); (case hr => first | (go_simp; done) | (go_simp; rfl)); intro gb316 hg w12 hbox hb; have n1_ := M_ (hbox); have n2_ := M_ ((by rw [hg]; exact (below_size (wl_ HB.out)) : w.heap.size ≤ gb316)); have n3_ := M_ ((by rw [hg]; exact (below_size (wl_ HB.out)) : w.heap.size ≤ gb316)); replace HB := wb_ HB hb; have BK316 := n1_; have GW316 := n2_; have GE316 := n3_; have gi316 : Ge _ _ := ⟨GE316.out⟩; clear n1_ n2_ n3_; clear hb hbox hg; obtain ⟨hcz13_0, hcz13_1, hcz13_2, hcz13_3, hcz13_4⟩ := cz5_ BK316.out; have hfz13_0 := blk_frozen BK316.out 0; have hfz13_1 := blk_frozen BK316.out 1; have hfz13_2 := blk_frozen BK316.out 2; have hfz13_3 := blk_frozen BK316.out 3; have hfz13_4 := blk_frozen BK316.out 4) | ((with_reducible refine gate_callee (f := 40) rfl ?_); refine goesL_ (some 8) rfl rfl Try.func40 (by kernel_rfl) rfl #[.agg #[.int .i64 a0_0, .slice A0_1 l0_1.length c0_1, .slice A0_2 l0_2.length c0_2, .slice A0_3 l0_3.length c0_3, .slice A0_4 l0_4.length c0_4]] rfl (by (try simp only [List.map_toArray, List.map_cons, List.map_nil]); first | done | rfl) ?_; (with_reducible refine (spiritlevelref02_Check.calls k a0_0 _ _ l0_1 _ _ l0_2 _ _ l0_3 _ _ l0_4 t317 _ ?side1 ?side2 ?side3 ?side4 ?side5 ?side6 ?side7 ?side8 A4.out).mono ?_); (case side1 => exact cl_ (Kd.C_below HR0_1.out HB.out)); (case side2 => exact HC0_1.out); (case side3 => exact cl_ (Kd.C_below HR0_2.out HB.out)); (case side4 => exact HC0_2.out); (case side5 => exact cl_ (Kd.C_below HR0_3.out HB.out)); (case side6 => exact HC0_3.out); (case side7 => exact cl_ (Kd.C_below HR0_4.out HB.out)); (case side8 => exact HC0_4.out); rintro e w14 ⟨rfl, hb⟩; refine ⟨_, rfl, ?_⟩; replace BK316 := bb_ BK316 hb; replace HB := wb_ HB hb; (try clear hb); (try clear hb2); (try clear hk); (try clear hi); obtain ⟨hcz15_0, hcz15_1, hcz15_2, hcz15_3, hcz15_4⟩ := cz5_ BK316.out; have hfz15_0 := blk_frozen BK316.out 0; have hfz15_1 := blk_frozen BK316.out 1; have hfz15_2 := blk_frozen BK316.out 2; have hfz15_3 := blk_frozen BK316.out 3; have hfz15_4 := blk_frozen BK316.out 4))
    go_ret
    exact ⟨by first | rfl | (simp [errW_none, errW_some] <;> rfl) | (simp [*, errW_none, errW_some] <;> rfl), by repeat (first | (with_reducible first | exact HB.out | apply b0_ | apply b1_ | apply b2_ | refine below_set ?_ GE316.out) | exact HB.out)⟩
  ·rw [if_neg c6] at H
   have c6b0 : ((l1.length : Int) == (l0_1.length : Int)) = false := beq_eq_false_iff_ne.mpr c6
   have c6b1 : ((l1.length : Int) != (l0_1.length : Int)) = true := bne_iff_ne.mpr c6
   have c6b2 : (l1.length == l0_1.length) = false := by first | simpa using c6 | (simp at c6 ⊢; omega)
   obtain rfl := Option.some.inj H
   go_enter Try.func11, Try.ntmps11
   go_wp2_with (first | ((with_reducible refine gate_dst (N := 3) rfl ?_); (try (refine gate_guard (by rfl) ?_; dsimp only)); refine box_event ?hg (N := 3) ?hd (cs := #[.int .i64 a0_0, .slice A0_1 l0_1.length c0_1, .slice A0_2 l0_2.length c0_2, .slice A0_3 l0_3.length c0_3, .slice A0_4 l0_4.length c0_4]) (t := 26) ?hr ?_; (case hd => rfl); (case hg => rfl); (case hr => first | (go_simp; done) | (go_simp; rfl)); intro gb316 hg w16 hbox hb; have n1_ := M_ (hbox); have n2_ := M_ ((by rw [hg]; exact (below_size (wl_ HB.out)) : w.heap.size ≤ gb316)); have n3_ := M_ ((by rw [hg]; exact (below_size (wl_ HB.out)) : w.heap.size ≤ gb316)); replace HB := wb_ HB hb; have BK316 := n1_; have GW316 := n2_; have GE316 := n3_; have gi316 : Ge _ _ := ⟨GE316.out⟩; clear n1_ n2_ n3_; clear hb hbox hg; obtain ⟨hcz17_0, hcz17_1, hcz17_2, hcz17_3, hcz17_4⟩ := cz5_ BK316.out; have hfz17_0 := blk_frozen BK316.out 0; have hfz17_1 := blk_frozen BK316.out 1; have hfz17_2 := blk_frozen BK316.out 2; have hfz17_3 := blk_frozen BK316.out 3; have hfz17_4 := blk_frozen BK316.out 4) | ((with_reducible refine gate_callee (f := 40) rfl ?_); refine goesL_ (some 8) rfl rfl Try.func40 (by kernel_rfl) rfl #[.agg #[.int .i64 a0_0, .slice A0_1 l0_1.length c0_1, .slice A0_2 l0_2.length c0_2, .slice A0_3 l0_3.length c0_3, .slice A0_4 l0_4.length c0_4]] rfl (by (try simp only [List.map_toArray, List.map_cons, List.map_nil]); first | done | rfl) ?_; (with_reducible refine (spiritlevelref02_Check.calls k a0_0 _ _ l0_1 _ _ l0_2 _ _ l0_3 _ _ l0_4 t317 _ ?side1 ?side2 ?side3 ?side4 ?side5 ?side6 ?side7 ?side8 A4.out).mono ?_); (case side1 => exact cl_ (Kd.C_below HR0_1.out HB.out)); (case side2 => exact HC0_1.out); (case side3 => exact cl_ (Kd.C_below HR0_2.out HB.out)); (case side4 => exact HC0_2.out); (case side5 => exact cl_ (Kd.C_below HR0_3.out HB.out)); (case side6 => exact HC0_3.out); (case side7 => exact cl_ (Kd.C_below HR0_4.out HB.out)); (case side8 => exact HC0_4.out); rintro e w18 ⟨rfl, hb⟩; refine ⟨_, rfl, ?_⟩; replace BK316 := bb_ BK316 hb; replace HB := wb_ HB hb; (try clear hb); (try clear hb2); (try clear hk); (try clear hi); obtain ⟨hcz19_0, hcz19_1, hcz19_2, hcz19_3, hcz19_4⟩ := cz5_ BK316.out; have hfz19_0 := blk_frozen BK316.out 0; have hfz19_1 := blk_frozen BK316.out 1; have hfz19_2 := blk_frozen BK316.out 2; have hfz19_3 := blk_frozen BK316.out 3; have hfz19_4 := blk_frozen BK316.out 4))
   go_ret
   exact ⟨by first | rfl | (simp [errW_none, errW_some] <;> rfl) | (simp [*, errW_none, errW_some] <;> rfl), by repeat (first | (with_reducible first | exact HB.out | apply b0_ | apply b1_ | apply b2_ | refine below_set ?_ GE316.out) | exact HB.out)⟩
 ·rw [if_neg c5] at H
  have c5b0 : (t317 == 0) = false := beq_eq_false_iff_ne.mpr c5
  have c5b1 : (t317 != 0) = true := bne_iff_ne.mpr c5
  replace H := Option.bind_eq_some_iff.mp H
  obtain ⟨t318, A200, H⟩ := H
  replace H : (some t318) = some r := H
  have A20 := M_ A200
  clear A200
  obtain rfl : t317 = t318 := Option.some.inj (A4.out.symm.trans A20.out)
  obtain rfl := Option.some.inj H
  go_enter Try.func11, Try.ntmps11
  go_wp2_with (first | ((with_reducible refine gate_dst (N := 3) rfl ?_); (try (refine gate_guard (by rfl) ?_; dsimp only)); refine box_event ?hg (N := 3) ?hd (cs := #[.int .i64 a0_0, .slice A0_1 l0_1.length c0_1, .slice A0_2 l0_2.length c0_2, .slice A0_3 l0_3.length c0_3, .slice A0_4 l0_4.length c0_4]) (t := 26) ?hr ?_; (case hd => rfl); (case hg => rfl); (case hr => first | (go_simp; done) | (go_simp; rfl)); intro gb316 hg w21 hbox hb; have n1_ := M_ (hbox); have n2_ := M_ ((by rw [hg]; exact (below_size (wl_ HB.out)) : w.heap.size ≤ gb316)); have n3_ := M_ ((by rw [hg]; exact (below_size (wl_ HB.out)) : w.heap.size ≤ gb316)); replace HB := wb_ HB hb; have BK316 := n1_; have GW316 := n2_; have GE316 := n3_; have gi316 : Ge _ _ := ⟨GE316.out⟩; clear n1_ n2_ n3_; clear hb hbox hg; obtain ⟨hcz22_0, hcz22_1, hcz22_2, hcz22_3, hcz22_4⟩ := cz5_ BK316.out; have hfz22_0 := blk_frozen BK316.out 0; have hfz22_1 := blk_frozen BK316.out 1; have hfz22_2 := blk_frozen BK316.out 2; have hfz22_3 := blk_frozen BK316.out 3; have hfz22_4 := blk_frozen BK316.out 4) | ((with_reducible refine gate_callee (f := 40) rfl ?_); refine goesL_ (some 8) rfl rfl Try.func40 (by kernel_rfl) rfl #[.agg #[.int .i64 a0_0, .slice A0_1 l0_1.length c0_1, .slice A0_2 l0_2.length c0_2, .slice A0_3 l0_3.length c0_3, .slice A0_4 l0_4.length c0_4]] rfl (by (try simp only [List.map_toArray, List.map_cons, List.map_nil]); first | done | rfl) ?_; (with_reducible refine (spiritlevelref02_Check.calls k a0_0 _ _ l0_1 _ _ l0_2 _ _ l0_3 _ _ l0_4 t317 _ ?side1 ?side2 ?side3 ?side4 ?side5 ?side6 ?side7 ?side8 A4.out).mono ?_); (case side1 => exact cl_ (Kd.C_below HR0_1.out HB.out)); (case side2 => exact HC0_1.out); (case side3 => exact cl_ (Kd.C_below HR0_2.out HB.out)); (case side4 => exact HC0_2.out); (case side5 => exact cl_ (Kd.C_below HR0_3.out HB.out)); (case side6 => exact HC0_3.out); (case side7 => exact cl_ (Kd.C_below HR0_4.out HB.out)); (case side8 => exact HC0_4.out); rintro e w23 ⟨rfl, hb⟩; refine ⟨_, rfl, ?_⟩; replace BK316 := bb_ BK316 hb; replace HB := wb_ HB hb; (try clear hb); (try clear hb2); (try clear hk); (try clear hi); obtain ⟨hcz24_0, hcz24_1, hcz24_2, hcz24_3, hcz24_4⟩ := cz5_ BK316.out; have hfz24_0 := blk_frozen BK316.out 0; have hfz24_1 := blk_frozen BK316.out 1; have hfz24_2 := blk_frozen BK316.out 2; have hfz24_3 := blk_frozen BK316.out 3; have hfz24_4 := blk_frozen BK316.out 4) | ((with_reducible refine gate_callee (f := 40) rfl ?_); refine goesL_ (some 11) rfl rfl Try.func40 (by kernel_rfl) rfl #[.agg #[.int .i64 a0_0, .slice A0_1 l0_1.length c0_1, .slice A0_2 l0_2.length c0_2, .slice A0_3 l0_3.length c0_3, .slice A0_4 l0_4.length c0_4]] rfl (by (try simp only [List.map_toArray, List.map_cons, List.map_nil]); first | done | rfl) ?_; (with_reducible refine (spiritlevelref02_Check.calls k a0_0 _ _ l0_1 _ _ l0_2 _ _ l0_3 _ _ l0_4 t317 _ ?side1 ?side2 ?side3 ?side4 ?side5 ?side6 ?side7 ?side8 A20.out).mono ?_); (case side1 => exact cl_ (Kd.C_below HR0_1.out HB.out)); (case side2 => exact HC0_1.out); (case side3 => exact cl_ (Kd.C_below HR0_2.out HB.out)); (case side4 => exact HC0_2.out); (case side5 => exact cl_ (Kd.C_below HR0_3.out HB.out)); (case side6 => exact HC0_3.out); (case side7 => exact cl_ (Kd.C_below HR0_4.out HB.out)); (case side8 => exact HC0_4.out); rintro e w25 ⟨rfl, hb⟩; refine ⟨_, rfl, ?_⟩; replace BK316 := bb_ BK316 hb; replace HB := wb_ HB hb; (try clear hb); (try clear hb2); (try clear hk); (try clear hi)))
  go_ret
  exact ⟨by first | rfl | (simp [errW_none, errW_some] <;> rfl) | (simp [*, errW_none, errW_some] <;> rfl), by repeat (first | (with_reducible first | exact HB.out | apply b0_ | apply b1_ | apply b2_ | refine below_set ?_ GE316.out) | exact HB.out)⟩

def values_of.f (l0 : List Bool) (a1 : Int) : Option (Bool) := if 0 ≤ (a1 / 2) then (if (a1 / 2) < (l0.length : Int) then (some ((rdOf false l0 (a1 / 2)) != ((Go.bits .and .i64 a1 1) == 1))) else (none)) else (none)
set_option maxHeartbeats 8000000 in
set_option maxRecDepth 100000 in
theorem values_of.calls (A0 : Option Addr) (c0 : Nat) (l0 : List Bool) (a1 : Int) (r : Bool) (w : World) (hr0 : Kd.C Kd.bool w A0 l0.length l0) (hc0 : l0.length ≤ c0) (h : values_of.f l0 a1 = some r) :
  Calls Try.prog 72 #[.slice A0 l0.length c0, .int .i64 a1] w fun e w' => e = .returned (.bool r) ∧ Drawn0 w w' := by
 have HR0 := M_ hr0
 have HC0 := M_ hc0
 clear hr0 hc0
 have H : (if 0 ≤ (a1 / 2) then (if (a1 / 2) < (l0.length : Int) then (some ((rdOf false l0 (a1 / 2)) != ((Go.bits .and .i64 a1 1) == 1))) else (none)) else (none)) = some r := h
 clear h
 obtain ⟨ji3, hji3⟩ : ∃ j_ : Int, (a1 / 2) = j_ := ⟨_, rfl⟩
 replace H : (if 0 ≤ (ji3) then (if (ji3) < (l0.length : Int) then (some ((rdOf false l0 (ji3)) != ((Go.bits .and .i64 a1 1) == 1))) else (none)) else (none)) = some r := by first | (rw [hji3] at H; exact H) | (simp only [hji3] at H ⊢; exact H)
 by_cases c4 : 0 ≤ (ji3)
 ·rw [if_pos c4] at H
  have c4b0 : decide (0 ≤ (ji3)) = true := decide_eq_true c4
  clear c4
  by_cases c5 : (ji3) < (l0.length : Int)
  ·rw [if_pos c5] at H
   have c5b0 : decide ((ji3) < (l0.length : Int)) = true := decide_eq_true c5
   clear c5
   obtain rfl := Option.some.inj H
   have p319 : 0 ≤ ((ji3) : Int) := of_decide_eq_true (by first | (with_reducible assumption) | assumption)
   have q319 : (ji3) < (l0.length : Int) := of_decide_eq_true (by first | (with_reducible assumption) | assumption)
   obtain ⟨ad319, e319, hx319_0⟩ := Kd.at_bool HR0.out (ji3) p319 q319
   cases e319
   replace p319 := eq_true p319
   replace q319 := eq_true q319
   go_enter Try.func72, Try.ntmps72
   go_wp2
   go_ret
   exact ⟨by first | rfl | (simp; done) | (simp only [← hji3] <;> (first | rfl | (simp; done))) | (congr 1; symm; assumption) | (simp [*]; done), by repeat (first | exact Drawn0.refl _ | apply Drawn0.step)⟩
  ·rw [if_neg c5] at H
   exact absurd H (by simp)
 ·rw [if_neg c4] at H
  exact absurd H (by simp)

theorem madeB (n : Nat) : madeCells #[Value.bool false] n = (encs Value.bool (List.replicate n false)).toArray := by
 apply Array.ext
 ·simp [madeCells, encs]
 ·intro i h1 h2
  simp only [madeCells, encs, Array.getElem_map, List.getElem_toArray, List.getElem_map, List.getElem_replicate]
  simp [Nat.mod_one]
theorem infoB : (Try.prog.info? 4).map (fun i => (i.zero, i.size, i.bytes)) = some (some (.bool false), 1, 1) := by kernel_rfl
theorem srcB {w : World} {A : Option Addr} {xs : List Bool} (h : Kd.C Kd.bool w A xs.length xs) (hn : 0 < xs.length) : ∃ ad, A = some ad ∧ ∀ j v, (encs Value.bool xs)[j]? = some v → w.cell? (ad.add j) = some v := by
 obtain ⟨ad, e, _⟩ := Kd.at_bool h (0 : Int) (by omega) (by omega)
 refine ⟨ad, e, fun j v hv => ?_⟩
 have hj : j < xs.length := by
  have := List.getElem?_eq_some_iff.1 hv
  obtain ⟨h1, _⟩ := this
  simpa [encs] using h1
 obtain ⟨ad', e', hx⟩ := Kd.at_bool h (j : Int) (by omega) (by omega)
 rw [e] at e'
 obtain rfl := Option.some.inj e'
 have : v = .bool (rdOf false xs (j : Int)) := by
  have := hv
  simp [encs, hj] at this
  rw [← this]
  simp [rdOf, hj]
 rw [this]
 exact hx
theorem encs_splice (Z X : List Bool) (off : Nat) : splice (encs Value.bool Z) off (encs Value.bool X) = encs Value.bool (splice Z off X) := by
 simp [splice, encs, List.map_take, List.map_drop]
theorem encs_one (X : List Bool) : ∀ v ∈ encs Value.bool X, v.oneCell' = true := by
 intro v hv
 simp [encs] at hv
 rcases hv with ⟨_, h⟩ | ⟨_, h⟩ <;> (rw [← h]; rfl)
theorem C_row {w : World} {g : Nat} {cur : List Bool} (h : w.heap[g]? = some (.cells (encs Value.bool cur).toArray 4 (0, 0))) (hl : cur.length ≤ 2000000) : Kd.C Kd.bool w (some ⟨g, 0, none⟩) cur.length cur := by
 have : Kd.R Kd.bool 4 w 0 (fun _ => True) (.slice (some ⟨g, 0, none⟩) cur.length cur.length) cur := by
  refine Kd.R_of_own (h1 := fun _ => rfl) ?_ (fun _ _ => trivial)
  refine ⟨by simp [encs], Or.inr ⟨g, cur.length, _, rfl, Nat.zero_le _, h, Nat.le_refl _, by unfold maxLen; omega, by simp [encs], ?_⟩⟩
  simp only [encs, Nat.mul_one]
  exact List.take_of_length_le (by simp)
 obtain ⟨A, c, e, _, hC⟩ := Kd.R_reads this
 injection e with e1 e2 e3
 subst e1
 exact hC

theorem encs_splice_len (Z X : List Bool) (off : Nat) (h : off + X.length ≤ Z.length) : (encs Value.bool (splice Z off X)).length = Z.length := by
 simp only [encs, List.length_map]
 exact length_splice Z off X h
theorem rowV (a b : List Bool) (m n : Nat) (h : n = b.length + a.length + m) : splice (splice (List.replicate (n + 1) false) 1 b) (1 + b.length) a = false :: (b ++ (a ++ List.replicate m false)) := by
 subst h
 have e1 : splice (List.replicate (b.length + a.length + m + 1) false) 1 b = (false :: b) ++ List.replicate (a.length + m) false := by
  simp only [splice, List.take_replicate, List.drop_replicate]
  rw [show min 1 (b.length + a.length + m + 1) = 1 by omega, show b.length + a.length + m + 1 - (1 + b.length) = a.length + m by omega]
  simp
 rw [e1]
 have hl : (false :: b).length = 1 + b.length := by simp; omega
 simp only [splice]
 rw [List.take_append_of_le_length (by omega), List.take_of_length_le (by omega), List.drop_append, List.drop_of_length_le (by omega), hl, List.drop_replicate, show a.length + m - (1 + b.length + a.length - (1 + b.length)) = m by omega]
 simp
theorem rowV' {w : World} {g : Nat} {a b : List Bool} {m n : Nat} (h : w.heap[g]? = some (.cells (splice (encs Value.bool (splice (List.replicate (n + 1) false) 1 b)) (1 + b.length) (encs Value.bool a)).toArray 4 (0, 0))) (hn : n = b.length + a.length + m) : w.heap[g]? = some (.cells (encs Value.bool (false :: (b ++ (a ++ List.replicate m false)))).toArray 4 (0, 0)) := by
 rw [encs_splice, rowV a b m n hn] at h
 exact h
theorem of_calls (n : Nat) (A0 : Option Addr) (l0 : List Bool) (a1 : Int) (r : Bool) (w : World) (hn : l0.length = n) (hr0 : Kd.C Kd.bool w A0 l0.length l0) (h : values_of.f l0 a1 = some r) :
  Calls Try.prog 72 #[.slice A0 n n, .int .i64 a1] w fun e w' => e = .returned (.bool r) ∧ Drawn0 w w' := by
 subst hn
 exact values_of.calls A0 _ l0 a1 r w hr0 (Nat.le_refl _) h
theorem encs_at (cur : List Bool) (G : Nat) (h : G < cur.length) : (encs Value.bool cur).toArray[G]? = some (.bool (cur.getD G false)) := by
 simp [encs, List.getD, h]
theorem encs_set (cur : List Bool) (G : Nat) (y : Bool) : (encs Value.bool cur).toArray.setIfInBounds G (.bool y) = (encs Value.bool (cur.set G y)).toArray := by
 simp [encs, List.map_set]
theorem blk_lt_le {w : World} {g : Nat} {o : Obj} (h : w.heap[g]? = some o) : g ≤ w.heap.size := Nat.le_of_lt (blk_lt h)
theorem R_row {w : World} {g base : Nat} {cur : List Bool} (h : w.heap[g]? = some (.cells (encs Value.bool cur).toArray 4 (0, 0))) (hl : cur.length ≤ 2000000) (hb : base ≤ g) : Kd.R Kd.bool 4 w base (fun _ => True) (.slice (some ⟨g, 0, none⟩) cur.length cur.length) cur := by
 refine Kd.R_of_own (h1 := fun _ => rfl) ?_ (fun _ _ => trivial)
 refine ⟨by simp [encs], Or.inr ⟨g, cur.length, _, rfl, hb, h, Nat.le_refl _, by unfold maxLen; omega, by simp [encs], ?_⟩⟩
 simp only [encs, Nat.mul_one]
 exact List.take_of_length_le (by simp)
def gatesV : List Bool → Nat → List S69 → Option (List Bool)
 | cur, _, [] => some cur
 | cur, i, g :: gs => (values_of.f cur g.f0).bind fun x => (if x = true then values_of.f cur g.f1 else some false).bind fun y => gatesV (cur.set i y) (i + 1) gs
def values_All.f (a0_0 : Int) (l0_1 : List S36) (l0_2 : List S69) (l0_3 : List Int) (l0_4 : List Int) (l1 l2 : List Bool) : Option (List Bool × Int) :=
 (gates_Vars.f a0_0 l0_1 l0_2 l0_3 l0_4).bind fun p => if p.2 = 0 then (if l1.length = l0_1.length ∧ (l2.length : Int) = a0_0 then
  (if p.1 = ((l2.length + l1.length + l0_2.length : Nat) : Int) ∧ l2.length + l1.length + l0_2.length ≤ 1000000 then (gatesV (false :: (l2 ++ (l1 ++ List.replicate l0_2.length false))) (1 + l2.length + l1.length) l0_2).bind fun r => some (r, 0) else none) else some ([], 2)) else some ([], p.2)
set_option maxHeartbeats 4000000 in
set_option maxRecDepth 100000 in
theorem values_All.calls (a0_0 : Int) (A0_1 : Option Addr) (c0_1 : Nat) (l0_1 : List S36) (A0_2 : Option Addr) (c0_2 : Nat) (l0_2 : List S69) (A0_3 : Option Addr) (c0_3 : Nat) (l0_3 : List Int) (A0_4 : Option Addr) (c0_4 : Nat) (l0_4 : List Int) (A1 : Option Addr) (c1 : Nat) (l1 : List Bool) (A2 : Option Addr) (c2 : Nat) (l2 : List Bool) (r1 : List Bool) (r2 : Int) (w : World) (hr0_1 : Kd.C k36 w A0_1 l0_1.length l0_1) (hc0_1 : l0_1.length ≤ c0_1) (hr0_2 : Kd.C k69 w A0_2 l0_2.length l0_2) (hc0_2 : l0_2.length ≤ c0_2) (hr0_3 : Kd.C (Kd.int .i64) w A0_3 l0_3.length l0_3) (hc0_3 : l0_3.length ≤ c0_3) (hr0_4 : Kd.C (Kd.int .i64) w A0_4 l0_4.length l0_4) (hc0_4 : l0_4.length ≤ c0_4) (hr1 : Kd.C Kd.bool w A1 l1.length l1) (hc1 : l1.length ≤ c1) (hr2 : Kd.C Kd.bool w A2 l2.length l2) (hc2 : l2.length ≤ c2) (h : values_All.f a0_0 l0_1 l0_2 l0_3 l0_4 l1 l2 = some (r1, r2)) :
  Calls Try.prog 35 #[.agg #[.int .i64 a0_0, .slice A0_1 l0_1.length c0_1, .slice A0_2 l0_2.length c0_2, .slice A0_3 l0_3.length c0_3, .slice A0_4 l0_4.length c0_4], .slice A1 l1.length c1, .slice A2 l2.length c2] w fun e w' => ∃ v0_ : Value, e = .returned (.tuple #[v0_, .int .i64 r2]) ∧ Kd.R Kd.bool 4 w' w.heap.size (fun _ => True) v0_ r1 ∧ Below w.heap.size w w' := by
 have hu26 := Try.underlying26
 have hu69 := Try.underlying69
 have hu27 := Try.underlying27
 have hu4 := Try.underlying4
 have HR0_1 := M_ hr0_1
 have HR0_2 := M_ hr0_2
 have HR0_3 := M_ hr0_3
 have HR0_4 := M_ hr0_4
 have HC0_1 := M_ hc0_1
 have HC0_2 := M_ hc0_2
 have HC0_3 := M_ hc0_3
 have HC0_4 := M_ hc0_4
 have HR1 := M_ hr1
 have HR2 := M_ hr2
 have HC1 := M_ hc1
 have HC2 := M_ hc2
 clear hr0_1 hr0_2 hr0_3 hr0_4 hc0_1 hc0_2 hc0_3 hc0_4 hr1 hr2 hc1 hc2
 unfold values_All.f at h
 obtain ⟨⟨p, e0⟩, he, h⟩ := Option.bind_eq_some_iff.mp h
 have HE := M_ he
 clear he
 simp only at h
 by_cases c : e0 = 0
 ·rw [if_pos c] at h
  subst c
  by_cases cc : l1.length = l0_1.length ∧ (l2.length : Int) = a0_0
  ·rw [if_pos cc] at h
   by_cases cp : p = ((l2.length + l1.length + l0_2.length : Nat) : Int) ∧ l2.length + l1.length + l0_2.length ≤ 1000000
   ·rw [if_pos cp] at h
    obtain ⟨rr, hgv, h⟩ := Option.bind_eq_some_iff.mp h
    simp only [Option.some.injEq, Prod.mk.injEq] at h
    obtain ⟨rfl, rfl⟩ := h
    obtain ⟨rfl, hsz⟩ := cp
    have HG := M_ hgv
    have HZ := M_ hsz
    have b1 : (((l1.length : Int)) != (l0_1.length : Int)) = false := by simp [cc.1]
    have b2 : (((l2.length : Int)) != a0_0) = false := by simp [cc.2]
    have CC := M_ cc
    obtain ⟨n, hn⟩ : ∃ n, n = l2.length + l1.length + l0_2.length := ⟨_, rfl⟩
    rw [← hn] at HE
    have HN := M_ hn
    have wn : wrap64 ((n : Int) + 1) = ((n : Int) + 1) := by unfold wrap64; omega
    have hmk := print_make_int (P := Try.prog) 27 4 (.bool false) 1 hu27 infoB rfl (by decide) ((n : Int) + 1) (by omega) (by omega)
    obtain ⟨dp, hdp, hcut⟩ : ∃ dp : Nat → Option Addr, (∀ g, 0 < n → dp g = some ⟨g, 1, none⟩) ∧ ∀ (g : Nat) (W : World), (Instr.slice 27 (.slice (some ⟨g, 0, none⟩) (n + 1) (n + 1)) (some (.int .i64 1)) none none).run Try.prog W = .ok (.slice (dp g) n n) W := by
     refine ⟨fun g => if n + 1 = 1 then some ⟨g, 0, none⟩ else some ⟨g, 1, none⟩, fun g hg => by simp; omega, fun g W => ?_⟩
     obtain ⟨i0, hi, hzz⟩ := Option.map_eq_some_iff.1 infoB
     simp only [Prod.mk.injEq] at hzz
     have := cut_from (P := Try.prog) 27 4 .i64 hu27 hi 1 hzz.2.1 (some ⟨g, 0, none⟩) (n + 1) (n + 1) 1 (by omega) (by omega) W
     simpa [Addr.add] using this
    have HDP := M_ hdp
    clear hdp
    have hsB : (Try.prog.info? 4).map (·.size) = some 1 := by kernel_rfl
    obtain ⟨F, hF⟩ : ∃ F : Nat, F = 1 + l2.length + l1.length := ⟨_, rfl⟩
    obtain ⟨dq, hdq, hcut2⟩ : ∃ dq : Nat → Option Addr, (∀ g, 0 < l1.length → dq g = some ⟨g, 1 + l2.length, none⟩) ∧ ∀ (g : Nat) (W : World), (Instr.slice 27 (.slice (some ⟨g, 0, none⟩) (n + 1) (n + 1)) (some (.int .i64 (1 + (l2.length : Int)))) (some (.int .i64 (F : Int))) (some (.int .i64 (F : Int)))).run Try.prog W = .ok (.slice (dq g) l1.length l1.length) W := by
     refine ⟨fun g => if 1 + l2.length + l1.length = 1 + l2.length then some ⟨g, 0, none⟩ else some ⟨g, 1 + l2.length, none⟩, fun g hg => by dsimp only; rw [if_neg (by omega)], fun g W => ?_⟩
     obtain ⟨i0, hi, hzz⟩ := Option.map_eq_some_iff.1 infoB
     simp only [Prod.mk.injEq] at hzz
     have hel : Try.prog.elem 27 = 4 := by simp [Program.elem, hu27]
     have hu : Try.prog.underlying 27 = some (.slice (Try.prog.elem 27)) := by rw [hel]; exact hu27
     rw [run_slice_lhm W 27 _ _ _ hu .i64 .i64 .i64 _ _ _ (by omega) (by omega) (by omega) (by omega), hel]
     have e1 : (1 + (l2.length : Int)).toNat = 1 + l2.length := by omega
     have e2 : ((F : Int)).toNat = 1 + l2.length + l1.length := by omega
     have e4 : ∀ A : Option Addr, A.map (fun x => x.add 0) = A := by intro A; cases A <;> simp [Addr.add]
     rw [e1, e2]
     simp [sizeOf, typeInfo, hi, hzz.2.1, sliced, Result.andThen, Addr.add]
    have HDQ := M_ hdq
    clear hdq
    have w2l : wrap64 (1 + (l2.length : Int)) = 1 + (l2.length : Int) := by unfold wrap64; omega
    have w3l : wrap64 (1 + (l2.length : Int) + (l1.length : Int)) = (F : Int) := by unfold wrap64; omega
    have HF := M_ hF
    clear hF
    have le1 : (encs Value.bool l1).length = l1.length := by simp [encs]
    have le2 : (encs Value.bool l2).length = l2.length := by simp [encs]
    have lzn : ∀ m, (encs Value.bool (List.replicate m false)).length = m := by simp [encs]
    have LZ := M_ lzn
    clear lzn
    clear cc hgv hsz hn
    go_enter Try.func35, Try.ntmps35
    go_wp2_with (first | (go_at_call 47; (with_reducible refine (gates_Vars.calls a0_0 _ _ l0_1 _ _ l0_2 _ _ l0_3 _ _ l0_4 _ _ _ ?s1 ?s2 ?s3 ?s4 ?s5 ?s6 ?s7 ?s8 HE.out).mono ?_); (case s1 => exact Kd.C_below HR0_1.out (below_alloc (Below.refl _ _) _)); (case s2 => exact HC0_1.out); (case s3 => exact Kd.C_below HR0_2.out (below_alloc (Below.refl _ _) _)); (case s4 => exact HC0_2.out); (case s5 => exact Kd.C_below HR0_3.out (below_alloc (Below.refl _ _) _)); (case s6 => exact HC0_3.out); (case s7 => exact Kd.C_below HR0_4.out (below_alloc (Below.refl _ _) _)); (case s8 => exact HC0_4.out); rintro e w1 ⟨rfl, hb⟩; have HB := M_ (below_step (below_alloc (Below.refl _ _) _) hb); have BK := M_ (blk_below (blk_new w (.cells #[.int .i64 a0_0, .slice A0_1 l0_1.length c0_1, .slice A0_2 l0_2.length c0_2, .slice A0_3 l0_3.length c0_3, .slice A0_4 l0_4.length c0_4] 26)) hb); have k1 := blk_cell BK.out 1; have k2 := blk_cell BK.out 2; have k0 := blk_cell BK.out 0; simp only [List.getElem?_toArray, List.getElem?_cons_succ, List.getElem?_cons_zero] at k0 k1 k2; clear hb) | (refine wpList_copy_splice rfl (.tmp 38) (.tmp 39) 27 27 rfl 4 hu27 hsB _ _ _ _ _ _ rfl rfl w1.heap.size 1 (encs Value.bool (List.replicate (n + 1) false)) 4 ?g1 (encs Value.bool l2) ?g2 ?g3 ?g4 (encs_one _) w1.heap.size w1 ?g5 (Nat.le_refl _) ?_; (case g1 => rw [← madeB]; exact blk_new _ _); (case g2 => have := HN.out; rw [le2]; exact (Nat.min_eq_left (by omega)).symm); (case g3 => intro hp; have := HN.out; have := HDP.out w1.heap.size (by omega); obtain ⟨ad, e, hs⟩ := srcB (Kd.C_below HR2.out (below_alloc HB.out _)) (by omega); exact ⟨this, ad, e, hs⟩); (case g4 => have := HN.out; rw [le2, LZ.out]; omega); (case g5 => exact below_alloc (Below.refl _ _) _); intro w2 HG2 hB2; have HB2 := M_ hB2; have BK2 := M_ (blk_below BK.out hB2); have m1 := blk_cell BK2.out 1; have m2 := blk_cell BK2.out 2; have m0 := blk_cell BK2.out 0; simp only [List.getElem?_toArray, List.getElem?_cons_succ, List.getElem?_cons_zero] at m0 m1 m2; have HG2 := M_ HG2.out; clear k0 k1 k2 hB2) | (refine wpList_copy_splice rfl (.tmp 52) (.tmp 53) 27 27 rfl 4 hu27 hsB _ _ _ _ _ _ rfl rfl w1.heap.size (1 + l2.length) (encs Value.bool (splice (List.replicate (n + 1) false) 1 l2)) 4 ?g1 (encs Value.bool l1) ?g2 ?g3 ?g4 (encs_one _) w1.heap.size w1 HB2.out (Nat.le_refl _) ?_; (case g1 => have := HG2.out; rw [encs_splice] at this; exact this); (case g2 => rw [le1]; exact (Nat.min_self _).symm); (case g3 => intro hp; have := HDQ.out w1.heap.size (by omega); obtain ⟨ad, e, hs⟩ := srcB (Kd.C_below HR1.out (below_step HB.out HB2.out)) (by omega); exact ⟨this, ad, e, hs⟩); (case g4 => have := HN.out; rw [le1, encs_splice_len _ _ _ (by rw [List.length_replicate]; omega), List.length_replicate]; omega); intro w3 HG3 hB3; have HB3 := M_ (below_step HB.out hB3); have BK3 := M_ (blk_below BK.out hB3); have z1 := blk_cell BK3.out 1; have z2 := blk_cell BK3.out 2; have z0 := blk_cell BK3.out 0; simp only [List.getElem?_toArray, List.getElem?_cons_succ, List.getElem?_cons_zero] at z0 z1 z2; have HG3 := M_ (rowV' HG3.out HN.out); clear m0 m1 m2 hB3))
    have hlt := blk_lt BK.out
    have hne := Nat.ne_of_lt hlt
    have HNE := M_ hne
    clear hne hlt
    rw [w3l]
    go_loopg [62] (l0_2.length + 1) (fun kq v62 w' => ∃ (j : Nat) (cur : List Bool), v62 = .int .i64 (j : Int) ∧ Aside0 (j ≤ l0_2.length ∧ kq + j = l0_2.length + 1 ∧ cur.length = n + 1) ∧ Aside0 (gatesV cur (F + j) (l0_2.drop j) = some rr) ∧ Aside0 (Below w.heap.size w w') ∧ Aside0 (w'.heap[w.heap.size]? = some (.cells #[.int .i64 a0_0, .slice A0_1 l0_1.length c0_1, .slice A0_2 l0_2.length c0_2, .slice A0_3 l0_3.length c0_3, .slice A0_4 l0_4.length c0_4] 26 (0, 0))) ∧ Aside0 (w'.heap[w1.heap.size]? = some (.cells (encs Value.bool cur).toArray 4 (0, 0))))
    case atStart => exact ⟨0, _, by simp, ⟨by omega, by omega, by have := HN.out; simp; omega⟩, ⟨by have := HG.out; rw [← HF.out] at this; simpa using this⟩, HB3, BK3, HG3⟩
    case round =>
     clear HB3 BK3 HG3 z0 z1 z2
     obtain ⟨j, cur, rfl, HI, HV, HB3, BK3, HG3⟩ := hrel
     have z1 := blk_cell BK3.out 1
     have z2 := blk_cell BK3.out 2
     have z0 := blk_cell BK3.out 0
     simp only [List.getElem?_toArray, List.getElem?_cons_succ, List.getElem?_cons_zero] at z0 z1 z2
     by_cases c : j < l0_2.length
     ·have cb : decide (j < l0_2.length) = true := decide_eq_true c
      obtain ⟨ad, rfl, hx, hy⟩ := at_T69n (Kd.C_below HR0_2.out HB3.out) j c
      have hv := HV.out
      rw [List.drop_eq_getElem_cons c] at hv
      simp only [gatesV] at hv
      obtain ⟨x, hx1, hv⟩ := Option.bind_eq_some_iff.mp hv
      obtain ⟨y, hy1, hv⟩ := Option.bind_eq_some_iff.mp hv
      have hrd : rd_T69 l0_2 (j : Int) = l0_2[j] := by simp [rd_T69, List.getD, c]
      rw [← hrd] at hx1 hy1
      obtain ⟨G, hG⟩ : ∃ G : Nat, G = F + j := ⟨_, rfl⟩
      have h1 := HI.out.2.2
      have h2 := HN.out
      have h3 := HF.out
      have h4 := HZ.out
      have p0 : ((0 : Int) ≤ (G : Int)) = True := eq_true (by omega)
      have q0 : ((G : Int) < (n : Int) + 1) = True := eq_true (by omega)
      have hG1 : G < n + 1 := by omega
      have WJ : Aside0 (wrap64 ((j : Int) + 1) = ((j + 1 : Nat) : Int)) := ⟨by unfold wrap64; omega⟩
      have hG2 : G < cur.length := by omega
      have wG : wrap64 ((F : Int) + (j : Int)) = (G : Int) := by unfold wrap64; omega
      have hrow : (wr.cell? ⟨w1.heap.size, G, none⟩) = some (.bool (cur.getD G false)) := (blk_cell HG3.out G).trans (encs_at cur G hG2)
      have hfz := blk_frozen HG3.out G
      have HG' := M_ hG
      have HG1 := M_ hG1
      have HX := M_ hx1
      have HV2 := M_ hv
      clear hG2 hG hG1 h1 h2 h3 h4 hx1 hv hrd
      cases x with
      | true =>
       rw [if_pos rfl] at hy1
       have HY := M_ hy1
       clear hy1
       go_wp2_with (go_at_call 72; first | ((with_reducible refine (of_calls (n + 1) _ cur (rd_T69 l0_2 (j : Int)).f0 true _ HI.out.2.2 ?s1 HX.out).mono ?_); (case s1 => exact C_row HG3.out (by have := HI.out.2.2; have := HN.out; have := HZ.out; omega)); rintro e w' ⟨rfl, ⟨nd, rfl⟩⟩) | ((with_reducible refine (of_calls (n + 1) _ cur (rd_T69 l0_2 (j : Int)).f1 y _ HI.out.2.2 ?s1 HY.out).mono ?_); (case s1 => exact C_row (blk_drewN HG3.out _) (by have := HI.out.2.2; have := HN.out; have := HZ.out; omega)); rintro e w' ⟨rfl, ⟨nd2, rfl⟩⟩))
       go_roundg (gk - 1)
       case rel =>
        have h1 := HI.out.2.2
        exact ⟨j + 1, cur.set G y, by rw [WJ.out], ⟨by omega, by have := HI.out; omega, by rw [List.length_set]; exact h1⟩, ⟨by have := HV2.out; rw [← HG'.out] at this; rw [HG'.out, Nat.add_assoc] at this; rw [HG'.out]; exact this⟩, ⟨Below.setCell (pw_below_drewN HB3.out _) (blk_lt_le BK.out) _⟩, ⟨blk_far (blk_drewN BK3.out _) HNE.out _⟩, ⟨blk_put (blk_drewN HG3.out _) G _ (encs_set cur G y)⟩⟩
       case measure => have := HI.out; omega
      | false =>
       rw [if_neg (by decide)] at hy1
       obtain rfl := Option.some.inj hy1
       clear hy1
       go_wp2_with (go_at_call 72; ((with_reducible refine (of_calls (n + 1) _ cur (rd_T69 l0_2 (j : Int)).f0 false _ HI.out.2.2 ?s1 HX.out).mono ?_); (case s1 => exact C_row HG3.out (by have := HI.out.2.2; have := HN.out; have := HZ.out; omega)); rintro e w' ⟨rfl, ⟨nd, rfl⟩⟩))
       go_roundg (gk - 1)
       case rel =>
        have h1 := HI.out.2.2
        exact ⟨j + 1, cur.set G false, by rw [WJ.out], ⟨by omega, by have := HI.out; omega, by rw [List.length_set]; exact h1⟩, ⟨by have := HV2.out; rw [← HG'.out] at this; rw [HG'.out, Nat.add_assoc] at this; rw [HG'.out]; exact this⟩, ⟨Below.setCell (pw_below_drewN HB3.out _) (blk_lt_le BK.out) _⟩, ⟨blk_far (blk_drewN BK3.out _) HNE.out _⟩, ⟨blk_put (blk_drewN HG3.out _) G _ (encs_set cur G false)⟩⟩
       case measure => have := HI.out; omega
     ·have cb : decide (j < l0_2.length) = false := decide_eq_false c
      have hv := HV.out
      rw [List.drop_of_length_le (by omega)] at hv
      obtain rfl := Option.some.inj hv
      clear hv
      go_wp2
      go_ret2
      refine ⟨_, rfl, ?_, HB3.out⟩
      have h1 := HI.out.2.2
      have := R_row HG3.out (by have := HN.out; have := HZ.out; omega) (blk_lt_le BK.out)
      rw [h1] at this
      exact this
   ·rw [if_neg cp] at h; simp at h
  ·rw [if_neg cc] at h
   simp only [Option.some.injEq, Prod.mk.injEq] at h
   obtain ⟨rfl, rfl⟩ := h
   by_cases d1 : l1.length = l0_1.length
   ·have b1 : (((l1.length : Int)) != (l0_1.length : Int)) = false := by simp [d1]
    have b2 : (((l2.length : Int)) != a0_0) = true := by simp; intro e; exact cc ⟨d1, e⟩
    clear cc d1
    go_enter Try.func35, Try.ntmps35
    go_wp2_with (go_at_call 47; (with_reducible refine (gates_Vars.calls a0_0 _ _ l0_1 _ _ l0_2 _ _ l0_3 _ _ l0_4 _ _ _ ?s1 ?s2 ?s3 ?s4 ?s5 ?s6 ?s7 ?s8 HE.out).mono ?_); (case s1 => exact Kd.C_below HR0_1.out (below_alloc (Below.refl _ _) _)); (case s2 => exact HC0_1.out); (case s3 => exact Kd.C_below HR0_2.out (below_alloc (Below.refl _ _) _)); (case s4 => exact HC0_2.out); (case s5 => exact Kd.C_below HR0_3.out (below_alloc (Below.refl _ _) _)); (case s6 => exact HC0_3.out); (case s7 => exact Kd.C_below HR0_4.out (below_alloc (Below.refl _ _) _)); (case s8 => exact HC0_4.out); rintro e w1 ⟨rfl, hb⟩; have HB := M_ (below_step (below_alloc (Below.refl _ _) _) hb); have BK := M_ (blk_below (blk_new w (.cells #[.int .i64 a0_0, .slice A0_1 l0_1.length c0_1, .slice A0_2 l0_2.length c0_2, .slice A0_3 l0_3.length c0_3, .slice A0_4 l0_4.length c0_4] 26)) hb); have k1 := blk_cell BK.out 1; have k2 := blk_cell BK.out 2; have k0 := blk_cell BK.out 0; simp only [List.getElem?_toArray, List.getElem?_cons_succ, List.getElem?_cons_zero] at k0 k1 k2; clear hb)
    go_ret2
    exact ⟨_, rfl, Kd.R_nil _ _ _ _ _, HB.out⟩
   ·have b1 : (((l1.length : Int)) != (l0_1.length : Int)) = true := by simp; omega
    clear cc d1
    go_enter Try.func35, Try.ntmps35
    go_wp2_with (go_at_call 47; (with_reducible refine (gates_Vars.calls a0_0 _ _ l0_1 _ _ l0_2 _ _ l0_3 _ _ l0_4 _ _ _ ?s1 ?s2 ?s3 ?s4 ?s5 ?s6 ?s7 ?s8 HE.out).mono ?_); (case s1 => exact Kd.C_below HR0_1.out (below_alloc (Below.refl _ _) _)); (case s2 => exact HC0_1.out); (case s3 => exact Kd.C_below HR0_2.out (below_alloc (Below.refl _ _) _)); (case s4 => exact HC0_2.out); (case s5 => exact Kd.C_below HR0_3.out (below_alloc (Below.refl _ _) _)); (case s6 => exact HC0_3.out); (case s7 => exact Kd.C_below HR0_4.out (below_alloc (Below.refl _ _) _)); (case s8 => exact HC0_4.out); rintro e w1 ⟨rfl, hb⟩; have HB := M_ (below_step (below_alloc (Below.refl _ _) _) hb); have BK := M_ (blk_below (blk_new w (.cells #[.int .i64 a0_0, .slice A0_1 l0_1.length c0_1, .slice A0_2 l0_2.length c0_2, .slice A0_3 l0_3.length c0_3, .slice A0_4 l0_4.length c0_4] 26)) hb); have k1 := blk_cell BK.out 1; have k2 := blk_cell BK.out 2; have k0 := blk_cell BK.out 0; simp only [List.getElem?_toArray, List.getElem?_cons_succ, List.getElem?_cons_zero] at k0 k1 k2; clear hb)
    go_ret2
    exact ⟨_, rfl, Kd.R_nil _ _ _ _ _, HB.out⟩
 ·rw [if_neg c] at h
  simp only [Option.some.injEq, Prod.mk.injEq] at h
  obtain ⟨rfl, rfl⟩ := h
  have b : (e0 != 0) = true := bne_iff_ne.mpr c
  clear c
  go_enter Try.func35, Try.ntmps35
  go_wp2_with (go_at_call 47; (with_reducible refine (gates_Vars.calls a0_0 _ _ l0_1 _ _ l0_2 _ _ l0_3 _ _ l0_4 _ _ _ ?s1 ?s2 ?s3 ?s4 ?s5 ?s6 ?s7 ?s8 HE.out).mono ?_); (case s1 => exact Kd.C_below HR0_1.out (below_alloc (Below.refl _ _) _)); (case s2 => exact HC0_1.out); (case s3 => exact Kd.C_below HR0_2.out (below_alloc (Below.refl _ _) _)); (case s4 => exact HC0_2.out); (case s5 => exact Kd.C_below HR0_3.out (below_alloc (Below.refl _ _) _)); (case s6 => exact HC0_3.out); (case s7 => exact Kd.C_below HR0_4.out (below_alloc (Below.refl _ _) _)); (case s8 => exact HC0_4.out); rintro e w1 ⟨rfl, hb⟩; have HB := M_ (below_step (below_alloc (Below.refl _ _) _) hb); have BK := M_ (blk_below (blk_new w (.cells #[.int .i64 a0_0, .slice A0_1 l0_1.length c0_1, .slice A0_2 l0_2.length c0_2, .slice A0_3 l0_3.length c0_3, .slice A0_4 l0_4.length c0_4] 26)) hb); have k1 := blk_cell BK.out 1; have k2 := blk_cell BK.out 2; have k0 := blk_cell BK.out 0; simp only [List.getElem?_toArray, List.getElem?_cons_succ, List.getElem?_cons_zero] at k0 k1 k2; clear hb)
  go_ret2
  exact ⟨_, rfl, Kd.R_nil _ _ _ _ _, HB.out⟩

def listV (vals : List Bool) : List Int → Option (List Bool)
 | [] => some []
 | x :: l => (values_of.f vals x).bind fun b => (listV vals l).bind fun r => some (b :: r)
def listF (a0_0 : Int) (l0_1 : List S36) (l0_2 : List S69) (l0_3 : List Int) (l0_4 : List Int) (l1 l2 : List Bool) (ls : List Int) : Option (List Bool × Int) :=
 (values_All.f a0_0 l0_1 l0_2 l0_3 l0_4 l1 l2).bind fun p => if p.2 = 0 then (listV p.1 ls).bind fun r => some (r, 0) else some ([], p.2)

set_option maxHeartbeats 4000000 in
set_option maxRecDepth 100000 in
theorem list_calls_next (B : Nat) (a0_0 : Int) (A0_1 : Option Addr) (c0_1 : Nat) (l0_1 : List S36) (A0_2 : Option Addr) (c0_2 : Nat) (l0_2 : List S69) (A0_3 : Option Addr) (c0_3 : Nat) (l0_3 : List Int) (A0_4 : Option Addr) (c0_4 : Nat) (l0_4 : List Int) (A1 : Option Addr) (c1 : Nat) (l1 : List Bool) (A2 : Option Addr) (c2 : Nat) (l2 : List Bool) (ls : List Int) (r1 : List Bool) (r2 : Int) (w : World) (hr0_1 : Kd.C k36 w A0_1 l0_1.length l0_1) (hc0_1 : l0_1.length ≤ c0_1) (hr0_2 : Kd.C k69 w A0_2 l0_2.length l0_2) (hc0_2 : l0_2.length ≤ c0_2) (hr0_3 : Kd.C (Kd.int .i64) w A0_3 l0_3.length l0_3) (hc0_3 : l0_3.length ≤ c0_3) (hr0_4 : Kd.C (Kd.int .i64) w A0_4 l0_4.length l0_4) (hc0_4 : l0_4.length ≤ c0_4) (hr1 : Kd.C Kd.bool w A1 l1.length l1) (hc1 : l1.length ≤ c1) (hr2 : Kd.C Kd.bool w A2 l2.length l2) (hc2 : l2.length ≤ c2) (hls : ls.length ≤ 1000000)
  (hp : ∀ (i : Nat), i < ls.length → ∀ W : World, Below w.heap.size w W → Calls Try.prog 43 #[.int .i64 (i : Int), .pointer (some ⟨B, 0, none⟩)] W fun e w' => e = .returned (.int .i64 (rd ls (i : Int))) ∧ Drawn0 W w')
  (h : listF a0_0 l0_1 l0_2 l0_3 l0_4 l1 l2 ls = some (r1, r2)) :
  Calls Try.prog 42 #[.agg #[.int .i64 a0_0, .slice A0_1 l0_1.length c0_1, .slice A0_2 l0_2.length c0_2, .slice A0_3 l0_3.length c0_3, .slice A0_4 l0_4.length c0_4], .slice A1 l1.length c1, .slice A2 l2.length c2, .int .i64 (ls.length : Int), .func (.func 43) #[] #[.pointer (some ⟨B, 0, none⟩)]] w fun e w' => ∃ v0_ : Value, e = .returned (.tuple #[v0_, .int .i64 r2]) ∧ Kd.R Kd.bool 4 w' w.heap.size (fun _ => True) v0_ r1 ∧ Below w.heap.size w w' := by
 have hu26 := Try.underlying26
 have hu27 := Try.underlying27
 have hu4 := Try.underlying4
 have HR0_1 := M_ hr0_1
 have HR0_2 := M_ hr0_2
 have HR0_3 := M_ hr0_3
 have HR0_4 := M_ hr0_4
 have HC0_1 := M_ hc0_1
 have HC0_2 := M_ hc0_2
 have HC0_3 := M_ hc0_3
 have HC0_4 := M_ hc0_4
 have HR1 := M_ hr1
 have HR2 := M_ hr2
 have HC1 := M_ hc1
 have HC2 := M_ hc2
 clear hr0_1 hr0_2 hr0_3 hr0_4 hc0_1 hc0_2 hc0_3 hc0_4 hr1 hr2 hc1 hc2
 have HP := M_ hp
 have HLS := M_ hls
 clear hp hls
 unfold listF at h
 obtain ⟨⟨vals, e0⟩, he, h⟩ := Option.bind_eq_some_iff.mp h
 have HE := M_ he
 clear he
 simp only at h
 by_cases c : e0 = 0
 ·rw [if_pos c] at h
  subst c
  obtain ⟨rr, hv, h⟩ := Option.bind_eq_some_iff.mp h
  simp only [Option.some.injEq, Prod.mk.injEq] at h
  obtain ⟨rfl, rfl⟩ := h
  have HV := M_ hv
  clear hv
  go_enter Try.func42, Try.ntmps42
  go_wp2_with (go_at_call 35; (with_reducible refine (values_All.calls a0_0 _ _ l0_1 _ _ l0_2 _ _ l0_3 _ _ l0_4 _ _ l1 _ _ l2 vals _ _ ?s1 ?s2 ?s3 ?s4 ?s5 ?s6 ?s7 ?s8 ?s9 ?s10 ?s11 ?s12 HE.out).mono ?_); (case s1 => exact Kd.C_below HR0_1.out (below_alloc (Below.refl _ _) _)); (case s2 => exact HC0_1.out); (case s3 => exact Kd.C_below HR0_2.out (below_alloc (Below.refl _ _) _)); (case s4 => exact HC0_2.out); (case s5 => exact Kd.C_below HR0_3.out (below_alloc (Below.refl _ _) _)); (case s6 => exact HC0_3.out); (case s7 => exact Kd.C_below HR0_4.out (below_alloc (Below.refl _ _) _)); (case s8 => exact HC0_4.out); (case s9 => exact Kd.C_below HR1.out (below_alloc (Below.refl _ _) _)); (case s10 => exact HC1.out); (case s11 => exact Kd.C_below HR2.out (below_alloc (Below.refl _ _) _)); (case s12 => exact HC2.out); rintro e w1 ⟨v0, rfl, ho, hb⟩; have HO := M_ (Kd.R_lower (base' := w.heap.size) ho (by simp)); have HB := M_ (below_step (below_alloc (Below.refl _ _) _) hb); clear hb ho)
  go_loopg [14, 27] (ls.length + 1) (fun kq v14 v27 w' => ∃ (j : Nat) (acc rest : List Bool), v27 = .int .i64 (j : Int) ∧ Aside0 (j ≤ ls.length ∧ kq + j = ls.length + 1 ∧ acc.length = j) ∧ Aside0 (listV vals (ls.drop j) = some rest ∧ acc ++ rest = rr) ∧ Aside0 (Below w.heap.size w w') ∧ Aside0 (Kd.R Kd.bool 4 w' w.heap.size (fun k_ => some k_ ≠ (v14 : Value).ownBlock) v0 vals) ∧ Aside0 (Kd.R Kd.bool 4 w' w.heap.size (fun k_ => some k_ ≠ (v0 : Value).ownBlock) v14 acc))
  case atStart => exact ⟨0, [], rr, by simp, ⟨by omega, by omega, rfl⟩, ⟨by simpa using HV.out, rfl⟩, HB, ⟨Kd.R_mono HO.out (fun _ hk => (by simp [Value.ownBlock]))⟩, ⟨Kd.R_nil _ _ _ _ _⟩⟩
  case round =>
   clear HB HO
   obtain ⟨j, acc, rest, rfl, HI, HV2, HB, HO, HA⟩ := hrel
   by_cases c : j < ls.length
   ·have cb : decide (j < ls.length) = true := decide_eq_true c
    obtain ⟨hv0, hacc⟩ := HV2.out
    have hg : rd ls (j : Int) = ls[j] := by simp [rd, List.getD, c]
    have hd : ls.drop j = rd ls (j : Int) :: ls.drop (j + 1) := by rw [hg]; exact List.drop_eq_getElem_cons c
    rw [hd] at hv0
    simp only [listV] at hv0
    have hv := hv0
    clear hv0 hd hg
    obtain ⟨b, hb1, hv⟩ := Option.bind_eq_some_iff.mp hv
    obtain ⟨re, hr1, hv⟩ := Option.bind_eq_some_iff.mp hv
    obtain rfl := Option.some.inj hv
    have HX := M_ hb1
    have HR := M_ hr1
    have HACC := M_ hacc
    have HJ := M_ c
    clear hb1 hr1 hacc c
    have WJ : Aside0 (wrap64 ((j : Int) + 1) = ((j + 1 : Nat) : Int)) := ⟨by have h1 := HJ.out; have h2 := HLS.out; unfold wrap64; omega⟩
    obtain ⟨Ao, co, eo⟩ := Kd.R_slice HO.out
    subst eo
    go_wp2_with (first | (go_at_call 43; (with_reducible refine (HP.out j HJ.out _ ?s1).mono ?_); (case s1 => exact HB.out); rintro e w' ⟨rfl, ⟨nd, rfl⟩⟩) | (go_at_call 72; (with_reducible refine (values_of.calls Ao co vals (rd ls (j : Int)) b _ ?s1 ?s2 HX.out).mono ?_); (case s1 => exact (Kd.R_reads' (Kd.R_drewN HO.out _)).2.2); (case s2 => exact (Kd.R_reads' HO.out).2.1); rintro e w' ⟨rfl, ⟨nd2, rfl⟩⟩) | (at_builtin; go_loud (refine Kd.R_append Kd.bool (w0 := w) w.heap.size rfl (.tmp 30) (.tmp 36) 27 4 (.bool false) 1 rfl hu27 infoB rfl (by decide) (by omega) u14 acc b [.bool b] (fun k_ => some k_ ≠ (.slice Ao vals.length co : Value).ownBlock) (fun _ => False) rfl rfl rfl (fun _ hk => hk.elim) ?aF ?aO ?aB ?aS ?aL ?_; (case aB => exact (wl_ HB.out)); (case aF => exact (fun k_ hk => Kd.fresh' (Kd.R_lt (rl_ HO.out)) k_ hk)); (case aO => exact (rl_ HA.out)); (case aS => exact below_size (wl_ HB.out)); (case aL => have := HI.out.2.2; have := HJ.out; have := HLS.out; omega); intro v2 w14 ho hb hg hat; have n0_ := M_ (Kd.R_after (ok := (fun _ => True)) (rl_ (Kd.R_mono HO.out (fun _ hk => ⟨trivial, hk⟩))) hg hat); have n1_ := M_ hb; have n2_ := M_ ho; clear HO HB HA ho hb hg hat; have HO := n0_; have HB := n1_; have HA := n2_; clear n0_ n1_ n2_)))
    go_roundg (gk - 1)
    case measure => have := HI.out; omega
    case rel => exact ⟨j + 1, acc ++ [b], re, by rw [WJ.out], ⟨HJ.out, by have := HI.out; omega, by rw [List.length_append, HI.out.2.2]; rfl⟩, ⟨HR.out, by rw [List.append_assoc]; exact HACC.out⟩, ⟨by repeat (first | (with_reducible first | exact HB.out | apply b0_ | apply b1_ | apply b2_) | exact HB.out)⟩, ⟨by (with_reducible repeat (first | apply a0_ | apply a1_ | apply a2_)); exact Kd.R_mono HO.out (fun _ hk => hk.2)⟩, ⟨by (with_reducible repeat (first | apply a0_ | apply a1_ | apply a2_)); exact HA.out⟩⟩
   ·have cb : decide (j < ls.length) = false := decide_eq_false c
    have hj : j = ls.length := by have := HI.out.1; omega
    have hv := HV2.out
    rw [hj, List.drop_length] at hv
    obtain ⟨hv, hacc⟩ := hv
    obtain rfl := Option.some.inj hv
    rw [List.append_nil] at hacc
    subst hacc
    clear hj
    go_wp2
    go_ret2
    exact ⟨_, rfl, Kd.R_mono HA.out (fun _ _ => trivial), HB.out⟩
 ·rw [if_neg c] at h
  simp only [Option.some.injEq, Prod.mk.injEq] at h
  obtain ⟨rfl, rfl⟩ := h
  have b : (e0 != 0) = true := bne_iff_ne.mpr c
  clear c
  go_enter Try.func42, Try.ntmps42
  go_wp2_with (go_at_call 35; (with_reducible refine (values_All.calls a0_0 _ _ l0_1 _ _ l0_2 _ _ l0_3 _ _ l0_4 _ _ l1 _ _ l2 vals _ _ ?s1 ?s2 ?s3 ?s4 ?s5 ?s6 ?s7 ?s8 ?s9 ?s10 ?s11 ?s12 HE.out).mono ?_); (case s1 => exact Kd.C_below HR0_1.out (below_alloc (Below.refl _ _) _)); (case s2 => exact HC0_1.out); (case s3 => exact Kd.C_below HR0_2.out (below_alloc (Below.refl _ _) _)); (case s4 => exact HC0_2.out); (case s5 => exact Kd.C_below HR0_3.out (below_alloc (Below.refl _ _) _)); (case s6 => exact HC0_3.out); (case s7 => exact Kd.C_below HR0_4.out (below_alloc (Below.refl _ _) _)); (case s8 => exact HC0_4.out); (case s9 => exact Kd.C_below HR1.out (below_alloc (Below.refl _ _) _)); (case s10 => exact HC1.out); (case s11 => exact Kd.C_below HR2.out (below_alloc (Below.refl _ _) _)); (case s12 => exact HC2.out); rintro e w1 ⟨v0, rfl, ho, hb⟩; have HO := M_ (Kd.R_lower (base' := w.heap.size) ho (by simp)); have HB := M_ (below_step (below_alloc (Below.refl _ _) _) hb); clear hb ho)
  go_ret2
  exact ⟨_, rfl, Kd.R_nil _ _ _ _ _, HB.out⟩

set_option maxHeartbeats 2000000 in
set_option maxRecDepth 100000 in
theorem next1_calls (B : Nat) (i : Nat) (a0_0 : Int) (A0_1 : Option Addr) (c0_1 : Nat) (l0_1 : List S36) (A0_2 : Option Addr) (c0_2 : Nat) (l0_2 : List S69) (A0_3 : Option Addr) (c0_3 : Nat) (l0_3 : List Int) (A0_4 : Option Addr) (c0_4 : Nat) (l0_4 : List Int) (w : World) (hb : w.heap[B]? = some (.cells #[.int .i64 a0_0, .slice A0_1 l0_1.length c0_1, .slice A0_2 l0_2.length c0_2, .slice A0_3 l0_3.length c0_3, .slice A0_4 l0_4.length c0_4] 26 (0, 0))) (hr : Kd.C k36 w A0_1 l0_1.length l0_1) (hi : i < l0_1.length) :
  Calls Try.prog 43 #[.int .i64 (i : Int), .pointer (some ⟨B, 0, none⟩)] w fun e w' => e = .returned (.int .i64 ((rd_T36 l0_1 (i : Int)).f0)) ∧ Drawn0 w w' := by
 have hu26 := Try.underlying26
 have hu36 := Try.underlying36
 have k := blk_cell hb 1
 simp only [List.getElem?_toArray, List.getElem?_cons_succ, List.getElem?_cons_zero] at k
 obtain ⟨ad, rfl, hx0, hy0⟩ := at_T36 hr (i : Int) (by omega) (by omega)
 have hx : w.cell? (ad.add (i * 2)) = some (.int .i64 (rd_T36 l0_1 (i : Int)).f0) := hx0
 clear hx0 hy0
 have p0 : ((0 : Int) ≤ (i : Int)) = True := eq_true (by omega)
 have q0 : ((i : Int) < (l0_1.length : Int)) = True := eq_true (by omega)
 go_enter Try.func43, Try.ntmps43
 go_wp2
 go_ret
 exact ⟨rfl, Drawn0.refl _⟩

theorem map_f0 (l : List S36) (i : Nat) (h : i < l.length) : rd (l.map fun x => x.f0) (i : Int) = (rd_T36 l (i : Int)).f0 := by simp [rd, rd_T36, List.getD, h]
def values_Next.f (a0_0 : Int) (l0_1 : List S36) (l0_2 : List S69) (l0_3 : List Int) (l0_4 : List Int) (l1 l2 : List Bool) : Option (List Bool × Int) :=
 if l0_1.length ≤ 1000000 then listF a0_0 l0_1 l0_2 l0_3 l0_4 l1 l2 (l0_1.map fun x => x.f0) else none
set_option maxHeartbeats 2000000 in
set_option maxRecDepth 100000 in
theorem values_Next.calls (a0_0 : Int) (A0_1 : Option Addr) (c0_1 : Nat) (l0_1 : List S36) (A0_2 : Option Addr) (c0_2 : Nat) (l0_2 : List S69) (A0_3 : Option Addr) (c0_3 : Nat) (l0_3 : List Int) (A0_4 : Option Addr) (c0_4 : Nat) (l0_4 : List Int) (A1 : Option Addr) (c1 : Nat) (l1 : List Bool) (A2 : Option Addr) (c2 : Nat) (l2 : List Bool) (r1 : List Bool) (r2 : Int) (w : World) (hr0_1 : Kd.C k36 w A0_1 l0_1.length l0_1) (hc0_1 : l0_1.length ≤ c0_1) (hr0_2 : Kd.C k69 w A0_2 l0_2.length l0_2) (hc0_2 : l0_2.length ≤ c0_2) (hr0_3 : Kd.C (Kd.int .i64) w A0_3 l0_3.length l0_3) (hc0_3 : l0_3.length ≤ c0_3) (hr0_4 : Kd.C (Kd.int .i64) w A0_4 l0_4.length l0_4) (hc0_4 : l0_4.length ≤ c0_4) (hr1 : Kd.C Kd.bool w A1 l1.length l1) (hc1 : l1.length ≤ c1) (hr2 : Kd.C Kd.bool w A2 l2.length l2) (hc2 : l2.length ≤ c2) (h : values_Next.f a0_0 l0_1 l0_2 l0_3 l0_4 l1 l2 = some (r1, r2)) :
  Calls Try.prog 13 #[.agg #[.int .i64 a0_0, .slice A0_1 l0_1.length c0_1, .slice A0_2 l0_2.length c0_2, .slice A0_3 l0_3.length c0_3, .slice A0_4 l0_4.length c0_4], .slice A1 l1.length c1, .slice A2 l2.length c2] w fun e w' => ∃ v0_ : Value, e = .returned (.tuple #[v0_, .int .i64 r2]) ∧ Kd.R Kd.bool 4 w' w.heap.size (fun _ => True) v0_ r1 ∧ Below w.heap.size w w' := by
 have hu26 := Try.underlying26
 have hu27 := Try.underlying27
 have hu4 := Try.underlying4
 have HR0_1 := M_ hr0_1
 have HR0_2 := M_ hr0_2
 have HR0_3 := M_ hr0_3
 have HR0_4 := M_ hr0_4
 have HC0_1 := M_ hc0_1
 have HC0_2 := M_ hc0_2
 have HC0_3 := M_ hc0_3
 have HC0_4 := M_ hc0_4
 have HR1 := M_ hr1
 have HR2 := M_ hr2
 have HC1 := M_ hc1
 have HC2 := M_ hc2
 clear hr0_1 hr0_2 hr0_3 hr0_4 hc0_1 hc0_2 hc0_3 hc0_4 hr1 hr2 hc1 hc2
 unfold values_Next.f at h
 by_cases c : l0_1.length ≤ 1000000
 ·rw [if_pos c] at h
  have HC := M_ c
  have HE := M_ h
  clear c h
  have LS : Aside0 ((l0_1.length : Int) = ((l0_1.map fun x : S36 => x.f0).length : Int)) := ⟨by simp⟩
  have k0 := blk_cell (blk_new w (.cells #[.int .i64 a0_0, .slice A0_1 l0_1.length c0_1, .slice A0_2 l0_2.length c0_2, .slice A0_3 l0_3.length c0_3, .slice A0_4 l0_4.length c0_4] 26)) 0
  have k1 := blk_cell (blk_new w (.cells #[.int .i64 a0_0, .slice A0_1 l0_1.length c0_1, .slice A0_2 l0_2.length c0_2, .slice A0_3 l0_3.length c0_3, .slice A0_4 l0_4.length c0_4] 26)) 1
  simp only [List.getElem?_toArray, List.getElem?_cons_succ, List.getElem?_cons_zero] at k0 k1
  go_enter Try.func13, Try.ntmps13
  go_wp2_with (go_at_call 42; rw [LS.out]; (with_reducible refine (list_calls_next w.heap.size a0_0 _ _ l0_1 _ _ l0_2 _ _ l0_3 _ _ l0_4 _ _ l1 _ _ l2 _ r1 r2 _ ?s1 ?s2 ?s3 ?s4 ?s5 ?s6 ?s7 ?s8 ?s9 ?s10 ?s11 ?s12 ?s13 ?s14 HE.out).mono ?_); (case s1 => exact Kd.C_below HR0_1.out (below_alloc (Below.refl _ _) _)); (case s2 => exact HC0_1.out); (case s3 => exact Kd.C_below HR0_2.out (below_alloc (Below.refl _ _) _)); (case s4 => exact HC0_2.out); (case s5 => exact Kd.C_below HR0_3.out (below_alloc (Below.refl _ _) _)); (case s6 => exact HC0_3.out); (case s7 => exact Kd.C_below HR0_4.out (below_alloc (Below.refl _ _) _)); (case s8 => exact HC0_4.out); (case s9 => exact Kd.C_below HR1.out (below_alloc (Below.refl _ _) _)); (case s10 => exact HC1.out); (case s11 => exact Kd.C_below HR2.out (below_alloc (Below.refl _ _) _)); (case s12 => exact HC2.out); (case s13 => rw [List.length_map]; exact HC.out); (case s14 => intro i hi W hW; rw [List.length_map] at hi; rw [map_f0 _ _ hi]; exact next1_calls w.heap.size i a0_0 A0_1 c0_1 l0_1 A0_2 c0_2 l0_2 A0_3 c0_3 l0_3 A0_4 c0_4 l0_4 W (blk_below (blk_new w (.cells #[.int .i64 a0_0, .slice A0_1 l0_1.length c0_1, .slice A0_2 l0_2.length c0_2, .slice A0_3 l0_3.length c0_3, .slice A0_4 l0_4.length c0_4] 26)) hW) (Kd.C_below HR0_1.out (below_step (below_alloc (Below.refl _ _) _) hW)) hi); rintro e w1 ⟨v0, rfl, ho, hb⟩; have HO := M_ (Kd.R_lower (base' := w.heap.size) ho (by simp)); have HB := M_ (below_step (below_alloc (Below.refl _ _) _) hb); clear hb ho)
  go_ret2
  exact ⟨_, rfl, HO.out, HB.out⟩
 ·rw [if_neg c] at h
  exact absurd h (by simp)

def ternary_Covers.l0 : Nat → List Int → List Int → Int → Int → Option (Bool × Int)
 | 0, _, _, _, _ => none
 | k + 1, x1, x22, x23, x24 => if x24 < x23 then (if 0 ≤ x24 then (if x24 < (x22.length : Int) then (if (rd x22 x24) = 2 then (ternary_Covers.l0 k x1 x22 x23 (wrap64 (x24 + 1))) else (if x24 < (x1.length : Int) then (if (rd x22 x24) = (rd x1 x24) then (ternary_Covers.l0 k x1 x22 x23 (wrap64 (x24 + 1))) else (some (false, 0))) else (none))) else (none)) else (none)) else (some (true, 0))
def ternary_Covers.f (k : Nat) (l0 : List Int) (l1 : List Int) : Option (Bool × Int) := (ternary_check.f l0).bind fun t320 => ((ternary_check.f l1).bind fun t321 => (if (mx t320 t321) = 0 then (if (l0.length : Int) = (l1.length : Int) then (ternary_Covers.l0 k l1 l0 (l0.length : Int) 0) else (some (false, 2))) else (some (false, mx t320 t321))))
set_option maxHeartbeats 8000000 in
set_option maxRecDepth 100000 in
theorem ternary_Covers.calls (k : Nat) (A0 : Option Addr) (c0 : Nat) (l0 : List Int) (A1 : Option Addr) (c1 : Nat) (l1 : List Int) (r1 : Bool) (r2 : Int) (w : World) (hr0 : Kd.C (Kd.int .u8) w A0 l0.length l0) (hc0 : l0.length ≤ c0) (hr1 : Kd.C (Kd.int .u8) w A1 l1.length l1) (hc1 : l1.length ≤ c1) (h : ternary_Covers.f k l0 l1 = some (r1, r2)) :
  Calls Try.prog 44 #[.slice A0 l0.length c0, .slice A1 l1.length c1] w fun e w' => e = .returned (.tuple #[.bool r1, .int .i64 r2]) ∧ Below w.heap.size w w' := by
 have HR0 := M_ hr0
 have HC0 := M_ hc0
 clear hr0 hc0
 have HR1 := M_ hr1
 have HC1 := M_ hc1
 clear hr1 hc1
 have HB := M_ (Below.refl w.heap.size w)
 have H : ((ternary_check.f l0).bind fun t320 => ((ternary_check.f l1).bind fun t321 => (if (mx t320 t321) = 0 then (if (l0.length : Int) = (l1.length : Int) then (ternary_Covers.l0 k l1 l0 (l0.length : Int) 0) else (some (false, 2))) else (some (false, mx t320 t321))))) = some (r1, r2) := h
 clear h
 replace H := Option.bind_eq_some_iff.mp H
 obtain ⟨t320, A30, H⟩ := H
 replace H : ((ternary_check.f l1).bind fun t321 => (if (mx t320 t321) = 0 then (if (l0.length : Int) = (l1.length : Int) then (ternary_Covers.l0 k l1 l0 (l0.length : Int) 0) else (some (false, 2))) else (some (false, mx t320 t321)))) = some (r1, r2) := H
 have A3 := M_ A30
 clear A30
 replace H := Option.bind_eq_some_iff.mp H
 obtain ⟨t321, A40, H⟩ := H
 replace H : (if (mx t320 t321) = 0 then (if (l0.length : Int) = (l1.length : Int) then (ternary_Covers.l0 k l1 l0 (l0.length : Int) 0) else (some (false, 2))) else (some (false, mx t320 t321))) = some (r1, r2) := H
 have A4 := M_ A40
 clear A40
 obtain ⟨ji5, hji5⟩ : ∃ j_ : Int, (mx t320 t321) = j_ := ⟨_, rfl⟩
 replace H : (if (ji5) = 0 then (if (l0.length : Int) = (l1.length : Int) then (ternary_Covers.l0 k l1 l0 (l0.length : Int) 0) else (some (false, 2))) else (some (false, ji5))) = some (r1, r2) := by first | (rw [hji5] at H; exact H) | (simp only [hji5] at H ⊢; exact H)
 (try rw [hji5] at A3)
 (try rw [hji5] at A4)
 have hji5_ : (if t320 < t321 then t321 else t320) = ji5 := hji5
 by_cases c6 : (ji5) = 0
 ·rw [if_pos c6] at H
  have c6b0 : ((ji5) == 0) = true := beq_iff_eq.mpr c6
  have c6b1 : ((ji5) != 0) = false := bne_eq_false_iff_eq.mpr c6
  clear c6
  by_cases c7 : (l0.length : Int) = (l1.length : Int)
  ·rw [if_pos c7] at H
   have c7b0 : ((l0.length : Int) == (l1.length : Int)) = true := beq_iff_eq.mpr c7
   have c7b1 : ((l0.length : Int) != (l1.length : Int)) = false := bne_eq_false_iff_eq.mpr c7
   have c7b2 : (l0.length == l1.length) = true := by first | simpa using c7 | (simp at c7 ⊢; omega)
   clear c7
   have H' := M_ H
   clear H
   go_enter Try.func44, Try.ntmps44
   go_wp2_with (first | ((with_reducible refine gate_callee (f := 79) rfl ?_); refine goesL_ (some 10) rfl rfl Try.func79 (by kernel_rfl) rfl #[.slice A0 l0.length c0] rfl (by (try simp only [List.map_toArray, List.map_cons, List.map_nil]); first | done | rfl) ?_; (with_reducible refine (ternary_check.calls _ _ l0 t320 _ ?side1 ?side2 A3.out).mono ?_); (case side1 => exact cl_ HR0.out); (case side2 => exact HC0.out); rintro e w' ⟨rfl, ⟨nd, rfl⟩⟩; refine ⟨_, rfl, ?_⟩) | ((with_reducible refine gate_callee (f := 79) rfl ?_); refine goesL_ (some 12) rfl rfl Try.func79 (by kernel_rfl) rfl #[.slice A1 l1.length c1] rfl (by (try simp only [List.map_toArray, List.map_cons, List.map_nil]); first | done | rfl) ?_; (with_reducible refine (ternary_check.calls _ _ l1 t321 _ ?side1 ?side2 A4.out).mono ?_); (case side1 => exact cl_ HR1.out); (case side2 => exact HC1.out); rintro e w' ⟨rfl, ⟨nd, rfl⟩⟩; refine ⟨_, rfl, ?_⟩))
   go_loopg [24] k (fun kq v24 w' => ∃ (x24_1 : Int), v24 = .int .i64 x24_1 ∧ Aside0 (ternary_Covers.l0 kq l1 l0 (l0.length : Int) x24_1 = some (r1, r2)) ∧ Aside0 (kq ≤ k) ∧ Aside0 (Below w.heap.size w w'))
   case atStart => exact ⟨(0), (by first | rfl | (simp; done) | (simp [*]; done)), H', ⟨Nat.le_refl _⟩, ⟨by repeat (first | (with_reducible first | exact HB.out | apply b0_ | apply b1_ | apply b2_) | exact HB.out)⟩⟩
   case round =>
    clear H'
    try clear c1; try clear p2; try clear c4; try clear c6; try clear c6b0; try clear c6b1; try clear c7; try clear c7b0; try clear c7b1; try clear c7b2
    obtain ⟨x24_1, rfl, HA, HK1, HB⟩ := hrel
    cases gk with
    | zero => exact absurd HA.out (by simp [ternary_Covers.l0])
    | succ k1 =>
     have H := HA.out
     clear HA
     simp only [ternary_Covers.l0] at H
     by_cases c8 : x24_1 < (l0.length : Int)
     ·rw [if_pos c8] at H
      have c8b0 : decide (x24_1 < (l0.length : Int)) = true := decide_eq_true c8
      clear c8
      by_cases c9 : 0 ≤ x24_1
      ·rw [if_pos c9] at H
       have c9b0 : decide (0 ≤ x24_1) = true := decide_eq_true c9
       clear c9
       by_cases c10 : x24_1 < (l0.length : Int)
       ·rw [if_pos c10] at H
        have c10b0 : decide (x24_1 < (l0.length : Int)) = true := decide_eq_true c10
        clear c10
        by_cases c11 : (rd l0 x24_1) = 2
        ·rw [if_pos c11] at H
         have c11b0 : ((rd l0 x24_1) == 2) = true := beq_iff_eq.mpr c11
         have c11b1 : ((rd l0 x24_1) != 2) = false := bne_eq_false_iff_eq.mpr c11
         clear c11
         have H' := M_ H
         clear H
         have p322 : 0 ≤ (x24_1 : Int) := of_decide_eq_true (by first | (with_reducible assumption) | assumption)
         have q322 : x24_1 < (l0.length : Int) := of_decide_eq_true (by first | (with_reducible assumption) | assumption)
         obtain ⟨ad322, e322, hx322_0⟩ := Kd.at_int HR0.out x24_1 p322 q322
         cases e322
         replace hx322_0 := (HB.out.cell (World.block_lt_of_cell? w _ hx322_0)).trans hx322_0
         replace p322 := eq_true p322
         replace q322 := eq_true q322
         go_wp2
         go_roundg k1
         case measure => have := HK1.out; omega
         case rel => exact ⟨(wrap64 (x24_1 + 1)), (by first | rfl | (simp; done) | (simp [*]; done)), H', ⟨by have := HK1.out; omega⟩, ⟨by repeat (first | (with_reducible first | exact HB.out | apply b0_ | apply b1_ | apply b2_) | exact HB.out)⟩⟩
        ·rw [if_neg c11] at H
         have c11b0 : ((rd l0 x24_1) == 2) = false := beq_eq_false_iff_ne.mpr c11
         have c11b1 : ((rd l0 x24_1) != 2) = true := bne_iff_ne.mpr c11
         by_cases c12 : x24_1 < (l1.length : Int)
         ·rw [if_pos c12] at H
          have c12b0 : decide (x24_1 < (l1.length : Int)) = true := decide_eq_true c12
          clear c12
          by_cases c13 : (rd l0 x24_1) = (rd l1 x24_1)
          ·rw [if_pos c13] at H
           have c13b0 : ((rd l0 x24_1) == (rd l1 x24_1)) = true := beq_iff_eq.mpr c13
           have c13b1 : ((rd l0 x24_1) != (rd l1 x24_1)) = false := bne_eq_false_iff_eq.mpr c13
           clear c13
           have H' := M_ H
           clear H
           have p322 : 0 ≤ (x24_1 : Int) := of_decide_eq_true (by first | (with_reducible assumption) | assumption)
           have q322 : x24_1 < (l0.length : Int) := of_decide_eq_true (by first | (with_reducible assumption) | assumption)
           obtain ⟨ad322, e322, hx322_0⟩ := Kd.at_int HR0.out x24_1 p322 q322
           cases e322
           replace hx322_0 := (HB.out.cell (World.block_lt_of_cell? w _ hx322_0)).trans hx322_0
           replace p322 := eq_true p322
           replace q322 := eq_true q322
           have p323 : 0 ≤ (x24_1 : Int) := of_decide_eq_true (by first | (with_reducible assumption) | assumption)
           have q323 : x24_1 < (l1.length : Int) := of_decide_eq_true (by first | (with_reducible assumption) | assumption)
           obtain ⟨ad323, e323, hx323_0⟩ := Kd.at_int HR1.out x24_1 p323 q323
           cases e323
           replace hx323_0 := (HB.out.cell (World.block_lt_of_cell? w _ hx323_0)).trans hx323_0
           replace p323 := eq_true p323
           replace q323 := eq_true q323
           go_wp2
           go_roundg k1
           case measure => have := HK1.out; omega
           case rel => exact ⟨(wrap64 (x24_1 + 1)), (by first | rfl | (simp; done) | (simp [*]; done)), H', ⟨by have := HK1.out; omega⟩, ⟨by repeat (first | (with_reducible first | exact HB.out | apply b0_ | apply b1_ | apply b2_) | exact HB.out)⟩⟩
          ·rw [if_neg c13] at H
           have c13b0 : ((rd l0 x24_1) == (rd l1 x24_1)) = false := beq_eq_false_iff_ne.mpr c13
           have c13b1 : ((rd l0 x24_1) != (rd l1 x24_1)) = true := bne_iff_ne.mpr c13
           simp only [Option.some.injEq, Prod.mk.injEq] at H
           obtain ⟨rfl, rfl⟩ := H
           have p322 : 0 ≤ (x24_1 : Int) := of_decide_eq_true (by first | (with_reducible assumption) | assumption)
           have q322 : x24_1 < (l0.length : Int) := of_decide_eq_true (by first | (with_reducible assumption) | assumption)
           obtain ⟨ad322, e322, hx322_0⟩ := Kd.at_int HR0.out x24_1 p322 q322
           cases e322
           replace hx322_0 := (HB.out.cell (World.block_lt_of_cell? w _ hx322_0)).trans hx322_0
           replace p322 := eq_true p322
           replace q322 := eq_true q322
           have p323 : 0 ≤ (x24_1 : Int) := of_decide_eq_true (by first | (with_reducible assumption) | assumption)
           have q323 : x24_1 < (l1.length : Int) := of_decide_eq_true (by first | (with_reducible assumption) | assumption)
           obtain ⟨ad323, e323, hx323_0⟩ := Kd.at_int HR1.out x24_1 p323 q323
           cases e323
           replace hx323_0 := (HB.out.cell (World.block_lt_of_cell? w _ hx323_0)).trans hx323_0
           replace p323 := eq_true p323
           replace q323 := eq_true q323
           go_wp2
           go_ret2
           exact ⟨by first | rfl | (simp [errW_none, errW_some] <;> rfl) | (simp only [← hji5]; first | rfl | (simp [errW_none, errW_some] <;> rfl)) | (simp [*, errW_none, errW_some] <;> rfl), by repeat (first | (with_reducible first | exact HB.out | apply b0_ | apply b1_ | apply b2_) | exact HB.out)⟩
         ·rw [if_neg c12] at H
          exact absurd H (by simp)
       ·rw [if_neg c10] at H
        exact absurd H (by simp)
      ·rw [if_neg c9] at H
       exact absurd H (by simp)
     ·rw [if_neg c8] at H
      have c8b0 : decide (x24_1 < (l0.length : Int)) = false := decide_eq_false c8
      clear c8
      simp only [Option.some.injEq, Prod.mk.injEq] at H
      obtain ⟨rfl, rfl⟩ := H
      go_wp2
      go_ret2
      exact ⟨by first | rfl | (simp [errW_none, errW_some] <;> rfl) | (simp only [← hji5]; first | rfl | (simp [errW_none, errW_some] <;> rfl)) | (simp [*, errW_none, errW_some] <;> rfl), by repeat (first | (with_reducible first | exact HB.out | apply b0_ | apply b1_ | apply b2_) | exact HB.out)⟩
  ·rw [if_neg c7] at H
   have c7b0 : ((l0.length : Int) == (l1.length : Int)) = false := beq_eq_false_iff_ne.mpr c7
   have c7b1 : ((l0.length : Int) != (l1.length : Int)) = true := bne_iff_ne.mpr c7
   have c7b2 : (l0.length == l1.length) = false := by first | simpa using c7 | (simp at c7 ⊢; omega)
   simp only [Option.some.injEq, Prod.mk.injEq] at H
   obtain ⟨rfl, rfl⟩ := H
   go_enter Try.func44, Try.ntmps44
   go_wp2_with (first | ((with_reducible refine gate_callee (f := 79) rfl ?_); refine goesL_ (some 10) rfl rfl Try.func79 (by kernel_rfl) rfl #[.slice A0 l0.length c0] rfl (by (try simp only [List.map_toArray, List.map_cons, List.map_nil]); first | done | rfl) ?_; (with_reducible refine (ternary_check.calls _ _ l0 t320 _ ?side1 ?side2 A3.out).mono ?_); (case side1 => exact cl_ HR0.out); (case side2 => exact HC0.out); rintro e w' ⟨rfl, ⟨nd, rfl⟩⟩; refine ⟨_, rfl, ?_⟩) | ((with_reducible refine gate_callee (f := 79) rfl ?_); refine goesL_ (some 12) rfl rfl Try.func79 (by kernel_rfl) rfl #[.slice A1 l1.length c1] rfl (by (try simp only [List.map_toArray, List.map_cons, List.map_nil]); first | done | rfl) ?_; (with_reducible refine (ternary_check.calls _ _ l1 t321 _ ?side1 ?side2 A4.out).mono ?_); (case side1 => exact cl_ HR1.out); (case side2 => exact HC1.out); rintro e w' ⟨rfl, ⟨nd, rfl⟩⟩; refine ⟨_, rfl, ?_⟩))
   go_ret2
   exact ⟨by first | rfl | (simp [errW_none, errW_some] <;> rfl) | (simp only [← hji5]; first | rfl | (simp [errW_none, errW_some] <;> rfl)) | (simp [*, errW_none, errW_some] <;> rfl), by repeat (first | (with_reducible first | exact HB.out | apply b0_ | apply b1_ | apply b2_) | exact HB.out)⟩
 ·rw [if_neg c6] at H
  have c6b0 : ((ji5) == 0) = false := beq_eq_false_iff_ne.mpr c6
  have c6b1 : ((ji5) != 0) = true := bne_iff_ne.mpr c6
  simp only [Option.some.injEq, Prod.mk.injEq] at H
  obtain ⟨rfl, rfl⟩ := H
  go_enter Try.func44, Try.ntmps44
  go_wp2_with (first | ((with_reducible refine gate_callee (f := 79) rfl ?_); refine goesL_ (some 10) rfl rfl Try.func79 (by kernel_rfl) rfl #[.slice A0 l0.length c0] rfl (by (try simp only [List.map_toArray, List.map_cons, List.map_nil]); first | done | rfl) ?_; (with_reducible refine (ternary_check.calls _ _ l0 t320 _ ?side1 ?side2 A3.out).mono ?_); (case side1 => exact cl_ HR0.out); (case side2 => exact HC0.out); rintro e w' ⟨rfl, ⟨nd, rfl⟩⟩; refine ⟨_, rfl, ?_⟩) | ((with_reducible refine gate_callee (f := 79) rfl ?_); refine goesL_ (some 12) rfl rfl Try.func79 (by kernel_rfl) rfl #[.slice A1 l1.length c1] rfl (by (try simp only [List.map_toArray, List.map_cons, List.map_nil]); first | done | rfl) ?_; (with_reducible refine (ternary_check.calls _ _ l1 t321 _ ?side1 ?side2 A4.out).mono ?_); (case side1 => exact cl_ HR1.out); (case side2 => exact HC1.out); rintro e w' ⟨rfl, ⟨nd, rfl⟩⟩; refine ⟨_, rfl, ?_⟩))
  go_ret2
  exact ⟨by first | rfl | (simp [errW_none, errW_some] <;> rfl) | (simp only [← hji5]; first | rfl | (simp [errW_none, errW_some] <;> rfl)) | (simp [*, errW_none, errW_some] <;> rfl), by repeat (first | (with_reducible first | exact HB.out | apply b0_ | apply b1_ | apply b2_) | exact HB.out)⟩

end Go.Proofs.Ytmcdanpecajklaa.QTernsimValues
