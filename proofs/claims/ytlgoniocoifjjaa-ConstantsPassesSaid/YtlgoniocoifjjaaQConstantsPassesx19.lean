import Derived.Test.YtlgoniocoifjjaaLay
import Derived.Test.YtlgoniocoifjjaaQConstantsPassesx0
import Derived.Test.YtlgoniocoifjjaaQConstantsPassesx8
import Derived.Test.YtlgoniocoifjjaaQConstantsPassesx18
namespace Go.Proofs.Ytlgoniocoifjjaa.QConstantsPasses
open Go.RowKit Go.Proofs.YtlgoniocoifjjaaW.PrintWords Go.Proofs.YtlgoniocoifjjaaW.PrintLast Go.Proofs.YtlgoniocoifjjaaW.PrintMore
attribute [local go_sem] max2_int min2_int max_two min_two max_three min_three max_four min_four
set_option linter.unusedVariables false
set_option linter.unusedSimpArgs false

mutual
def spiritlevelref25_SameLift.j0 : Nat → Bool → Int → Int → List Int → List (List Int) → List Int → List (S55) → Int → Int → Int → List Int → List (List Int) → List Int → List (S55) → Int → Option (Bool)
 | 0, _, _, _, _, _, _, _, _, _, _, _, _, _, _, _ => none
 | k + 1, x50, x364000, x364001, x364002, x364003, x364004, x364005, x364006, x365000, x365001, x365002, x365003, x365004, x365005, x365006 => if x50 = true then (some false) else (spiritlevelref25_SameLift.l0 k 0 x364000 x364001 x364002 x364003 x364004 x364005 x364006 x365000 x365001 x365002 x365003 x365004 x365005 x365006)
def spiritlevelref25_SameLift.l0 : Nat → Int → Int → Int → List Int → List (List Int) → List Int → List (S55) → Int → Int → Int → List Int → List (List Int) → List Int → List (S55) → Int → Option (Bool)
 | 0, _, _, _, _, _, _, _, _, _, _, _, _, _, _, _ => none
 | k + 1, x5, x364000, x364001, x364002, x364003, x364004, x364005, x364006, x365000, x365001, x365002, x365003, x365004, x365005, x365006 => if x5 < (x364003.length : Int) then (if 0 ≤ x5 then (if x5 < (x365003.length : Int) then ((spiritlevelref02_SameInts.f k (rd_L3 x364003 x5) (rd_L3 x365003 x5)).bind fun t370 => (if t370 = true then (spiritlevelref25_SameLift.l0 k (wrap64 (x5 + 1)) x364000 x364001 x364002 x364003 x364004 x364005 x364006 x365000 x365001 x365002 x365003 x365004 x365005 x365006) else (some false))) else (none)) else (none)) else (some true)
end
def spiritlevelref25_SameLift.f (k : Nat) (a0_0 : Int) (a0_1 : Int) (l0_2 : List Int) (l0_3 : List (List Int)) (l0_4 : List Int) (l0_5 : List (S55)) (a0_6 : Int) (a1_0 : Int) (a1_1 : Int) (l1_2 : List Int) (l1_3 : List (List Int)) (l1_4 : List Int) (l1_5 : List (S55)) (a1_6 : Int) : Option (Bool) := if a0_0 = a1_0 then (if a0_1 = a1_1 then ((spiritlevelref02_SameInts.f k l0_2 l1_2).bind fun t365 => (if t365 = true then ((spiritlevelref02_SameInts.f k l0_4 l1_4).bind fun t366 => (if t366 = true then (if (l0_3.length : Int) = (l1_3.length : Int) then ((spiritlevelref25_SamePred.f k l0_5 a0_6 l1_5 a1_6).bind fun t367 => (spiritlevelref25_SameLift.j0 k (!t367) a0_0 a0_1 l0_2 l0_3 l0_4 l0_5 a0_6 a1_0 a1_1 l1_2 l1_3 l1_4 l1_5 a1_6)) else (spiritlevelref25_SameLift.j0 k true a0_0 a0_1 l0_2 l0_3 l0_4 l0_5 a0_6 a1_0 a1_1 l1_2 l1_3 l1_4 l1_5 a1_6)) else (spiritlevelref25_SameLift.j0 k true a0_0 a0_1 l0_2 l0_3 l0_4 l0_5 a0_6 a1_0 a1_1 l1_2 l1_3 l1_4 l1_5 a1_6))) else (spiritlevelref25_SameLift.j0 k true a0_0 a0_1 l0_2 l0_3 l0_4 l0_5 a0_6 a1_0 a1_1 l1_2 l1_3 l1_4 l1_5 a1_6))) else (spiritlevelref25_SameLift.j0 k true a0_0 a0_1 l0_2 l0_3 l0_4 l0_5 a0_6 a1_0 a1_1 l1_2 l1_3 l1_4 l1_5 a1_6)) else (spiritlevelref25_SameLift.j0 k true a0_0 a0_1 l0_2 l0_3 l0_4 l0_5 a0_6 a1_0 a1_1 l1_2 l1_3 l1_4 l1_5 a1_6)
set_option maxHeartbeats 8000000 in
set_option maxRecDepth 100000 in
theorem spiritlevelref25_SameLift.calls (k : Nat) (a0_0 : Int) (a0_1 : Int) (A0_2 : Option Addr) (c0_2 : Nat) (l0_2 : List Int) (A0_3 : Option Addr) (c0_3 : Nat) (l0_3 : List (List Int)) (A0_4 : Option Addr) (c0_4 : Nat) (l0_4 : List Int) (A0_5 : Option Addr) (c0_5 : Nat) (l0_5 : List (S55)) (a0_6 : Int) (a1_0 : Int) (a1_1 : Int) (A1_2 : Option Addr) (c1_2 : Nat) (l1_2 : List Int) (A1_3 : Option Addr) (c1_3 : Nat) (l1_3 : List (List Int)) (A1_4 : Option Addr) (c1_4 : Nat) (l1_4 : List Int) (A1_5 : Option Addr) (c1_5 : Nat) (l1_5 : List (S55)) (a1_6 : Int) (r : Bool) (w : World) (hr0_2 : Kd.C (Kd.int .i64) w A0_2 l0_2.length l0_2) (hc0_2 : l0_2.length ≤ c0_2) (hr0_3 : Kd.C (Kd.slice 3 (Kd.int .i64)) w A0_3 l0_3.length l0_3) (hc0_3 : l0_3.length ≤ c0_3) (hr0_4 : Kd.C (Kd.int .i64) w A0_4 l0_4.length l0_4) (hc0_4 : l0_4.length ≤ c0_4) (hr0_5 : Kd.C k55 w A0_5 l0_5.length l0_5) (hc0_5 : l0_5.length ≤ c0_5) (hr1_2 : Kd.C (Kd.int .i64) w A1_2 l1_2.length l1_2) (hc1_2 : l1_2.length ≤ c1_2) (hr1_3 : Kd.C (Kd.slice 3 (Kd.int .i64)) w A1_3 l1_3.length l1_3) (hc1_3 : l1_3.length ≤ c1_3) (hr1_4 : Kd.C (Kd.int .i64) w A1_4 l1_4.length l1_4) (hc1_4 : l1_4.length ≤ c1_4) (hr1_5 : Kd.C k55 w A1_5 l1_5.length l1_5) (hc1_5 : l1_5.length ≤ c1_5) (h : spiritlevelref25_SameLift.f k a0_0 a0_1 l0_2 l0_3 l0_4 l0_5 a0_6 a1_0 a1_1 l1_2 l1_3 l1_4 l1_5 a1_6 = some r) :
  Calls Try.prog 49 #[.agg #[.int .i64 a0_0, .int .i64 a0_1, .slice A0_2 l0_2.length c0_2, .slice A0_3 l0_3.length c0_3, .slice A0_4 l0_4.length c0_4, .slice A0_5 l0_5.length c0_5, .int .i64 a0_6], .agg #[.int .i64 a1_0, .int .i64 a1_1, .slice A1_2 l1_2.length c1_2, .slice A1_3 l1_3.length c1_3, .slice A1_4 l1_4.length c1_4, .slice A1_5 l1_5.length c1_5, .int .i64 a1_6]] w fun e w' => e = .returned (.bool r) ∧ Below w.heap.size w w' := by
 have hu37 := Try.underlying37
 have hu35 := Try.underlying35
 have HR0_2 := M_ hr0_2
 have HC0_2 := M_ hc0_2
 clear hr0_2 hc0_2
 have HR0_3 := M_ hr0_3
 have HC0_3 := M_ hc0_3
 clear hr0_3 hc0_3
 have HR0_4 := M_ hr0_4
 have HC0_4 := M_ hc0_4
 clear hr0_4 hc0_4
 have HR0_5 := M_ hr0_5
 have HC0_5 := M_ hc0_5
 clear hr0_5 hc0_5
 have HR1_2 := M_ hr1_2
 have HC1_2 := M_ hc1_2
 clear hr1_2 hc1_2
 have HR1_3 := M_ hr1_3
 have HC1_3 := M_ hc1_3
 clear hr1_3 hc1_3
 have HR1_4 := M_ hr1_4
 have HC1_4 := M_ hc1_4
 clear hr1_4 hc1_4
 have HR1_5 := M_ hr1_5
 have HC1_5 := M_ hc1_5
 clear hr1_5 hc1_5
 have HB := M_ (Below.refl w.heap.size w)
 have H : (if a0_0 = a1_0 then (if a0_1 = a1_1 then ((spiritlevelref02_SameInts.f k l0_2 l1_2).bind fun t365 => (if t365 = true then ((spiritlevelref02_SameInts.f k l0_4 l1_4).bind fun t366 => (if t366 = true then (if (l0_3.length : Int) = (l1_3.length : Int) then ((spiritlevelref25_SamePred.f k l0_5 a0_6 l1_5 a1_6).bind fun t367 => (spiritlevelref25_SameLift.j0 k (!t367) a0_0 a0_1 l0_2 l0_3 l0_4 l0_5 a0_6 a1_0 a1_1 l1_2 l1_3 l1_4 l1_5 a1_6)) else (spiritlevelref25_SameLift.j0 k true a0_0 a0_1 l0_2 l0_3 l0_4 l0_5 a0_6 a1_0 a1_1 l1_2 l1_3 l1_4 l1_5 a1_6)) else (spiritlevelref25_SameLift.j0 k true a0_0 a0_1 l0_2 l0_3 l0_4 l0_5 a0_6 a1_0 a1_1 l1_2 l1_3 l1_4 l1_5 a1_6))) else (spiritlevelref25_SameLift.j0 k true a0_0 a0_1 l0_2 l0_3 l0_4 l0_5 a0_6 a1_0 a1_1 l1_2 l1_3 l1_4 l1_5 a1_6))) else (spiritlevelref25_SameLift.j0 k true a0_0 a0_1 l0_2 l0_3 l0_4 l0_5 a0_6 a1_0 a1_1 l1_2 l1_3 l1_4 l1_5 a1_6)) else (spiritlevelref25_SameLift.j0 k true a0_0 a0_1 l0_2 l0_3 l0_4 l0_5 a0_6 a1_0 a1_1 l1_2 l1_3 l1_4 l1_5 a1_6)) = some r := h
 clear h
 have HC3 := M_ H
 clear H
 go_enter Try.func49, Try.ntmps49
 go_upto_region 1 with (first | ((with_reducible refine gate_dst (N := 2) rfl ?_); (try (refine gate_guard (by rfl) ?_; dsimp only)); refine box_event ?hg (N := 2) ?hd (cs := #[.int .i64 a0_0, .int .i64 a0_1, .slice A0_2 l0_2.length c0_2, .slice A0_3 l0_3.length c0_3, .slice A0_4 l0_4.length c0_4, .slice A0_5 l0_5.length c0_5, .int .i64 a0_6]) (t := 37) ?hr ?_; (case hd => rfl); (case hg => rfl); (case hr => first | (go_simp; done) | (go_simp; rfl)); intro gb363 hg w4 hbox hb; have n1_ := M_ (hbox); have n2_ := M_ ((by rw [hg]; exact (below_size (wl_ HB.out)) : w.heap.size ≤ gb363)); have n3_ := M_ ((by rw [hg]; exact (below_size (wl_ HB.out)) : w.heap.size ≤ gb363)); replace HB := wb_ HB hb; have BK363 := n1_; have GW363 := n2_; have GE363 := n3_; have gi363 : Ge _ _ := ⟨GE363.out⟩; clear n1_ n2_ n3_; clear hb hbox hg) | ((with_reducible refine gate_dst (N := 3) rfl ?_); (try (refine gate_guard (by rfl) ?_; dsimp only)); refine box_event ?hg (N := 3) ?hd (cs := #[.int .i64 a1_0, .int .i64 a1_1, .slice A1_2 l1_2.length c1_2, .slice A1_3 l1_3.length c1_3, .slice A1_4 l1_4.length c1_4, .slice A1_5 l1_5.length c1_5, .int .i64 a1_6]) (t := 37) ?hr ?_; (case hd => rfl); (case hg => rfl); (case hr => first | (go_simp; done) | (go_simp; rfl)); intro gb364 hg w5 hbox hb; have n2_ := M_ (hbox); have n3_ := M_ ((by rw [hg]; exact (below_size (ws_ HB.out)) : w.heap.size ≤ gb364)); have n4_ := M_ ((by rw [hg]; exact (below_size (ws_ HB.out)) : w.heap.size ≤ gb364)); have n5_ := M_ ((by rw [hg]; exact Nat.ne_of_lt (blk_lt (bl_ BK363.out)) : gb363 ≠ gb364)); have n6_ := M_ ((by rw [hg]; exact Nat.ne_of_gt (blk_lt (bl_ BK363.out)) : gb364 ≠ gb363)); replace BK363 := bb_ BK363 hb; replace HB := wb_ HB hb; have BK364 := n2_; have GW364 := n3_; have GE364 := n4_; have gi364 : Ge _ _ := ⟨GE364.out⟩; have NB363_364 := n5_; have NB364_363 := n6_; clear n2_ n3_ n4_ n5_ n6_; clear hb hbox hg))
 repeat (go_quiet (first | ((with_reducible refine gate_dst (N := 2) rfl ?_); (try (refine gate_guard (by rfl) ?_; dsimp only)); refine box_event ?hg (N := 2) ?hd (cs := #[.int .i64 a0_0, .int .i64 a0_1, .slice A0_2 l0_2.length c0_2, .slice A0_3 l0_3.length c0_3, .slice A0_4 l0_4.length c0_4, .slice A0_5 l0_5.length c0_5, .int .i64 a0_6]) (t := 37) ?hr ?_; (case hd => rfl); (case hg => rfl); (case hr => first | (go_simp; done) | (go_simp; rfl)); intro gb363 hg w4 hbox hb; have n1_ := M_ (hbox); have n2_ := M_ ((by rw [hg]; exact (below_size (wl_ HB.out)) : w.heap.size ≤ gb363)); have n3_ := M_ ((by rw [hg]; exact (below_size (wl_ HB.out)) : w.heap.size ≤ gb363)); replace HB := wb_ HB hb; have BK363 := n1_; have GW363 := n2_; have GE363 := n3_; have gi363 : Ge _ _ := ⟨GE363.out⟩; clear n1_ n2_ n3_; clear hb hbox hg) | ((with_reducible refine gate_dst (N := 3) rfl ?_); (try (refine gate_guard (by rfl) ?_; dsimp only)); refine box_event ?hg (N := 3) ?hd (cs := #[.int .i64 a1_0, .int .i64 a1_1, .slice A1_2 l1_2.length c1_2, .slice A1_3 l1_3.length c1_3, .slice A1_4 l1_4.length c1_4, .slice A1_5 l1_5.length c1_5, .int .i64 a1_6]) (t := 37) ?hr ?_; (case hd => rfl); (case hg => rfl); (case hr => first | (go_simp; done) | (go_simp; rfl)); intro gb364 hg w5 hbox hb; have n2_ := M_ (hbox); have n3_ := M_ ((by rw [hg]; exact (below_size (ws_ HB.out)) : w.heap.size ≤ gb364)); have n4_ := M_ ((by rw [hg]; exact (below_size (ws_ HB.out)) : w.heap.size ≤ gb364)); have n5_ := M_ ((by rw [hg]; exact Nat.ne_of_lt (blk_lt (bl_ BK363.out)) : gb363 ≠ gb364)); have n6_ := M_ ((by rw [hg]; exact Nat.ne_of_gt (blk_lt (bl_ BK363.out)) : gb364 ≠ gb363)); replace BK363 := bb_ BK363 hb; replace HB := wb_ HB hb; have BK364 := n2_; have GW364 := n3_; have GE364 := n4_; have gi364 : Ge _ _ := ⟨GE364.out⟩; have NB363_364 := n5_; have NB364_363 := n6_; clear n2_ n3_ n4_ n5_ n6_; clear hb hbox hg)); go_upto_region 1 with (first | ((with_reducible refine gate_dst (N := 2) rfl ?_); (try (refine gate_guard (by rfl) ?_; dsimp only)); refine box_event ?hg (N := 2) ?hd (cs := #[.int .i64 a0_0, .int .i64 a0_1, .slice A0_2 l0_2.length c0_2, .slice A0_3 l0_3.length c0_3, .slice A0_4 l0_4.length c0_4, .slice A0_5 l0_5.length c0_5, .int .i64 a0_6]) (t := 37) ?hr ?_; (case hd => rfl); (case hg => rfl); (case hr => first | (go_simp; done) | (go_simp; rfl)); intro gb363 hg w4 hbox hb; have n1_ := M_ (hbox); have n2_ := M_ ((by rw [hg]; exact (below_size (wl_ HB.out)) : w.heap.size ≤ gb363)); have n3_ := M_ ((by rw [hg]; exact (below_size (wl_ HB.out)) : w.heap.size ≤ gb363)); replace HB := wb_ HB hb; have BK363 := n1_; have GW363 := n2_; have GE363 := n3_; have gi363 : Ge _ _ := ⟨GE363.out⟩; clear n1_ n2_ n3_; clear hb hbox hg) | ((with_reducible refine gate_dst (N := 3) rfl ?_); (try (refine gate_guard (by rfl) ?_; dsimp only)); refine box_event ?hg (N := 3) ?hd (cs := #[.int .i64 a1_0, .int .i64 a1_1, .slice A1_2 l1_2.length c1_2, .slice A1_3 l1_3.length c1_3, .slice A1_4 l1_4.length c1_4, .slice A1_5 l1_5.length c1_5, .int .i64 a1_6]) (t := 37) ?hr ?_; (case hd => rfl); (case hg => rfl); (case hr => first | (go_simp; done) | (go_simp; rfl)); intro gb364 hg w5 hbox hb; have n2_ := M_ (hbox); have n3_ := M_ ((by rw [hg]; exact (below_size (ws_ HB.out)) : w.heap.size ≤ gb364)); have n4_ := M_ ((by rw [hg]; exact (below_size (ws_ HB.out)) : w.heap.size ≤ gb364)); have n5_ := M_ ((by rw [hg]; exact Nat.ne_of_lt (blk_lt (bl_ BK363.out)) : gb363 ≠ gb364)); have n6_ := M_ ((by rw [hg]; exact Nat.ne_of_gt (blk_lt (bl_ BK363.out)) : gb364 ≠ gb363)); replace BK363 := bb_ BK363 hb; replace HB := wb_ HB hb; have BK364 := n2_; have GW364 := n3_; have GE364 := n4_; have gi364 : Ge _ _ := ⟨GE364.out⟩; have NB363_364 := n5_; have NB364_363 := n6_; clear n2_ n3_ n4_ n5_ n6_; clear hb hbox hg)))
 (try simp only [Act.put, e1_, e2_, e3_])
 go_cut [50] (fun v50 wc => ∃ (kq : Nat) (x50_2 : Bool), v50 = .bool x50_2 ∧ Aside0 (spiritlevelref25_SameLift.j0 kq x50_2 a0_0 a0_1 l0_2 l0_3 l0_4 l0_5 a0_6 a1_0 a1_1 l1_2 l1_3 l1_4 l1_5 a1_6 = some r) ∧ Aside0 (kq ≤ k) ∧ Aside0 (wc.heap[gb363]? = some (.cells #[.int .i64 a0_0, .int .i64 a0_1, (.slice A0_2 l0_2.length c0_2), (.slice A0_3 l0_3.length c0_3), (.slice A0_4 l0_4.length c0_4), (.slice A0_5 l0_5.length c0_5), .int .i64 a0_6] 37 (0, 0))) ∧ Aside0 (wc.heap[gb364]? = some (.cells #[.int .i64 a1_0, .int .i64 a1_1, (.slice A1_2 l1_2.length c1_2), (.slice A1_3 l1_3.length c1_3), (.slice A1_4 l1_4.length c1_4), (.slice A1_5 l1_5.length c1_5), .int .i64 a1_6] 37 (0, 0))) ∧ Aside0 (Below w.heap.size w wc))
 case first =>
  have H := HC3.out
  clear HC3
  by_cases c6 : a0_0 = a1_0
  ·rw [if_pos c6] at H
   have c6b0 : (a0_0 == a1_0) = true := beq_iff_eq.mpr c6
   have c6b1 : (a0_0 != a1_0) = false := bne_eq_false_iff_eq.mpr c6
   clear c6
   (first | rw [c6b0] | (simp only [i64_w, i32_w]; rw [c6b0]) | skip)
   by_cases c7 : a0_1 = a1_1
   ·rw [if_pos c7] at H
    have c7b0 : (a0_1 == a1_1) = true := beq_iff_eq.mpr c7
    have c7b1 : (a0_1 != a1_1) = false := bne_eq_false_iff_eq.mpr c7
    clear c7
    replace H := Option.bind_eq_some_iff.mp H
    obtain ⟨t365, A80, H⟩ := H
    replace H : (if t365 = true then ((spiritlevelref02_SameInts.f k l0_4 l1_4).bind fun t366 => (if t366 = true then (if (l0_3.length : Int) = (l1_3.length : Int) then ((spiritlevelref25_SamePred.f k l0_5 a0_6 l1_5 a1_6).bind fun t367 => (spiritlevelref25_SameLift.j0 k (!t367) a0_0 a0_1 l0_2 l0_3 l0_4 l0_5 a0_6 a1_0 a1_1 l1_2 l1_3 l1_4 l1_5 a1_6)) else (spiritlevelref25_SameLift.j0 k true a0_0 a0_1 l0_2 l0_3 l0_4 l0_5 a0_6 a1_0 a1_1 l1_2 l1_3 l1_4 l1_5 a1_6)) else (spiritlevelref25_SameLift.j0 k true a0_0 a0_1 l0_2 l0_3 l0_4 l0_5 a0_6 a1_0 a1_1 l1_2 l1_3 l1_4 l1_5 a1_6))) else (spiritlevelref25_SameLift.j0 k true a0_0 a0_1 l0_2 l0_3 l0_4 l0_5 a0_6 a1_0 a1_1 l1_2 l1_3 l1_4 l1_5 a1_6)) = some r := H
    have A8 := M_ A80
    clear A80
    by_cases c9 : t365 = true
    ·subst c9
     have H1 : ((spiritlevelref02_SameInts.f k l0_4 l1_4).bind fun t366 => (if t366 = true then (if (l0_3.length : Int) = (l1_3.length : Int) then ((spiritlevelref25_SamePred.f k l0_5 a0_6 l1_5 a1_6).bind fun t367 => (spiritlevelref25_SameLift.j0 k (!t367) a0_0 a0_1 l0_2 l0_3 l0_4 l0_5 a0_6 a1_0 a1_1 l1_2 l1_3 l1_4 l1_5 a1_6)) else (spiritlevelref25_SameLift.j0 k true a0_0 a0_1 l0_2 l0_3 l0_4 l0_5 a0_6 a1_0 a1_1 l1_2 l1_3 l1_4 l1_5 a1_6)) else (spiritlevelref25_SameLift.j0 k true a0_0 a0_1 l0_2 l0_3 l0_4 l0_5 a0_6 a1_0 a1_1 l1_2 l1_3 l1_4 l1_5 a1_6))) = some r := by rw [if_pos rfl] at H; exact H
     clear H
     have H := H1
     clear H1
     replace H := Option.bind_eq_some_iff.mp H
     obtain ⟨t366, A100, H⟩ := H
     replace H : (if t366 = true then (if (l0_3.length : Int) = (l1_3.length : Int) then ((spiritlevelref25_SamePred.f k l0_5 a0_6 l1_5 a1_6).bind fun t367 => (spiritlevelref25_SameLift.j0 k (!t367) a0_0 a0_1 l0_2 l0_3 l0_4 l0_5 a0_6 a1_0 a1_1 l1_2 l1_3 l1_4 l1_5 a1_6)) else (spiritlevelref25_SameLift.j0 k true a0_0 a0_1 l0_2 l0_3 l0_4 l0_5 a0_6 a1_0 a1_1 l1_2 l1_3 l1_4 l1_5 a1_6)) else (spiritlevelref25_SameLift.j0 k true a0_0 a0_1 l0_2 l0_3 l0_4 l0_5 a0_6 a1_0 a1_1 l1_2 l1_3 l1_4 l1_5 a1_6)) = some r := H
     have A10 := M_ A100
     clear A100
     by_cases c11 : t366 = true
     ·subst c11
      have H1 : (if (l0_3.length : Int) = (l1_3.length : Int) then ((spiritlevelref25_SamePred.f k l0_5 a0_6 l1_5 a1_6).bind fun t367 => (spiritlevelref25_SameLift.j0 k (!t367) a0_0 a0_1 l0_2 l0_3 l0_4 l0_5 a0_6 a1_0 a1_1 l1_2 l1_3 l1_4 l1_5 a1_6)) else (spiritlevelref25_SameLift.j0 k true a0_0 a0_1 l0_2 l0_3 l0_4 l0_5 a0_6 a1_0 a1_1 l1_2 l1_3 l1_4 l1_5 a1_6)) = some r := by rw [if_pos rfl] at H; exact H
      clear H
      have H := H1
      clear H1
      by_cases c12 : (l0_3.length : Int) = (l1_3.length : Int)
      ·rw [if_pos c12] at H
       have c12b0 : ((l0_3.length : Int) == (l1_3.length : Int)) = true := beq_iff_eq.mpr c12
       have c12b1 : ((l0_3.length : Int) != (l1_3.length : Int)) = false := bne_eq_false_iff_eq.mpr c12
       have c12b2 : (l0_3.length == l1_3.length) = true := by first | simpa using c12 | (simp at c12 ⊢; omega)
       clear c12
       replace H := Option.bind_eq_some_iff.mp H
       obtain ⟨t367, A130, H⟩ := H
       replace H : (spiritlevelref25_SameLift.j0 k (!t367) a0_0 a0_1 l0_2 l0_3 l0_4 l0_5 a0_6 a1_0 a1_1 l1_2 l1_3 l1_4 l1_5 a1_6) = some r := H
       have A13 := M_ A130
       clear A130
       have H' := M_ H
       clear H
       have hnb14 := NB363_364.out
       have hnc14 := NB364_363.out
       have hcz15_0 : w5.cell? ⟨gb363, 0, none⟩ = some (.int .i64 a0_0) := (blk_cell BK363.out 0).trans rfl
       have hcz15_1 : w5.cell? ⟨gb363, 1, none⟩ = some (.int .i64 a0_1) := (blk_cell BK363.out 1).trans rfl
       have hcz15_2 : w5.cell? ⟨gb363, 2, none⟩ = some (.slice A0_2 l0_2.length c0_2) := (blk_cell BK363.out 2).trans rfl
       have hcz15_3 : w5.cell? ⟨gb363, 3, none⟩ = some (.slice A0_3 l0_3.length c0_3) := (blk_cell BK363.out 3).trans rfl
       have hcz15_4 : w5.cell? ⟨gb363, 4, none⟩ = some (.slice A0_4 l0_4.length c0_4) := (blk_cell BK363.out 4).trans rfl
       have hcz15_5 : w5.cell? ⟨gb363, 5, none⟩ = some (.slice A0_5 l0_5.length c0_5) := (blk_cell BK363.out 5).trans rfl
       have hcz15_6 : w5.cell? ⟨gb363, 6, none⟩ = some (.int .i64 a0_6) := (blk_cell BK363.out 6).trans rfl
       have hfz15_0 := blk_frozen BK363.out 0
       have hfz15_1 := blk_frozen BK363.out 1
       have hfz15_2 := blk_frozen BK363.out 2
       have hfz15_3 := blk_frozen BK363.out 3
       have hfz15_4 := blk_frozen BK363.out 4
       have hfz15_5 := blk_frozen BK363.out 5
       have hfz15_6 := blk_frozen BK363.out 6
       have hcz16_0 : w5.cell? ⟨gb364, 0, none⟩ = some (.int .i64 a1_0) := (blk_cell BK364.out 0).trans rfl
       have hcz16_1 : w5.cell? ⟨gb364, 1, none⟩ = some (.int .i64 a1_1) := (blk_cell BK364.out 1).trans rfl
       have hcz16_2 : w5.cell? ⟨gb364, 2, none⟩ = some (.slice A1_2 l1_2.length c1_2) := (blk_cell BK364.out 2).trans rfl
       have hcz16_3 : w5.cell? ⟨gb364, 3, none⟩ = some (.slice A1_3 l1_3.length c1_3) := (blk_cell BK364.out 3).trans rfl
       have hcz16_4 : w5.cell? ⟨gb364, 4, none⟩ = some (.slice A1_4 l1_4.length c1_4) := (blk_cell BK364.out 4).trans rfl
       have hcz16_5 : w5.cell? ⟨gb364, 5, none⟩ = some (.slice A1_5 l1_5.length c1_5) := (blk_cell BK364.out 5).trans rfl
       have hcz16_6 : w5.cell? ⟨gb364, 6, none⟩ = some (.int .i64 a1_6) := (blk_cell BK364.out 6).trans rfl
       have hfz16_0 := blk_frozen BK364.out 0
       have hfz16_1 := blk_frozen BK364.out 1
       have hfz16_2 := blk_frozen BK364.out 2
       have hfz16_3 := blk_frozen BK364.out 3
       have hfz16_4 := blk_frozen BK364.out 4
       have hfz16_5 := blk_frozen BK364.out 5
       have hfz16_6 := blk_frozen BK364.out 6
       go_wp2_with (first | (go_at_call 13; (with_reducible refine (spiritlevelref02_SameInts.calls k _ _ l0_2 _ _ l1_2 true _ ?side1 ?side2 ?side3 ?side4 A8.out).mono ?_); (case side1 => exact cl_ (Kd.C_below HR0_2.out HB.out)); (case side2 => exact HC0_2.out); (case side3 => exact cl_ (Kd.C_below HR1_2.out HB.out)); (case side4 => exact HC1_2.out); rintro e w' ⟨rfl, ⟨nd, rfl⟩⟩; (try first | exact ⟨rfl, _, World.drewN_drewN _ _ _⟩ | exact ⟨rfl, _, Eq.trans (World.drewN_drewN _ _ _) (congrArg (World.drewN _) (Nat.add_assoc _ _ _))⟩)) | (go_at_call 13; (with_reducible refine (spiritlevelref02_SameInts.calls k _ _ l0_4 _ _ l1_4 true _ ?side1 ?side2 ?side3 ?side4 A10.out).mono ?_); (case side1 => repeat (first | exact (Kd.C_below HR0_4.out (ws_ HB.out)) | (with_reducible refine c0_ ?_ _) | (with_reducible refine c1_ ?_ _) | (with_reducible refine c2_ ?_))); (case side2 => exact HC0_4.out); (case side3 => repeat (first | exact (Kd.C_below HR1_4.out (ws_ HB.out)) | (with_reducible refine c0_ ?_ _) | (with_reducible refine c1_ ?_ _) | (with_reducible refine c2_ ?_))); (case side4 => exact HC1_4.out); rintro e w' ⟨rfl, ⟨nd, rfl⟩⟩; (try first | exact ⟨rfl, _, World.drewN_drewN _ _ _⟩ | exact ⟨rfl, _, Eq.trans (World.drewN_drewN _ _ _) (congrArg (World.drewN _) (Nat.add_assoc _ _ _))⟩)) | (go_at_call 22; (with_reducible refine (spiritlevelref25_SamePred.calls k _ _ l0_5 a0_6 _ _ l1_5 a1_6 t367 _ ?side1 ?side2 ?side3 ?side4 A13.out).mono ?_); (case side1 => repeat (first | exact (Kd.C_below HR0_5.out (ws_ HB.out)) | (with_reducible refine c0_ ?_ _) | (with_reducible refine c1_ ?_ _) | (with_reducible refine c2_ ?_))); (case side2 => exact HC0_5.out); (case side3 => repeat (first | exact (Kd.C_below HR1_5.out (ws_ HB.out)) | (with_reducible refine c0_ ?_ _) | (with_reducible refine c1_ ?_ _) | (with_reducible refine c2_ ?_))); (case side4 => exact HC1_5.out); rintro e w17 ⟨rfl, hb⟩; have n0_ := bb_ BK363 hb; have n1_ := bb_ BK364 hb; have n2_ := wb_ HB hb; clear BK363; clear BK364; clear HB; have BK363 := n0_; have BK364 := n1_; have HB := n2_; clear n0_ n1_ n2_; (try clear hb); (try clear hb2); (try clear hk); (try clear hi)))
       repeat (go_quiet (first | (go_at_call 13; (with_reducible refine (spiritlevelref02_SameInts.calls k _ _ l0_2 _ _ l1_2 true _ ?side1 ?side2 ?side3 ?side4 A8.out).mono ?_); (case side1 => exact cl_ (Kd.C_below HR0_2.out HB.out)); (case side2 => exact HC0_2.out); (case side3 => exact cl_ (Kd.C_below HR1_2.out HB.out)); (case side4 => exact HC1_2.out); rintro e w' ⟨rfl, ⟨nd, rfl⟩⟩; (try first | exact ⟨rfl, _, World.drewN_drewN _ _ _⟩ | exact ⟨rfl, _, Eq.trans (World.drewN_drewN _ _ _) (congrArg (World.drewN _) (Nat.add_assoc _ _ _))⟩)) | (go_at_call 13; (with_reducible refine (spiritlevelref02_SameInts.calls k _ _ l0_4 _ _ l1_4 true _ ?side1 ?side2 ?side3 ?side4 A10.out).mono ?_); (case side1 => repeat (first | exact (Kd.C_below HR0_4.out (ws_ HB.out)) | (with_reducible refine c0_ ?_ _) | (with_reducible refine c1_ ?_ _) | (with_reducible refine c2_ ?_))); (case side2 => exact HC0_4.out); (case side3 => repeat (first | exact (Kd.C_below HR1_4.out (ws_ HB.out)) | (with_reducible refine c0_ ?_ _) | (with_reducible refine c1_ ?_ _) | (with_reducible refine c2_ ?_))); (case side4 => exact HC1_4.out); rintro e w' ⟨rfl, ⟨nd, rfl⟩⟩; (try first | exact ⟨rfl, _, World.drewN_drewN _ _ _⟩ | exact ⟨rfl, _, Eq.trans (World.drewN_drewN _ _ _) (congrArg (World.drewN _) (Nat.add_assoc _ _ _))⟩)) | (go_at_call 22; (with_reducible refine (spiritlevelref25_SamePred.calls k _ _ l0_5 a0_6 _ _ l1_5 a1_6 t367 _ ?side1 ?side2 ?side3 ?side4 A13.out).mono ?_); (case side1 => repeat (first | exact (Kd.C_below HR0_5.out (ws_ HB.out)) | (with_reducible refine c0_ ?_ _) | (with_reducible refine c1_ ?_ _) | (with_reducible refine c2_ ?_))); (case side2 => exact HC0_5.out); (case side3 => repeat (first | exact (Kd.C_below HR1_5.out (ws_ HB.out)) | (with_reducible refine c0_ ?_ _) | (with_reducible refine c1_ ?_ _) | (with_reducible refine c2_ ?_))); (case side4 => exact HC1_5.out); rintro e w17 ⟨rfl, hb⟩; have n0_ := bb_ BK363 hb; have n1_ := bb_ BK364 hb; have n2_ := wb_ HB hb; clear BK363; clear BK364; clear HB; have BK363 := n0_; have BK364 := n1_; have HB := n2_; clear n0_ n1_ n2_; (try clear hb); (try clear hb2); (try clear hk); (try clear hi))); try go_wp2_with (first | (go_at_call 13; (with_reducible refine (spiritlevelref02_SameInts.calls k _ _ l0_2 _ _ l1_2 true _ ?side1 ?side2 ?side3 ?side4 A8.out).mono ?_); (case side1 => exact cl_ (Kd.C_below HR0_2.out HB.out)); (case side2 => exact HC0_2.out); (case side3 => exact cl_ (Kd.C_below HR1_2.out HB.out)); (case side4 => exact HC1_2.out); rintro e w' ⟨rfl, ⟨nd, rfl⟩⟩; (try first | exact ⟨rfl, _, World.drewN_drewN _ _ _⟩ | exact ⟨rfl, _, Eq.trans (World.drewN_drewN _ _ _) (congrArg (World.drewN _) (Nat.add_assoc _ _ _))⟩)) | (go_at_call 13; (with_reducible refine (spiritlevelref02_SameInts.calls k _ _ l0_4 _ _ l1_4 true _ ?side1 ?side2 ?side3 ?side4 A10.out).mono ?_); (case side1 => repeat (first | exact (Kd.C_below HR0_4.out (ws_ HB.out)) | (with_reducible refine c0_ ?_ _) | (with_reducible refine c1_ ?_ _) | (with_reducible refine c2_ ?_))); (case side2 => exact HC0_4.out); (case side3 => repeat (first | exact (Kd.C_below HR1_4.out (ws_ HB.out)) | (with_reducible refine c0_ ?_ _) | (with_reducible refine c1_ ?_ _) | (with_reducible refine c2_ ?_))); (case side4 => exact HC1_4.out); rintro e w' ⟨rfl, ⟨nd, rfl⟩⟩; (try first | exact ⟨rfl, _, World.drewN_drewN _ _ _⟩ | exact ⟨rfl, _, Eq.trans (World.drewN_drewN _ _ _) (congrArg (World.drewN _) (Nat.add_assoc _ _ _))⟩)) | (go_at_call 22; (with_reducible refine (spiritlevelref25_SamePred.calls k _ _ l0_5 a0_6 _ _ l1_5 a1_6 t367 _ ?side1 ?side2 ?side3 ?side4 A13.out).mono ?_); (case side1 => repeat (first | exact (Kd.C_below HR0_5.out (ws_ HB.out)) | (with_reducible refine c0_ ?_ _) | (with_reducible refine c1_ ?_ _) | (with_reducible refine c2_ ?_))); (case side2 => exact HC0_5.out); (case side3 => repeat (first | exact (Kd.C_below HR1_5.out (ws_ HB.out)) | (with_reducible refine c0_ ?_ _) | (with_reducible refine c1_ ?_ _) | (with_reducible refine c2_ ?_))); (case side4 => exact HC1_5.out); rintro e w17 ⟨rfl, hb⟩; have n0_ := bb_ BK363 hb; have n1_ := bb_ BK364 hb; have n2_ := wb_ HB hb; clear BK363; clear BK364; clear HB; have BK363 := n0_; have BK364 := n1_; have HB := n2_; clear n0_ n1_ n2_; (try clear hb); (try clear hb2); (try clear hk); (try clear hi))))
       go_meet
       case rel => exact ⟨_, (!t367), (by first | rfl | (simp; done) | (simp [*]; done)), H', ⟨by first | omega | exact Nat.le_refl _⟩, ⟨by (with_reducible repeat (first | refine k0_ ?_ _ | refine k1_ ?_ | refine k2_ ?_ _)); exact BK363.out⟩, ⟨by (with_reducible repeat (first | refine k0_ ?_ _ | refine k1_ ?_ | refine k2_ ?_ _)); exact BK364.out⟩, ⟨by repeat (first | (with_reducible first | exact HB.out | apply b0_ | apply b1_ | apply b2_ | refine below_set ?_ GE363.out | refine below_set ?_ GE364.out) | exact HB.out)⟩⟩
      ·rw [if_neg c12] at H
       have c12b0 : ((l0_3.length : Int) == (l1_3.length : Int)) = false := beq_eq_false_iff_ne.mpr c12
       have c12b1 : ((l0_3.length : Int) != (l1_3.length : Int)) = true := bne_iff_ne.mpr c12
       have c12b2 : (l0_3.length == l1_3.length) = false := by first | simpa using c12 | (simp at c12 ⊢; omega)
       have H' := M_ H
       clear H
       have hnb18 := NB363_364.out
       have hnc18 := NB364_363.out
       have hcz19_0 : w5.cell? ⟨gb363, 0, none⟩ = some (.int .i64 a0_0) := (blk_cell BK363.out 0).trans rfl
       have hcz19_1 : w5.cell? ⟨gb363, 1, none⟩ = some (.int .i64 a0_1) := (blk_cell BK363.out 1).trans rfl
       have hcz19_2 : w5.cell? ⟨gb363, 2, none⟩ = some (.slice A0_2 l0_2.length c0_2) := (blk_cell BK363.out 2).trans rfl
       have hcz19_3 : w5.cell? ⟨gb363, 3, none⟩ = some (.slice A0_3 l0_3.length c0_3) := (blk_cell BK363.out 3).trans rfl
       have hcz19_4 : w5.cell? ⟨gb363, 4, none⟩ = some (.slice A0_4 l0_4.length c0_4) := (blk_cell BK363.out 4).trans rfl
       have hcz19_5 : w5.cell? ⟨gb363, 5, none⟩ = some (.slice A0_5 l0_5.length c0_5) := (blk_cell BK363.out 5).trans rfl
       have hcz19_6 : w5.cell? ⟨gb363, 6, none⟩ = some (.int .i64 a0_6) := (blk_cell BK363.out 6).trans rfl
       have hfz19_0 := blk_frozen BK363.out 0
       have hfz19_1 := blk_frozen BK363.out 1
       have hfz19_2 := blk_frozen BK363.out 2
       have hfz19_3 := blk_frozen BK363.out 3
       have hfz19_4 := blk_frozen BK363.out 4
       have hfz19_5 := blk_frozen BK363.out 5
       have hfz19_6 := blk_frozen BK363.out 6
       have hcz20_0 : w5.cell? ⟨gb364, 0, none⟩ = some (.int .i64 a1_0) := (blk_cell BK364.out 0).trans rfl
       have hcz20_1 : w5.cell? ⟨gb364, 1, none⟩ = some (.int .i64 a1_1) := (blk_cell BK364.out 1).trans rfl
       have hcz20_2 : w5.cell? ⟨gb364, 2, none⟩ = some (.slice A1_2 l1_2.length c1_2) := (blk_cell BK364.out 2).trans rfl
       have hcz20_3 : w5.cell? ⟨gb364, 3, none⟩ = some (.slice A1_3 l1_3.length c1_3) := (blk_cell BK364.out 3).trans rfl
       have hcz20_4 : w5.cell? ⟨gb364, 4, none⟩ = some (.slice A1_4 l1_4.length c1_4) := (blk_cell BK364.out 4).trans rfl
       have hcz20_5 : w5.cell? ⟨gb364, 5, none⟩ = some (.slice A1_5 l1_5.length c1_5) := (blk_cell BK364.out 5).trans rfl
       have hcz20_6 : w5.cell? ⟨gb364, 6, none⟩ = some (.int .i64 a1_6) := (blk_cell BK364.out 6).trans rfl
       have hfz20_0 := blk_frozen BK364.out 0
       have hfz20_1 := blk_frozen BK364.out 1
       have hfz20_2 := blk_frozen BK364.out 2
       have hfz20_3 := blk_frozen BK364.out 3
       have hfz20_4 := blk_frozen BK364.out 4
       have hfz20_5 := blk_frozen BK364.out 5
       have hfz20_6 := blk_frozen BK364.out 6
       go_wp2_with (first | (go_at_call 13; (with_reducible refine (spiritlevelref02_SameInts.calls k _ _ l0_2 _ _ l1_2 true _ ?side1 ?side2 ?side3 ?side4 A8.out).mono ?_); (case side1 => exact cl_ (Kd.C_below HR0_2.out HB.out)); (case side2 => exact HC0_2.out); (case side3 => exact cl_ (Kd.C_below HR1_2.out HB.out)); (case side4 => exact HC1_2.out); rintro e w' ⟨rfl, ⟨nd, rfl⟩⟩; (try first | exact ⟨rfl, _, World.drewN_drewN _ _ _⟩ | exact ⟨rfl, _, Eq.trans (World.drewN_drewN _ _ _) (congrArg (World.drewN _) (Nat.add_assoc _ _ _))⟩)) | (go_at_call 13; (with_reducible refine (spiritlevelref02_SameInts.calls k _ _ l0_4 _ _ l1_4 true _ ?side1 ?side2 ?side3 ?side4 A10.out).mono ?_); (case side1 => repeat (first | exact (Kd.C_below HR0_4.out (ws_ HB.out)) | (with_reducible refine c0_ ?_ _) | (with_reducible refine c1_ ?_ _) | (with_reducible refine c2_ ?_))); (case side2 => exact HC0_4.out); (case side3 => repeat (first | exact (Kd.C_below HR1_4.out (ws_ HB.out)) | (with_reducible refine c0_ ?_ _) | (with_reducible refine c1_ ?_ _) | (with_reducible refine c2_ ?_))); (case side4 => exact HC1_4.out); rintro e w' ⟨rfl, ⟨nd, rfl⟩⟩; (try first | exact ⟨rfl, _, World.drewN_drewN _ _ _⟩ | exact ⟨rfl, _, Eq.trans (World.drewN_drewN _ _ _) (congrArg (World.drewN _) (Nat.add_assoc _ _ _))⟩)))
       repeat (go_quiet (first | (go_at_call 13; (with_reducible refine (spiritlevelref02_SameInts.calls k _ _ l0_2 _ _ l1_2 true _ ?side1 ?side2 ?side3 ?side4 A8.out).mono ?_); (case side1 => exact cl_ (Kd.C_below HR0_2.out HB.out)); (case side2 => exact HC0_2.out); (case side3 => exact cl_ (Kd.C_below HR1_2.out HB.out)); (case side4 => exact HC1_2.out); rintro e w' ⟨rfl, ⟨nd, rfl⟩⟩; (try first | exact ⟨rfl, _, World.drewN_drewN _ _ _⟩ | exact ⟨rfl, _, Eq.trans (World.drewN_drewN _ _ _) (congrArg (World.drewN _) (Nat.add_assoc _ _ _))⟩)) | (go_at_call 13; (with_reducible refine (spiritlevelref02_SameInts.calls k _ _ l0_4 _ _ l1_4 true _ ?side1 ?side2 ?side3 ?side4 A10.out).mono ?_); (case side1 => repeat (first | exact (Kd.C_below HR0_4.out (ws_ HB.out)) | (with_reducible refine c0_ ?_ _) | (with_reducible refine c1_ ?_ _) | (with_reducible refine c2_ ?_))); (case side2 => exact HC0_4.out); (case side3 => repeat (first | exact (Kd.C_below HR1_4.out (ws_ HB.out)) | (with_reducible refine c0_ ?_ _) | (with_reducible refine c1_ ?_ _) | (with_reducible refine c2_ ?_))); (case side4 => exact HC1_4.out); rintro e w' ⟨rfl, ⟨nd, rfl⟩⟩; (try first | exact ⟨rfl, _, World.drewN_drewN _ _ _⟩ | exact ⟨rfl, _, Eq.trans (World.drewN_drewN _ _ _) (congrArg (World.drewN _) (Nat.add_assoc _ _ _))⟩))); try go_wp2_with (first | (go_at_call 13; (with_reducible refine (spiritlevelref02_SameInts.calls k _ _ l0_2 _ _ l1_2 true _ ?side1 ?side2 ?side3 ?side4 A8.out).mono ?_); (case side1 => exact cl_ (Kd.C_below HR0_2.out HB.out)); (case side2 => exact HC0_2.out); (case side3 => exact cl_ (Kd.C_below HR1_2.out HB.out)); (case side4 => exact HC1_2.out); rintro e w' ⟨rfl, ⟨nd, rfl⟩⟩; (try first | exact ⟨rfl, _, World.drewN_drewN _ _ _⟩ | exact ⟨rfl, _, Eq.trans (World.drewN_drewN _ _ _) (congrArg (World.drewN _) (Nat.add_assoc _ _ _))⟩)) | (go_at_call 13; (with_reducible refine (spiritlevelref02_SameInts.calls k _ _ l0_4 _ _ l1_4 true _ ?side1 ?side2 ?side3 ?side4 A10.out).mono ?_); (case side1 => repeat (first | exact (Kd.C_below HR0_4.out (ws_ HB.out)) | (with_reducible refine c0_ ?_ _) | (with_reducible refine c1_ ?_ _) | (with_reducible refine c2_ ?_))); (case side2 => exact HC0_4.out); (case side3 => repeat (first | exact (Kd.C_below HR1_4.out (ws_ HB.out)) | (with_reducible refine c0_ ?_ _) | (with_reducible refine c1_ ?_ _) | (with_reducible refine c2_ ?_))); (case side4 => exact HC1_4.out); rintro e w' ⟨rfl, ⟨nd, rfl⟩⟩; (try first | exact ⟨rfl, _, World.drewN_drewN _ _ _⟩ | exact ⟨rfl, _, Eq.trans (World.drewN_drewN _ _ _) (congrArg (World.drewN _) (Nat.add_assoc _ _ _))⟩))))
       go_meet
       case rel => exact ⟨_, (true), (by first | rfl | (simp; done) | (simp [*]; done)), H', ⟨by first | omega | exact Nat.le_refl _⟩, ⟨by (with_reducible repeat (first | refine k0_ ?_ _ | refine k1_ ?_ | refine k2_ ?_ _)); exact BK363.out⟩, ⟨by (with_reducible repeat (first | refine k0_ ?_ _ | refine k1_ ?_ | refine k2_ ?_ _)); exact BK364.out⟩, ⟨by repeat (first | (with_reducible first | exact HB.out | apply b0_ | apply b1_ | apply b2_ | refine below_set ?_ GE363.out | refine below_set ?_ GE364.out) | exact HB.out)⟩⟩
     ·replace c11 := Bool.eq_false_iff.mpr c11
      subst c11
      have H1 : (spiritlevelref25_SameLift.j0 k true a0_0 a0_1 l0_2 l0_3 l0_4 l0_5 a0_6 a1_0 a1_1 l1_2 l1_3 l1_4 l1_5 a1_6) = some r := by rw [if_neg (show ¬ (false = true) by decide)] at H; exact H
      clear H
      have H := H1
      clear H1
      have H' := M_ H
      clear H
      have hnb21 := NB363_364.out
      have hnc21 := NB364_363.out
      have hcz22_0 : w5.cell? ⟨gb363, 0, none⟩ = some (.int .i64 a0_0) := (blk_cell BK363.out 0).trans rfl
      have hcz22_1 : w5.cell? ⟨gb363, 1, none⟩ = some (.int .i64 a0_1) := (blk_cell BK363.out 1).trans rfl
      have hcz22_2 : w5.cell? ⟨gb363, 2, none⟩ = some (.slice A0_2 l0_2.length c0_2) := (blk_cell BK363.out 2).trans rfl
      have hcz22_3 : w5.cell? ⟨gb363, 3, none⟩ = some (.slice A0_3 l0_3.length c0_3) := (blk_cell BK363.out 3).trans rfl
      have hcz22_4 : w5.cell? ⟨gb363, 4, none⟩ = some (.slice A0_4 l0_4.length c0_4) := (blk_cell BK363.out 4).trans rfl
      have hcz22_5 : w5.cell? ⟨gb363, 5, none⟩ = some (.slice A0_5 l0_5.length c0_5) := (blk_cell BK363.out 5).trans rfl
      have hcz22_6 : w5.cell? ⟨gb363, 6, none⟩ = some (.int .i64 a0_6) := (blk_cell BK363.out 6).trans rfl
      have hfz22_0 := blk_frozen BK363.out 0
      have hfz22_1 := blk_frozen BK363.out 1
      have hfz22_2 := blk_frozen BK363.out 2
      have hfz22_3 := blk_frozen BK363.out 3
      have hfz22_4 := blk_frozen BK363.out 4
      have hfz22_5 := blk_frozen BK363.out 5
      have hfz22_6 := blk_frozen BK363.out 6
      have hcz23_0 : w5.cell? ⟨gb364, 0, none⟩ = some (.int .i64 a1_0) := (blk_cell BK364.out 0).trans rfl
      have hcz23_1 : w5.cell? ⟨gb364, 1, none⟩ = some (.int .i64 a1_1) := (blk_cell BK364.out 1).trans rfl
      have hcz23_2 : w5.cell? ⟨gb364, 2, none⟩ = some (.slice A1_2 l1_2.length c1_2) := (blk_cell BK364.out 2).trans rfl
      have hcz23_3 : w5.cell? ⟨gb364, 3, none⟩ = some (.slice A1_3 l1_3.length c1_3) := (blk_cell BK364.out 3).trans rfl
      have hcz23_4 : w5.cell? ⟨gb364, 4, none⟩ = some (.slice A1_4 l1_4.length c1_4) := (blk_cell BK364.out 4).trans rfl
      have hcz23_5 : w5.cell? ⟨gb364, 5, none⟩ = some (.slice A1_5 l1_5.length c1_5) := (blk_cell BK364.out 5).trans rfl
      have hcz23_6 : w5.cell? ⟨gb364, 6, none⟩ = some (.int .i64 a1_6) := (blk_cell BK364.out 6).trans rfl
      have hfz23_0 := blk_frozen BK364.out 0
      have hfz23_1 := blk_frozen BK364.out 1
      have hfz23_2 := blk_frozen BK364.out 2
      have hfz23_3 := blk_frozen BK364.out 3
      have hfz23_4 := blk_frozen BK364.out 4
      have hfz23_5 := blk_frozen BK364.out 5
      have hfz23_6 := blk_frozen BK364.out 6
      go_wp2_with (first | (go_at_call 13; (with_reducible refine (spiritlevelref02_SameInts.calls k _ _ l0_2 _ _ l1_2 true _ ?side1 ?side2 ?side3 ?side4 A8.out).mono ?_); (case side1 => exact cl_ (Kd.C_below HR0_2.out HB.out)); (case side2 => exact HC0_2.out); (case side3 => exact cl_ (Kd.C_below HR1_2.out HB.out)); (case side4 => exact HC1_2.out); rintro e w' ⟨rfl, ⟨nd, rfl⟩⟩; (try first | exact ⟨rfl, _, World.drewN_drewN _ _ _⟩ | exact ⟨rfl, _, Eq.trans (World.drewN_drewN _ _ _) (congrArg (World.drewN _) (Nat.add_assoc _ _ _))⟩)) | (go_at_call 13; (with_reducible refine (spiritlevelref02_SameInts.calls k _ _ l0_4 _ _ l1_4 false _ ?side1 ?side2 ?side3 ?side4 A10.out).mono ?_); (case side1 => repeat (first | exact (Kd.C_below HR0_4.out (ws_ HB.out)) | (with_reducible refine c0_ ?_ _) | (with_reducible refine c1_ ?_ _) | (with_reducible refine c2_ ?_))); (case side2 => exact HC0_4.out); (case side3 => repeat (first | exact (Kd.C_below HR1_4.out (ws_ HB.out)) | (with_reducible refine c0_ ?_ _) | (with_reducible refine c1_ ?_ _) | (with_reducible refine c2_ ?_))); (case side4 => exact HC1_4.out); rintro e w' ⟨rfl, ⟨nd, rfl⟩⟩; (try first | exact ⟨rfl, _, World.drewN_drewN _ _ _⟩ | exact ⟨rfl, _, Eq.trans (World.drewN_drewN _ _ _) (congrArg (World.drewN _) (Nat.add_assoc _ _ _))⟩)))
      repeat (go_quiet (first | (go_at_call 13; (with_reducible refine (spiritlevelref02_SameInts.calls k _ _ l0_2 _ _ l1_2 true _ ?side1 ?side2 ?side3 ?side4 A8.out).mono ?_); (case side1 => exact cl_ (Kd.C_below HR0_2.out HB.out)); (case side2 => exact HC0_2.out); (case side3 => exact cl_ (Kd.C_below HR1_2.out HB.out)); (case side4 => exact HC1_2.out); rintro e w' ⟨rfl, ⟨nd, rfl⟩⟩; (try first | exact ⟨rfl, _, World.drewN_drewN _ _ _⟩ | exact ⟨rfl, _, Eq.trans (World.drewN_drewN _ _ _) (congrArg (World.drewN _) (Nat.add_assoc _ _ _))⟩)) | (go_at_call 13; (with_reducible refine (spiritlevelref02_SameInts.calls k _ _ l0_4 _ _ l1_4 false _ ?side1 ?side2 ?side3 ?side4 A10.out).mono ?_); (case side1 => repeat (first | exact (Kd.C_below HR0_4.out (ws_ HB.out)) | (with_reducible refine c0_ ?_ _) | (with_reducible refine c1_ ?_ _) | (with_reducible refine c2_ ?_))); (case side2 => exact HC0_4.out); (case side3 => repeat (first | exact (Kd.C_below HR1_4.out (ws_ HB.out)) | (with_reducible refine c0_ ?_ _) | (with_reducible refine c1_ ?_ _) | (with_reducible refine c2_ ?_))); (case side4 => exact HC1_4.out); rintro e w' ⟨rfl, ⟨nd, rfl⟩⟩; (try first | exact ⟨rfl, _, World.drewN_drewN _ _ _⟩ | exact ⟨rfl, _, Eq.trans (World.drewN_drewN _ _ _) (congrArg (World.drewN _) (Nat.add_assoc _ _ _))⟩))); try go_wp2_with (first | (go_at_call 13; (with_reducible refine (spiritlevelref02_SameInts.calls k _ _ l0_2 _ _ l1_2 true _ ?side1 ?side2 ?side3 ?side4 A8.out).mono ?_); (case side1 => exact cl_ (Kd.C_below HR0_2.out HB.out)); (case side2 => exact HC0_2.out); (case side3 => exact cl_ (Kd.C_below HR1_2.out HB.out)); (case side4 => exact HC1_2.out); rintro e w' ⟨rfl, ⟨nd, rfl⟩⟩; (try first | exact ⟨rfl, _, World.drewN_drewN _ _ _⟩ | exact ⟨rfl, _, Eq.trans (World.drewN_drewN _ _ _) (congrArg (World.drewN _) (Nat.add_assoc _ _ _))⟩)) | (go_at_call 13; (with_reducible refine (spiritlevelref02_SameInts.calls k _ _ l0_4 _ _ l1_4 false _ ?side1 ?side2 ?side3 ?side4 A10.out).mono ?_); (case side1 => repeat (first | exact (Kd.C_below HR0_4.out (ws_ HB.out)) | (with_reducible refine c0_ ?_ _) | (with_reducible refine c1_ ?_ _) | (with_reducible refine c2_ ?_))); (case side2 => exact HC0_4.out); (case side3 => repeat (first | exact (Kd.C_below HR1_4.out (ws_ HB.out)) | (with_reducible refine c0_ ?_ _) | (with_reducible refine c1_ ?_ _) | (with_reducible refine c2_ ?_))); (case side4 => exact HC1_4.out); rintro e w' ⟨rfl, ⟨nd, rfl⟩⟩; (try first | exact ⟨rfl, _, World.drewN_drewN _ _ _⟩ | exact ⟨rfl, _, Eq.trans (World.drewN_drewN _ _ _) (congrArg (World.drewN _) (Nat.add_assoc _ _ _))⟩))))
      go_meet
      case rel => exact ⟨_, (true), (by first | rfl | (simp; done) | (simp [*]; done)), H', ⟨by first | omega | exact Nat.le_refl _⟩, ⟨by (with_reducible repeat (first | refine k0_ ?_ _ | refine k1_ ?_ | refine k2_ ?_ _)); exact BK363.out⟩, ⟨by (with_reducible repeat (first | refine k0_ ?_ _ | refine k1_ ?_ | refine k2_ ?_ _)); exact BK364.out⟩, ⟨by repeat (first | (with_reducible first | exact HB.out | apply b0_ | apply b1_ | apply b2_ | refine below_set ?_ GE363.out | refine below_set ?_ GE364.out) | exact HB.out)⟩⟩
    ·replace c9 := Bool.eq_false_iff.mpr c9
     subst c9
     have H1 : (spiritlevelref25_SameLift.j0 k true a0_0 a0_1 l0_2 l0_3 l0_4 l0_5 a0_6 a1_0 a1_1 l1_2 l1_3 l1_4 l1_5 a1_6) = some r := by rw [if_neg (show ¬ (false = true) by decide)] at H; exact H
     clear H
     have H := H1
     clear H1
     have H' := M_ H
     clear H
     have hnb24 := NB363_364.out
     have hnc24 := NB364_363.out
     have hcz25_0 : w5.cell? ⟨gb363, 0, none⟩ = some (.int .i64 a0_0) := (blk_cell BK363.out 0).trans rfl
     have hcz25_1 : w5.cell? ⟨gb363, 1, none⟩ = some (.int .i64 a0_1) := (blk_cell BK363.out 1).trans rfl
     have hcz25_2 : w5.cell? ⟨gb363, 2, none⟩ = some (.slice A0_2 l0_2.length c0_2) := (blk_cell BK363.out 2).trans rfl
     have hcz25_3 : w5.cell? ⟨gb363, 3, none⟩ = some (.slice A0_3 l0_3.length c0_3) := (blk_cell BK363.out 3).trans rfl
     have hcz25_4 : w5.cell? ⟨gb363, 4, none⟩ = some (.slice A0_4 l0_4.length c0_4) := (blk_cell BK363.out 4).trans rfl
     have hcz25_5 : w5.cell? ⟨gb363, 5, none⟩ = some (.slice A0_5 l0_5.length c0_5) := (blk_cell BK363.out 5).trans rfl
     have hcz25_6 : w5.cell? ⟨gb363, 6, none⟩ = some (.int .i64 a0_6) := (blk_cell BK363.out 6).trans rfl
     have hfz25_0 := blk_frozen BK363.out 0
     have hfz25_1 := blk_frozen BK363.out 1
     have hfz25_2 := blk_frozen BK363.out 2
     have hfz25_3 := blk_frozen BK363.out 3
     have hfz25_4 := blk_frozen BK363.out 4
     have hfz25_5 := blk_frozen BK363.out 5
     have hfz25_6 := blk_frozen BK363.out 6
     have hcz26_0 : w5.cell? ⟨gb364, 0, none⟩ = some (.int .i64 a1_0) := (blk_cell BK364.out 0).trans rfl
     have hcz26_1 : w5.cell? ⟨gb364, 1, none⟩ = some (.int .i64 a1_1) := (blk_cell BK364.out 1).trans rfl
     have hcz26_2 : w5.cell? ⟨gb364, 2, none⟩ = some (.slice A1_2 l1_2.length c1_2) := (blk_cell BK364.out 2).trans rfl
     have hcz26_3 : w5.cell? ⟨gb364, 3, none⟩ = some (.slice A1_3 l1_3.length c1_3) := (blk_cell BK364.out 3).trans rfl
     have hcz26_4 : w5.cell? ⟨gb364, 4, none⟩ = some (.slice A1_4 l1_4.length c1_4) := (blk_cell BK364.out 4).trans rfl
     have hcz26_5 : w5.cell? ⟨gb364, 5, none⟩ = some (.slice A1_5 l1_5.length c1_5) := (blk_cell BK364.out 5).trans rfl
     have hcz26_6 : w5.cell? ⟨gb364, 6, none⟩ = some (.int .i64 a1_6) := (blk_cell BK364.out 6).trans rfl
     have hfz26_0 := blk_frozen BK364.out 0
     have hfz26_1 := blk_frozen BK364.out 1
     have hfz26_2 := blk_frozen BK364.out 2
     have hfz26_3 := blk_frozen BK364.out 3
     have hfz26_4 := blk_frozen BK364.out 4
     have hfz26_5 := blk_frozen BK364.out 5
     have hfz26_6 := blk_frozen BK364.out 6
     go_wp2_with (first | (go_at_call 13; (with_reducible refine (spiritlevelref02_SameInts.calls k _ _ l0_2 _ _ l1_2 false _ ?side1 ?side2 ?side3 ?side4 A8.out).mono ?_); (case side1 => exact cl_ (Kd.C_below HR0_2.out HB.out)); (case side2 => exact HC0_2.out); (case side3 => exact cl_ (Kd.C_below HR1_2.out HB.out)); (case side4 => exact HC1_2.out); rintro e w' ⟨rfl, ⟨nd, rfl⟩⟩; (try first | exact ⟨rfl, _, World.drewN_drewN _ _ _⟩ | exact ⟨rfl, _, Eq.trans (World.drewN_drewN _ _ _) (congrArg (World.drewN _) (Nat.add_assoc _ _ _))⟩)))
     repeat (go_quiet (first | (go_at_call 13; (with_reducible refine (spiritlevelref02_SameInts.calls k _ _ l0_2 _ _ l1_2 false _ ?side1 ?side2 ?side3 ?side4 A8.out).mono ?_); (case side1 => exact cl_ (Kd.C_below HR0_2.out HB.out)); (case side2 => exact HC0_2.out); (case side3 => exact cl_ (Kd.C_below HR1_2.out HB.out)); (case side4 => exact HC1_2.out); rintro e w' ⟨rfl, ⟨nd, rfl⟩⟩; (try first | exact ⟨rfl, _, World.drewN_drewN _ _ _⟩ | exact ⟨rfl, _, Eq.trans (World.drewN_drewN _ _ _) (congrArg (World.drewN _) (Nat.add_assoc _ _ _))⟩))); try go_wp2_with (first | (go_at_call 13; (with_reducible refine (spiritlevelref02_SameInts.calls k _ _ l0_2 _ _ l1_2 false _ ?side1 ?side2 ?side3 ?side4 A8.out).mono ?_); (case side1 => exact cl_ (Kd.C_below HR0_2.out HB.out)); (case side2 => exact HC0_2.out); (case side3 => exact cl_ (Kd.C_below HR1_2.out HB.out)); (case side4 => exact HC1_2.out); rintro e w' ⟨rfl, ⟨nd, rfl⟩⟩; (try first | exact ⟨rfl, _, World.drewN_drewN _ _ _⟩ | exact ⟨rfl, _, Eq.trans (World.drewN_drewN _ _ _) (congrArg (World.drewN _) (Nat.add_assoc _ _ _))⟩))))
     go_meet
     case rel => exact ⟨_, (true), (by first | rfl | (simp; done) | (simp [*]; done)), H', ⟨by first | omega | exact Nat.le_refl _⟩, ⟨by (with_reducible repeat (first | refine k0_ ?_ _ | refine k1_ ?_ | refine k2_ ?_ _)); exact BK363.out⟩, ⟨by (with_reducible repeat (first | refine k0_ ?_ _ | refine k1_ ?_ | refine k2_ ?_ _)); exact BK364.out⟩, ⟨by repeat (first | (with_reducible first | exact HB.out | apply b0_ | apply b1_ | apply b2_ | refine below_set ?_ GE363.out | refine below_set ?_ GE364.out) | exact HB.out)⟩⟩
   ·rw [if_neg c7] at H
    have c7b0 : (a0_1 == a1_1) = false := beq_eq_false_iff_ne.mpr c7
    have c7b1 : (a0_1 != a1_1) = true := bne_iff_ne.mpr c7
    have H' := M_ H
    clear H
    have hnb27 := NB363_364.out
    have hnc27 := NB364_363.out
    have hcz28_0 : w5.cell? ⟨gb363, 0, none⟩ = some (.int .i64 a0_0) := (blk_cell BK363.out 0).trans rfl
    have hcz28_1 : w5.cell? ⟨gb363, 1, none⟩ = some (.int .i64 a0_1) := (blk_cell BK363.out 1).trans rfl
    have hcz28_2 : w5.cell? ⟨gb363, 2, none⟩ = some (.slice A0_2 l0_2.length c0_2) := (blk_cell BK363.out 2).trans rfl
    have hcz28_3 : w5.cell? ⟨gb363, 3, none⟩ = some (.slice A0_3 l0_3.length c0_3) := (blk_cell BK363.out 3).trans rfl
    have hcz28_4 : w5.cell? ⟨gb363, 4, none⟩ = some (.slice A0_4 l0_4.length c0_4) := (blk_cell BK363.out 4).trans rfl
    have hcz28_5 : w5.cell? ⟨gb363, 5, none⟩ = some (.slice A0_5 l0_5.length c0_5) := (blk_cell BK363.out 5).trans rfl
    have hcz28_6 : w5.cell? ⟨gb363, 6, none⟩ = some (.int .i64 a0_6) := (blk_cell BK363.out 6).trans rfl
    have hfz28_0 := blk_frozen BK363.out 0
    have hfz28_1 := blk_frozen BK363.out 1
    have hfz28_2 := blk_frozen BK363.out 2
    have hfz28_3 := blk_frozen BK363.out 3
    have hfz28_4 := blk_frozen BK363.out 4
    have hfz28_5 := blk_frozen BK363.out 5
    have hfz28_6 := blk_frozen BK363.out 6
    have hcz29_0 : w5.cell? ⟨gb364, 0, none⟩ = some (.int .i64 a1_0) := (blk_cell BK364.out 0).trans rfl
    have hcz29_1 : w5.cell? ⟨gb364, 1, none⟩ = some (.int .i64 a1_1) := (blk_cell BK364.out 1).trans rfl
    have hcz29_2 : w5.cell? ⟨gb364, 2, none⟩ = some (.slice A1_2 l1_2.length c1_2) := (blk_cell BK364.out 2).trans rfl
    have hcz29_3 : w5.cell? ⟨gb364, 3, none⟩ = some (.slice A1_3 l1_3.length c1_3) := (blk_cell BK364.out 3).trans rfl
    have hcz29_4 : w5.cell? ⟨gb364, 4, none⟩ = some (.slice A1_4 l1_4.length c1_4) := (blk_cell BK364.out 4).trans rfl
    have hcz29_5 : w5.cell? ⟨gb364, 5, none⟩ = some (.slice A1_5 l1_5.length c1_5) := (blk_cell BK364.out 5).trans rfl
    have hcz29_6 : w5.cell? ⟨gb364, 6, none⟩ = some (.int .i64 a1_6) := (blk_cell BK364.out 6).trans rfl
    have hfz29_0 := blk_frozen BK364.out 0
    have hfz29_1 := blk_frozen BK364.out 1
    have hfz29_2 := blk_frozen BK364.out 2
    have hfz29_3 := blk_frozen BK364.out 3
    have hfz29_4 := blk_frozen BK364.out 4
    have hfz29_5 := blk_frozen BK364.out 5
    have hfz29_6 := blk_frozen BK364.out 6
    go_wp2
    repeat (go_quiet (fail); try go_wp2)
    go_meet
    case rel => exact ⟨_, (true), (by first | rfl | (simp; done) | (simp [*]; done)), H', ⟨by first | omega | exact Nat.le_refl _⟩, ⟨by (with_reducible repeat (first | refine k0_ ?_ _ | refine k1_ ?_ | refine k2_ ?_ _)); exact BK363.out⟩, ⟨by (with_reducible repeat (first | refine k0_ ?_ _ | refine k1_ ?_ | refine k2_ ?_ _)); exact BK364.out⟩, ⟨by repeat (first | (with_reducible first | exact HB.out | apply b0_ | apply b1_ | apply b2_ | refine below_set ?_ GE363.out | refine below_set ?_ GE364.out) | exact HB.out)⟩⟩
  ·rw [if_neg c6] at H
   have c6b0 : (a0_0 == a1_0) = false := beq_eq_false_iff_ne.mpr c6
   have c6b1 : (a0_0 != a1_0) = true := bne_iff_ne.mpr c6
   (first | rw [c6b0] | (simp only [i64_w, i32_w]; rw [c6b0]) | skip)
   have H' := M_ H
   clear H
   have hnb30 := NB363_364.out
   have hnc30 := NB364_363.out
   have hcz31_0 : w5.cell? ⟨gb363, 0, none⟩ = some (.int .i64 a0_0) := (blk_cell BK363.out 0).trans rfl
   have hcz31_1 : w5.cell? ⟨gb363, 1, none⟩ = some (.int .i64 a0_1) := (blk_cell BK363.out 1).trans rfl
   have hcz31_2 : w5.cell? ⟨gb363, 2, none⟩ = some (.slice A0_2 l0_2.length c0_2) := (blk_cell BK363.out 2).trans rfl
   have hcz31_3 : w5.cell? ⟨gb363, 3, none⟩ = some (.slice A0_3 l0_3.length c0_3) := (blk_cell BK363.out 3).trans rfl
   have hcz31_4 : w5.cell? ⟨gb363, 4, none⟩ = some (.slice A0_4 l0_4.length c0_4) := (blk_cell BK363.out 4).trans rfl
   have hcz31_5 : w5.cell? ⟨gb363, 5, none⟩ = some (.slice A0_5 l0_5.length c0_5) := (blk_cell BK363.out 5).trans rfl
   have hcz31_6 : w5.cell? ⟨gb363, 6, none⟩ = some (.int .i64 a0_6) := (blk_cell BK363.out 6).trans rfl
   have hfz31_0 := blk_frozen BK363.out 0
   have hfz31_1 := blk_frozen BK363.out 1
   have hfz31_2 := blk_frozen BK363.out 2
   have hfz31_3 := blk_frozen BK363.out 3
   have hfz31_4 := blk_frozen BK363.out 4
   have hfz31_5 := blk_frozen BK363.out 5
   have hfz31_6 := blk_frozen BK363.out 6
   have hcz32_0 : w5.cell? ⟨gb364, 0, none⟩ = some (.int .i64 a1_0) := (blk_cell BK364.out 0).trans rfl
   have hcz32_1 : w5.cell? ⟨gb364, 1, none⟩ = some (.int .i64 a1_1) := (blk_cell BK364.out 1).trans rfl
   have hcz32_2 : w5.cell? ⟨gb364, 2, none⟩ = some (.slice A1_2 l1_2.length c1_2) := (blk_cell BK364.out 2).trans rfl
   have hcz32_3 : w5.cell? ⟨gb364, 3, none⟩ = some (.slice A1_3 l1_3.length c1_3) := (blk_cell BK364.out 3).trans rfl
   have hcz32_4 : w5.cell? ⟨gb364, 4, none⟩ = some (.slice A1_4 l1_4.length c1_4) := (blk_cell BK364.out 4).trans rfl
   have hcz32_5 : w5.cell? ⟨gb364, 5, none⟩ = some (.slice A1_5 l1_5.length c1_5) := (blk_cell BK364.out 5).trans rfl
   have hcz32_6 : w5.cell? ⟨gb364, 6, none⟩ = some (.int .i64 a1_6) := (blk_cell BK364.out 6).trans rfl
   have hfz32_0 := blk_frozen BK364.out 0
   have hfz32_1 := blk_frozen BK364.out 1
   have hfz32_2 := blk_frozen BK364.out 2
   have hfz32_3 := blk_frozen BK364.out 3
   have hfz32_4 := blk_frozen BK364.out 4
   have hfz32_5 := blk_frozen BK364.out 5
   have hfz32_6 := blk_frozen BK364.out 6
   go_wp2
   repeat (go_quiet (fail); try go_wp2)
   go_meet
   case rel => exact ⟨_, (true), (by first | rfl | (simp; done) | (simp [*]; done)), H', ⟨by first | omega | exact Nat.le_refl _⟩, ⟨by (with_reducible repeat (first | refine k0_ ?_ _ | refine k1_ ?_ | refine k2_ ?_ _)); exact BK363.out⟩, ⟨by (with_reducible repeat (first | refine k0_ ?_ _ | refine k1_ ?_ | refine k2_ ?_ _)); exact BK364.out⟩, ⟨by repeat (first | (with_reducible first | exact HB.out | apply b0_ | apply b1_ | apply b2_ | refine below_set ?_ GE363.out | refine below_set ?_ GE364.out) | exact HB.out)⟩⟩
 case rest =>
  clear HC3
  try clear c1; try clear c2; try clear p2; try clear c3; try clear c4; try clear c6; try clear c6b0; try clear c6b1; try clear c7; try clear c7b0; try clear c7b1; try clear c9; try clear c11; try clear c12; try clear c12b0; try clear c12b1; try clear c12b2; try clear c14; try clear c18; try clear c21; try clear c24; try clear c27; try clear c30; try clear hcz15_0 hcz15_1 hcz15_2 hcz15_3 hcz15_4 hcz15_5 hcz15_6; try clear hcz16_0 hcz16_1 hcz16_2 hcz16_3 hcz16_4 hcz16_5 hcz16_6; try clear hcz19_0 hcz19_1 hcz19_2 hcz19_3 hcz19_4 hcz19_5 hcz19_6; try clear hcz20_0 hcz20_1 hcz20_2 hcz20_3 hcz20_4 hcz20_5 hcz20_6; try clear hcz22_0 hcz22_1 hcz22_2 hcz22_3 hcz22_4 hcz22_5 hcz22_6; try clear hcz23_0 hcz23_1 hcz23_2 hcz23_3 hcz23_4 hcz23_5 hcz23_6; try clear hcz25_0 hcz25_1 hcz25_2 hcz25_3 hcz25_4 hcz25_5 hcz25_6; try clear hcz26_0 hcz26_1 hcz26_2 hcz26_3 hcz26_4 hcz26_5 hcz26_6; try clear hcz28_0 hcz28_1 hcz28_2 hcz28_3 hcz28_4 hcz28_5 hcz28_6; try clear hcz29_0 hcz29_1 hcz29_2 hcz29_3 hcz29_4 hcz29_5 hcz29_6; try clear hcz31_0 hcz31_1 hcz31_2 hcz31_3 hcz31_4 hcz31_5 hcz31_6; try clear hcz32_0 hcz32_1 hcz32_2 hcz32_3 hcz32_4 hcz32_5 hcz32_6; try clear hfz15_0 hfz15_1 hfz15_2 hfz15_3 hfz15_4 hfz15_5 hfz15_6; try clear hfz16_0 hfz16_1 hfz16_2 hfz16_3 hfz16_4 hfz16_5 hfz16_6; try clear hfz19_0 hfz19_1 hfz19_2 hfz19_3 hfz19_4 hfz19_5 hfz19_6; try clear hfz20_0 hfz20_1 hfz20_2 hfz20_3 hfz20_4 hfz20_5 hfz20_6; try clear hfz22_0 hfz22_1 hfz22_2 hfz22_3 hfz22_4 hfz22_5 hfz22_6; try clear hfz23_0 hfz23_1 hfz23_2 hfz23_3 hfz23_4 hfz23_5 hfz23_6; try clear hfz25_0 hfz25_1 hfz25_2 hfz25_3 hfz25_4 hfz25_5 hfz25_6; try clear hfz26_0 hfz26_1 hfz26_2 hfz26_3 hfz26_4 hfz26_5 hfz26_6; try clear hfz28_0 hfz28_1 hfz28_2 hfz28_3 hfz28_4 hfz28_5 hfz28_6; try clear hfz29_0 hfz29_1 hfz29_2 hfz29_3 hfz29_4 hfz29_5 hfz29_6; try clear hfz31_0 hfz31_1 hfz31_2 hfz31_3 hfz31_4 hfz31_5 hfz31_6; try clear hfz32_0 hfz32_1 hfz32_2 hfz32_3 hfz32_4 hfz32_5 hfz32_6
  obtain ⟨kq, x50_2, rfl, HA, HJ2, BK363, BK364, HB⟩ := hcut
  cases kq with
  | zero => exact absurd HA.out (by simp [spiritlevelref25_SameLift.j0])
  | succ kj2 =>
   have H := HA.out
   clear HA
   simp only [spiritlevelref25_SameLift.j0] at H
   by_cases c33 : x50_2 = true
   ·subst c33
    have H1 : (some false) = some r := by rw [if_pos rfl] at H; exact H
    clear H
    have H := H1
    clear H1
    obtain rfl := Option.some.inj H
    go_wp2
    repeat (go_quiet (fail); try go_wp2)
    go_ret
    exact ⟨by first | rfl | (simp [errW_none, errW_some] <;> rfl) | (simp [*, errW_none, errW_some] <;> rfl), by repeat (first | (with_reducible first | exact HB.out | apply b0_ | apply b1_ | apply b2_ | refine below_set ?_ GE363.out | refine below_set ?_ GE364.out) | exact HB.out)⟩
   ·replace c33 := Bool.eq_false_iff.mpr c33
    subst c33
    have H1 : (spiritlevelref25_SameLift.l0 kj2 0 a0_0 a0_1 l0_2 l0_3 l0_4 l0_5 a0_6 a1_0 a1_1 l1_2 l1_3 l1_4 l1_5 a1_6) = some r := by rw [if_neg (show ¬ (false = true) by decide)] at H; exact H
    clear H
    have H := H1
    clear H1
    have H' := M_ H
    clear H
    go_wp2
    repeat (go_quiet (fail); try go_wp2)
    go_loopg [5] kj2 (fun kq v5 w' => ∃ (x5_2 : Int), v5 = .int .i64 x5_2 ∧ Aside0 (spiritlevelref25_SameLift.l0 kq x5_2 a0_0 a0_1 l0_2 l0_3 l0_4 l0_5 a0_6 a1_0 a1_1 l1_2 l1_3 l1_4 l1_5 a1_6 = some r) ∧ Aside0 (kq ≤ kj2) ∧ Aside0 (w'.heap[gb363]? = some (.cells #[.int .i64 a0_0, .int .i64 a0_1, (.slice A0_2 l0_2.length c0_2), (.slice A0_3 l0_3.length c0_3), (.slice A0_4 l0_4.length c0_4), (.slice A0_5 l0_5.length c0_5), .int .i64 a0_6] 37 (0, 0))) ∧ Aside0 (w'.heap[gb364]? = some (.cells #[.int .i64 a1_0, .int .i64 a1_1, (.slice A1_2 l1_2.length c1_2), (.slice A1_3 l1_3.length c1_3), (.slice A1_4 l1_4.length c1_4), (.slice A1_5 l1_5.length c1_5), .int .i64 a1_6] 37 (0, 0))) ∧ Aside0 (Below w.heap.size w w'))
    case atStart => exact ⟨(0), (by first | rfl | (simp; done) | (simp [*]; done)), H', ⟨Nat.le_refl _⟩, ⟨by (with_reducible repeat (first | refine k0_ ?_ _ | refine k1_ ?_ | refine k2_ ?_ _)); exact BK363.out⟩, ⟨by (with_reducible repeat (first | refine k0_ ?_ _ | refine k1_ ?_ | refine k2_ ?_ _)); exact BK364.out⟩, ⟨by repeat (first | (with_reducible first | exact HB.out | apply b0_ | apply b1_ | apply b2_ | refine below_set ?_ GE363.out | refine below_set ?_ GE364.out) | exact HB.out)⟩⟩
    case round =>
     clear H'
     try clear c1; try clear c2; try clear p2; try clear c3; try clear c4; try clear c6; try clear c6b0; try clear c6b1; try clear c7; try clear c7b0; try clear c7b1; try clear c9; try clear c11; try clear c12; try clear c12b0; try clear c12b1; try clear c12b2; try clear c14; try clear c18; try clear c21; try clear c24; try clear c27; try clear c30; try clear c33; try clear hcz15_0 hcz15_1 hcz15_2 hcz15_3 hcz15_4 hcz15_5 hcz15_6; try clear hcz16_0 hcz16_1 hcz16_2 hcz16_3 hcz16_4 hcz16_5 hcz16_6; try clear hcz19_0 hcz19_1 hcz19_2 hcz19_3 hcz19_4 hcz19_5 hcz19_6; try clear hcz20_0 hcz20_1 hcz20_2 hcz20_3 hcz20_4 hcz20_5 hcz20_6; try clear hcz22_0 hcz22_1 hcz22_2 hcz22_3 hcz22_4 hcz22_5 hcz22_6; try clear hcz23_0 hcz23_1 hcz23_2 hcz23_3 hcz23_4 hcz23_5 hcz23_6; try clear hcz25_0 hcz25_1 hcz25_2 hcz25_3 hcz25_4 hcz25_5 hcz25_6; try clear hcz26_0 hcz26_1 hcz26_2 hcz26_3 hcz26_4 hcz26_5 hcz26_6; try clear hcz28_0 hcz28_1 hcz28_2 hcz28_3 hcz28_4 hcz28_5 hcz28_6; try clear hcz29_0 hcz29_1 hcz29_2 hcz29_3 hcz29_4 hcz29_5 hcz29_6; try clear hcz31_0 hcz31_1 hcz31_2 hcz31_3 hcz31_4 hcz31_5 hcz31_6; try clear hcz32_0 hcz32_1 hcz32_2 hcz32_3 hcz32_4 hcz32_5 hcz32_6; try clear hfz15_0 hfz15_1 hfz15_2 hfz15_3 hfz15_4 hfz15_5 hfz15_6; try clear hfz16_0 hfz16_1 hfz16_2 hfz16_3 hfz16_4 hfz16_5 hfz16_6; try clear hfz19_0 hfz19_1 hfz19_2 hfz19_3 hfz19_4 hfz19_5 hfz19_6; try clear hfz20_0 hfz20_1 hfz20_2 hfz20_3 hfz20_4 hfz20_5 hfz20_6; try clear hfz22_0 hfz22_1 hfz22_2 hfz22_3 hfz22_4 hfz22_5 hfz22_6; try clear hfz23_0 hfz23_1 hfz23_2 hfz23_3 hfz23_4 hfz23_5 hfz23_6; try clear hfz25_0 hfz25_1 hfz25_2 hfz25_3 hfz25_4 hfz25_5 hfz25_6; try clear hfz26_0 hfz26_1 hfz26_2 hfz26_3 hfz26_4 hfz26_5 hfz26_6; try clear hfz28_0 hfz28_1 hfz28_2 hfz28_3 hfz28_4 hfz28_5 hfz28_6; try clear hfz29_0 hfz29_1 hfz29_2 hfz29_3 hfz29_4 hfz29_5 hfz29_6; try clear hfz31_0 hfz31_1 hfz31_2 hfz31_3 hfz31_4 hfz31_5 hfz31_6; try clear hfz32_0 hfz32_1 hfz32_2 hfz32_3 hfz32_4 hfz32_5 hfz32_6; try clear p2
     obtain ⟨x5_2, rfl, HA, HK2, BK363, BK364, HB⟩ := hrel
     cases gk with
     | zero => exact absurd HA.out (by simp [spiritlevelref25_SameLift.l0])
     | succ k2 =>
      have H := HA.out
      clear HA
      simp only [spiritlevelref25_SameLift.l0] at H
      by_cases c34 : x5_2 < (l0_3.length : Int)
      ·rw [if_pos c34] at H
       have c34b0 : decide (x5_2 < (l0_3.length : Int)) = true := decide_eq_true c34
       clear c34
       by_cases c35 : 0 ≤ x5_2
       ·rw [if_pos c35] at H
        have c35b0 : decide (0 ≤ x5_2) = true := decide_eq_true c35
        clear c35
        by_cases c36 : x5_2 < (l1_3.length : Int)
        ·rw [if_pos c36] at H
         have c36b0 : decide (x5_2 < (l1_3.length : Int)) = true := decide_eq_true c36
         clear c36
         replace H := Option.bind_eq_some_iff.mp H
         obtain ⟨t370, A370, H⟩ := H
         replace H : (if t370 = true then (spiritlevelref25_SameLift.l0 k2 (wrap64 (x5_2 + 1)) a0_0 a0_1 l0_2 l0_3 l0_4 l0_5 a0_6 a1_0 a1_1 l1_2 l1_3 l1_4 l1_5 a1_6) else (some false)) = some r := H
         have A37 := M_ A370
         clear A370
         by_cases c38 : t370 = true
         ·subst c38
          have H1 : (spiritlevelref25_SameLift.l0 k2 (wrap64 (x5_2 + 1)) a0_0 a0_1 l0_2 l0_3 l0_4 l0_5 a0_6 a1_0 a1_1 l1_2 l1_3 l1_4 l1_5 a1_6) = some r := by rw [if_pos rfl] at H; exact H
          clear H
          have H := H1
          clear H1
          have H' := M_ H
          clear H
          have hnb39 := NB363_364.out
          have hnc39 := NB364_363.out
          have hcz40_0 : wr.cell? ⟨gb363, 0, none⟩ = some (.int .i64 a0_0) := (blk_cell BK363.out 0).trans rfl
          have hcz40_1 : wr.cell? ⟨gb363, 1, none⟩ = some (.int .i64 a0_1) := (blk_cell BK363.out 1).trans rfl
          have hcz40_2 : wr.cell? ⟨gb363, 2, none⟩ = some (.slice A0_2 l0_2.length c0_2) := (blk_cell BK363.out 2).trans rfl
          have hcz40_3 : wr.cell? ⟨gb363, 3, none⟩ = some (.slice A0_3 l0_3.length c0_3) := (blk_cell BK363.out 3).trans rfl
          have hcz40_4 : wr.cell? ⟨gb363, 4, none⟩ = some (.slice A0_4 l0_4.length c0_4) := (blk_cell BK363.out 4).trans rfl
          have hcz40_5 : wr.cell? ⟨gb363, 5, none⟩ = some (.slice A0_5 l0_5.length c0_5) := (blk_cell BK363.out 5).trans rfl
          have hcz40_6 : wr.cell? ⟨gb363, 6, none⟩ = some (.int .i64 a0_6) := (blk_cell BK363.out 6).trans rfl
          have hfz40_0 := blk_frozen BK363.out 0
          have hfz40_1 := blk_frozen BK363.out 1
          have hfz40_2 := blk_frozen BK363.out 2
          have hfz40_3 := blk_frozen BK363.out 3
          have hfz40_4 := blk_frozen BK363.out 4
          have hfz40_5 := blk_frozen BK363.out 5
          have hfz40_6 := blk_frozen BK363.out 6
          have p368 : 0 ≤ (x5_2 : Int) := of_decide_eq_true (by first | (with_reducible assumption) | assumption)
          have q368 : x5_2 < (l0_3.length : Int) := of_decide_eq_true (by first | (with_reducible assumption) | assumption)
          obtain ⟨ad368, A368_0, c368_0, e368, hx368_0, hl368_0, hi368_0⟩ := at_L3 HR0_3.out x5_2 p368 q368
          cases e368
          replace hx368_0 := (HB.out.cell (World.block_lt_of_cell? w _ hx368_0)).trans hx368_0
          have HR368_0 := M_ hi368_0
          have HC368_0 := M_ hl368_0
          clear hi368_0 hl368_0
          replace p368 := eq_true p368
          replace q368 := eq_true q368
          have hcz41_0 : wr.cell? ⟨gb364, 0, none⟩ = some (.int .i64 a1_0) := (blk_cell BK364.out 0).trans rfl
          have hcz41_1 : wr.cell? ⟨gb364, 1, none⟩ = some (.int .i64 a1_1) := (blk_cell BK364.out 1).trans rfl
          have hcz41_2 : wr.cell? ⟨gb364, 2, none⟩ = some (.slice A1_2 l1_2.length c1_2) := (blk_cell BK364.out 2).trans rfl
          have hcz41_3 : wr.cell? ⟨gb364, 3, none⟩ = some (.slice A1_3 l1_3.length c1_3) := (blk_cell BK364.out 3).trans rfl
          have hcz41_4 : wr.cell? ⟨gb364, 4, none⟩ = some (.slice A1_4 l1_4.length c1_4) := (blk_cell BK364.out 4).trans rfl
          have hcz41_5 : wr.cell? ⟨gb364, 5, none⟩ = some (.slice A1_5 l1_5.length c1_5) := (blk_cell BK364.out 5).trans rfl
          have hcz41_6 : wr.cell? ⟨gb364, 6, none⟩ = some (.int .i64 a1_6) := (blk_cell BK364.out 6).trans rfl
          have hfz41_0 := blk_frozen BK364.out 0
          have hfz41_1 := blk_frozen BK364.out 1
          have hfz41_2 := blk_frozen BK364.out 2
          have hfz41_3 := blk_frozen BK364.out 3
          have hfz41_4 := blk_frozen BK364.out 4
          have hfz41_5 := blk_frozen BK364.out 5
          have hfz41_6 := blk_frozen BK364.out 6
          have p369 : 0 ≤ (x5_2 : Int) := of_decide_eq_true (by first | (with_reducible assumption) | assumption)
          have q369 : x5_2 < (l1_3.length : Int) := of_decide_eq_true (by first | (with_reducible assumption) | assumption)
          obtain ⟨ad369, A369_0, c369_0, e369, hx369_0, hl369_0, hi369_0⟩ := at_L3 HR1_3.out x5_2 p369 q369
          cases e369
          replace hx369_0 := (HB.out.cell (World.block_lt_of_cell? w _ hx369_0)).trans hx369_0
          have HR369_0 := M_ hi369_0
          have HC369_0 := M_ hl369_0
          clear hi369_0 hl369_0
          replace p369 := eq_true p369
          replace q369 := eq_true q369
          go_wp2_with (first | (go_at_call 13; (with_reducible refine (spiritlevelref02_SameInts.calls k2 _ _ (rd_L3 l0_3 x5_2) _ _ (rd_L3 l1_3 x5_2) true _ ?side1 ?side2 ?side3 ?side4 A37.out).mono ?_); (case side1 => exact cl_ (Kd.C_below HR368_0.out HB.out)); (case side2 => exact HC368_0.out); (case side3 => exact cl_ (Kd.C_below HR369_0.out HB.out)); (case side4 => exact HC369_0.out); rintro e w' ⟨rfl, ⟨nd, rfl⟩⟩; (try first | exact ⟨rfl, _, World.drewN_drewN _ _ _⟩ | exact ⟨rfl, _, Eq.trans (World.drewN_drewN _ _ _) (congrArg (World.drewN _) (Nat.add_assoc _ _ _))⟩)))
          repeat (go_quiet (first | (go_at_call 13; (with_reducible refine (spiritlevelref02_SameInts.calls k2 _ _ (rd_L3 l0_3 x5_2) _ _ (rd_L3 l1_3 x5_2) true _ ?side1 ?side2 ?side3 ?side4 A37.out).mono ?_); (case side1 => exact cl_ (Kd.C_below HR368_0.out HB.out)); (case side2 => exact HC368_0.out); (case side3 => exact cl_ (Kd.C_below HR369_0.out HB.out)); (case side4 => exact HC369_0.out); rintro e w' ⟨rfl, ⟨nd, rfl⟩⟩; (try first | exact ⟨rfl, _, World.drewN_drewN _ _ _⟩ | exact ⟨rfl, _, Eq.trans (World.drewN_drewN _ _ _) (congrArg (World.drewN _) (Nat.add_assoc _ _ _))⟩))); try go_wp2_with (first | (go_at_call 13; (with_reducible refine (spiritlevelref02_SameInts.calls k2 _ _ (rd_L3 l0_3 x5_2) _ _ (rd_L3 l1_3 x5_2) true _ ?side1 ?side2 ?side3 ?side4 A37.out).mono ?_); (case side1 => exact cl_ (Kd.C_below HR368_0.out HB.out)); (case side2 => exact HC368_0.out); (case side3 => exact cl_ (Kd.C_below HR369_0.out HB.out)); (case side4 => exact HC369_0.out); rintro e w' ⟨rfl, ⟨nd, rfl⟩⟩; (try first | exact ⟨rfl, _, World.drewN_drewN _ _ _⟩ | exact ⟨rfl, _, Eq.trans (World.drewN_drewN _ _ _) (congrArg (World.drewN _) (Nat.add_assoc _ _ _))⟩))))
          go_roundg k2
          case measure => have := HJ2.out; have := HK2.out; omega
          case rel => exact ⟨(wrap64 (x5_2 + 1)), (by first | rfl | (simp; done) | (simp [*]; done)), H', ⟨by have := HJ2.out; have := HK2.out; omega⟩, ⟨by (with_reducible repeat (first | refine k0_ ?_ _ | refine k1_ ?_ | refine k2_ ?_ _)); exact BK363.out⟩, ⟨by (with_reducible repeat (first | refine k0_ ?_ _ | refine k1_ ?_ | refine k2_ ?_ _)); exact BK364.out⟩, ⟨by repeat (first | (with_reducible first | exact HB.out | apply b0_ | apply b1_ | apply b2_ | refine below_set ?_ GE363.out | refine below_set ?_ GE364.out) | exact HB.out)⟩⟩
         ·replace c38 := Bool.eq_false_iff.mpr c38
          subst c38
          have H1 : (some false) = some r := by rw [if_neg (show ¬ (false = true) by decide)] at H; exact H
          clear H
          have H := H1
          clear H1
          obtain rfl := Option.some.inj H
          have hnb42 := NB363_364.out
          have hnc42 := NB364_363.out
          have hcz43_0 : wr.cell? ⟨gb363, 0, none⟩ = some (.int .i64 a0_0) := (blk_cell BK363.out 0).trans rfl
          have hcz43_1 : wr.cell? ⟨gb363, 1, none⟩ = some (.int .i64 a0_1) := (blk_cell BK363.out 1).trans rfl
          have hcz43_2 : wr.cell? ⟨gb363, 2, none⟩ = some (.slice A0_2 l0_2.length c0_2) := (blk_cell BK363.out 2).trans rfl
          have hcz43_3 : wr.cell? ⟨gb363, 3, none⟩ = some (.slice A0_3 l0_3.length c0_3) := (blk_cell BK363.out 3).trans rfl
          have hcz43_4 : wr.cell? ⟨gb363, 4, none⟩ = some (.slice A0_4 l0_4.length c0_4) := (blk_cell BK363.out 4).trans rfl
          have hcz43_5 : wr.cell? ⟨gb363, 5, none⟩ = some (.slice A0_5 l0_5.length c0_5) := (blk_cell BK363.out 5).trans rfl
          have hcz43_6 : wr.cell? ⟨gb363, 6, none⟩ = some (.int .i64 a0_6) := (blk_cell BK363.out 6).trans rfl
          have hfz43_0 := blk_frozen BK363.out 0
          have hfz43_1 := blk_frozen BK363.out 1
          have hfz43_2 := blk_frozen BK363.out 2
          have hfz43_3 := blk_frozen BK363.out 3
          have hfz43_4 := blk_frozen BK363.out 4
          have hfz43_5 := blk_frozen BK363.out 5
          have hfz43_6 := blk_frozen BK363.out 6
          have p368 : 0 ≤ (x5_2 : Int) := of_decide_eq_true (by first | (with_reducible assumption) | assumption)
          have q368 : x5_2 < (l0_3.length : Int) := of_decide_eq_true (by first | (with_reducible assumption) | assumption)
          obtain ⟨ad368, A368_0, c368_0, e368, hx368_0, hl368_0, hi368_0⟩ := at_L3 HR0_3.out x5_2 p368 q368
          cases e368
          replace hx368_0 := (HB.out.cell (World.block_lt_of_cell? w _ hx368_0)).trans hx368_0
          have HR368_0 := M_ hi368_0
          have HC368_0 := M_ hl368_0
          clear hi368_0 hl368_0
          replace p368 := eq_true p368
          replace q368 := eq_true q368
          have hcz44_0 : wr.cell? ⟨gb364, 0, none⟩ = some (.int .i64 a1_0) := (blk_cell BK364.out 0).trans rfl
          have hcz44_1 : wr.cell? ⟨gb364, 1, none⟩ = some (.int .i64 a1_1) := (blk_cell BK364.out 1).trans rfl
          have hcz44_2 : wr.cell? ⟨gb364, 2, none⟩ = some (.slice A1_2 l1_2.length c1_2) := (blk_cell BK364.out 2).trans rfl
          have hcz44_3 : wr.cell? ⟨gb364, 3, none⟩ = some (.slice A1_3 l1_3.length c1_3) := (blk_cell BK364.out 3).trans rfl
          have hcz44_4 : wr.cell? ⟨gb364, 4, none⟩ = some (.slice A1_4 l1_4.length c1_4) := (blk_cell BK364.out 4).trans rfl
          have hcz44_5 : wr.cell? ⟨gb364, 5, none⟩ = some (.slice A1_5 l1_5.length c1_5) := (blk_cell BK364.out 5).trans rfl
          have hcz44_6 : wr.cell? ⟨gb364, 6, none⟩ = some (.int .i64 a1_6) := (blk_cell BK364.out 6).trans rfl
          have hfz44_0 := blk_frozen BK364.out 0
          have hfz44_1 := blk_frozen BK364.out 1
          have hfz44_2 := blk_frozen BK364.out 2
          have hfz44_3 := blk_frozen BK364.out 3
          have hfz44_4 := blk_frozen BK364.out 4
          have hfz44_5 := blk_frozen BK364.out 5
          have hfz44_6 := blk_frozen BK364.out 6
          have p369 : 0 ≤ (x5_2 : Int) := of_decide_eq_true (by first | (with_reducible assumption) | assumption)
          have q369 : x5_2 < (l1_3.length : Int) := of_decide_eq_true (by first | (with_reducible assumption) | assumption)
          obtain ⟨ad369, A369_0, c369_0, e369, hx369_0, hl369_0, hi369_0⟩ := at_L3 HR1_3.out x5_2 p369 q369
          cases e369
          replace hx369_0 := (HB.out.cell (World.block_lt_of_cell? w _ hx369_0)).trans hx369_0
          have HR369_0 := M_ hi369_0
          have HC369_0 := M_ hl369_0
          clear hi369_0 hl369_0
          replace p369 := eq_true p369
          replace q369 := eq_true q369
          go_wp2_with (first | (go_at_call 13; (with_reducible refine (spiritlevelref02_SameInts.calls k2 _ _ (rd_L3 l0_3 x5_2) _ _ (rd_L3 l1_3 x5_2) false _ ?side1 ?side2 ?side3 ?side4 A37.out).mono ?_); (case side1 => exact cl_ (Kd.C_below HR368_0.out HB.out)); (case side2 => exact HC368_0.out); (case side3 => exact cl_ (Kd.C_below HR369_0.out HB.out)); (case side4 => exact HC369_0.out); rintro e w' ⟨rfl, ⟨nd, rfl⟩⟩; (try first | exact ⟨rfl, _, World.drewN_drewN _ _ _⟩ | exact ⟨rfl, _, Eq.trans (World.drewN_drewN _ _ _) (congrArg (World.drewN _) (Nat.add_assoc _ _ _))⟩)))
          repeat (go_quiet (first | (go_at_call 13; (with_reducible refine (spiritlevelref02_SameInts.calls k2 _ _ (rd_L3 l0_3 x5_2) _ _ (rd_L3 l1_3 x5_2) false _ ?side1 ?side2 ?side3 ?side4 A37.out).mono ?_); (case side1 => exact cl_ (Kd.C_below HR368_0.out HB.out)); (case side2 => exact HC368_0.out); (case side3 => exact cl_ (Kd.C_below HR369_0.out HB.out)); (case side4 => exact HC369_0.out); rintro e w' ⟨rfl, ⟨nd, rfl⟩⟩; (try first | exact ⟨rfl, _, World.drewN_drewN _ _ _⟩ | exact ⟨rfl, _, Eq.trans (World.drewN_drewN _ _ _) (congrArg (World.drewN _) (Nat.add_assoc _ _ _))⟩))); try go_wp2_with (first | (go_at_call 13; (with_reducible refine (spiritlevelref02_SameInts.calls k2 _ _ (rd_L3 l0_3 x5_2) _ _ (rd_L3 l1_3 x5_2) false _ ?side1 ?side2 ?side3 ?side4 A37.out).mono ?_); (case side1 => exact cl_ (Kd.C_below HR368_0.out HB.out)); (case side2 => exact HC368_0.out); (case side3 => exact cl_ (Kd.C_below HR369_0.out HB.out)); (case side4 => exact HC369_0.out); rintro e w' ⟨rfl, ⟨nd, rfl⟩⟩; (try first | exact ⟨rfl, _, World.drewN_drewN _ _ _⟩ | exact ⟨rfl, _, Eq.trans (World.drewN_drewN _ _ _) (congrArg (World.drewN _) (Nat.add_assoc _ _ _))⟩))))
          go_ret
          exact ⟨by first | rfl | (simp [errW_none, errW_some] <;> rfl) | (simp [*, errW_none, errW_some] <;> rfl), by repeat (first | (with_reducible first | exact HB.out | apply b0_ | apply b1_ | apply b2_ | refine below_set ?_ GE363.out | refine below_set ?_ GE364.out) | exact HB.out)⟩
        ·rw [if_neg c36] at H
         exact absurd H (by simp)
       ·rw [if_neg c35] at H
        exact absurd H (by simp)
      ·rw [if_neg c34] at H
       have c34b0 : decide (x5_2 < (l0_3.length : Int)) = false := decide_eq_false c34
       clear c34
       obtain rfl := Option.some.inj H
       have hnb45 := NB363_364.out
       have hnc45 := NB364_363.out
       have hcz46_0 : wr.cell? ⟨gb363, 0, none⟩ = some (.int .i64 a0_0) := (blk_cell BK363.out 0).trans rfl
       have hcz46_1 : wr.cell? ⟨gb363, 1, none⟩ = some (.int .i64 a0_1) := (blk_cell BK363.out 1).trans rfl
       have hcz46_2 : wr.cell? ⟨gb363, 2, none⟩ = some (.slice A0_2 l0_2.length c0_2) := (blk_cell BK363.out 2).trans rfl
       have hcz46_3 : wr.cell? ⟨gb363, 3, none⟩ = some (.slice A0_3 l0_3.length c0_3) := (blk_cell BK363.out 3).trans rfl
       have hcz46_4 : wr.cell? ⟨gb363, 4, none⟩ = some (.slice A0_4 l0_4.length c0_4) := (blk_cell BK363.out 4).trans rfl
       have hcz46_5 : wr.cell? ⟨gb363, 5, none⟩ = some (.slice A0_5 l0_5.length c0_5) := (blk_cell BK363.out 5).trans rfl
       have hcz46_6 : wr.cell? ⟨gb363, 6, none⟩ = some (.int .i64 a0_6) := (blk_cell BK363.out 6).trans rfl
       have hfz46_0 := blk_frozen BK363.out 0
       have hfz46_1 := blk_frozen BK363.out 1
       have hfz46_2 := blk_frozen BK363.out 2
       have hfz46_3 := blk_frozen BK363.out 3
       have hfz46_4 := blk_frozen BK363.out 4
       have hfz46_5 := blk_frozen BK363.out 5
       have hfz46_6 := blk_frozen BK363.out 6
       go_wp2
       repeat (go_quiet (fail); try go_wp2)
       go_ret
       exact ⟨by first | rfl | (simp [errW_none, errW_some] <;> rfl) | (simp [*, errW_none, errW_some] <;> rfl), by repeat (first | (with_reducible first | exact HB.out | apply b0_ | apply b1_ | apply b2_ | refine below_set ?_ GE363.out | refine below_set ?_ GE364.out) | exact HB.out)⟩

end Go.Proofs.Ytlgoniocoifjjaa.QConstantsPasses
