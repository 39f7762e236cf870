import Derived.Test.YtlgoniocoifjjaaLay
import Derived.Test.YtlgoniocoifjjaaQConstantsPassesx0
import Derived.Test.YtlgoniocoifjjaaQConstantsPassesx1
import Derived.Test.YtlgoniocoifjjaaQConstantsPassesx2
import Derived.Test.YtlgoniocoifjjaaQConstantsPassesx8
namespace Go.Proofs.Ytlgoniocoifjjaa.QConstantsPasses
open Go.RowKit Go.Proofs.YtlgoniocoifjjaaW.PrintWords Go.Proofs.YtlgoniocoifjjaaW.PrintLast Go.Proofs.YtlgoniocoifjjaaW.PrintMore
attribute [local go_sem] max2_int min2_int max_two min_two max_three min_three max_four min_four
set_option linter.unusedVariables false
set_option linter.unusedSimpArgs false

attribute [local go_sem high] eqA45 eqA55
mutual
def spiritlevelref02_Same.j0 : Nat → Bool → Int → List (S45) → List (S55) → List Int → List Int → Int → List (S45) → List (S55) → List Int → List Int → Option (Bool)
 | 0, _, _, _, _, _, _, _, _, _, _, _ => none
 | k + 1, x45, x144000, x144001, x144002, x144003, x144004, x145000, x145001, x145002, x145003, x145004 => if x45 = true then (some false) else (spiritlevelref02_Same.l0 k 0 x144000 x144001 x144002 x144003 x144004 x145000 x145001 x145002 x145003 x145004)
def spiritlevelref02_Same.l0 : Nat → Int → Int → List (S45) → List (S55) → List Int → List Int → Int → List (S45) → List (S55) → List Int → List Int → Option (Bool)
 | 0, _, _, _, _, _, _, _, _, _, _, _ => none
 | k + 1, x5, x144000, x144001, x144002, x144003, x144004, x145000, x145001, x145002, x145003, x145004 => if x5 < (x144001.length : Int) then (if 0 ≤ x5 then (if x5 < (x145001.length : Int) then (if (!(((rd_T45 x144001 x5).f0) == ((rd_T45 x145001 x5).f0)) || (!(((rd_T45 x144001 x5).f1) == ((rd_T45 x145001 x5).f1)))) = true then (some false) else (spiritlevelref02_Same.l0 k (wrap64 (x5 + 1)) x144000 x144001 x144002 x144003 x144004 x145000 x145001 x145002 x145003 x145004)) else (none)) else (none)) else (spiritlevelref02_Same.l1 k 0 x144000 x144001 x144002 x144003 x144004 x145000 x145001 x145002 x145003 x145004)
def spiritlevelref02_Same.l1 : Nat → Int → Int → List (S45) → List (S55) → List Int → List Int → Int → List (S45) → List (S55) → List Int → List Int → Option (Bool)
 | 0, _, _, _, _, _, _, _, _, _, _, _ => none
 | k + 1, x6, x144000, x144001, x144002, x144003, x144004, x145000, x145001, x145002, x145003, x145004 => if x6 < (x144002.length : Int) then (if 0 ≤ x6 then (if x6 < (x145002.length : Int) then (if (!(((rd_T55 x144002 x6).f0) == ((rd_T55 x145002 x6).f0)) || (!(((rd_T55 x144002 x6).f1) == ((rd_T55 x145002 x6).f1)))) = true then (some false) else (spiritlevelref02_Same.l1 k (wrap64 (x6 + 1)) x144000 x144001 x144002 x144003 x144004 x145000 x145001 x145002 x145003 x145004)) else (none)) else (none)) else (some true)
end
def spiritlevelref02_Same.f (k : Nat) (a0_0 : Int) (l0_1 : List (S45)) (l0_2 : List (S55)) (l0_3 : List Int) (l0_4 : List Int) (a1_0 : Int) (l1_1 : List (S45)) (l1_2 : List (S55)) (l1_3 : List Int) (l1_4 : List Int) : Option (Bool) := if a0_0 = a1_0 then (if (l0_1.length : Int) = (l1_1.length : Int) then (if (l0_2.length : Int) = (l1_2.length : Int) then ((spiritlevelref02_SameInts.f k l0_3 l1_3).bind fun t145 => (if t145 = true then ((spiritlevelref02_SameInts.f k l0_4 l1_4).bind fun t146 => (spiritlevelref02_Same.j0 k (!t146) a0_0 l0_1 l0_2 l0_3 l0_4 a1_0 l1_1 l1_2 l1_3 l1_4)) else (spiritlevelref02_Same.j0 k true a0_0 l0_1 l0_2 l0_3 l0_4 a1_0 l1_1 l1_2 l1_3 l1_4))) else (spiritlevelref02_Same.j0 k true a0_0 l0_1 l0_2 l0_3 l0_4 a1_0 l1_1 l1_2 l1_3 l1_4)) else (spiritlevelref02_Same.j0 k true a0_0 l0_1 l0_2 l0_3 l0_4 a1_0 l1_1 l1_2 l1_3 l1_4)) else (spiritlevelref02_Same.j0 k true a0_0 l0_1 l0_2 l0_3 l0_4 a1_0 l1_1 l1_2 l1_3 l1_4)
set_option maxHeartbeats 8000000 in
set_option maxRecDepth 100000 in
theorem spiritlevelref02_Same.calls (k : Nat) (a0_0 : Int) (A0_1 : Option Addr) (c0_1 : Nat) (l0_1 : List (S45)) (A0_2 : Option Addr) (c0_2 : Nat) (l0_2 : List (S55)) (A0_3 : Option Addr) (c0_3 : Nat) (l0_3 : List Int) (A0_4 : Option Addr) (c0_4 : Nat) (l0_4 : List Int) (a1_0 : Int) (A1_1 : Option Addr) (c1_1 : Nat) (l1_1 : List (S45)) (A1_2 : Option Addr) (c1_2 : Nat) (l1_2 : List (S55)) (A1_3 : Option Addr) (c1_3 : Nat) (l1_3 : List Int) (A1_4 : Option Addr) (c1_4 : Nat) (l1_4 : List Int) (r : Bool) (w : World) (hr0_1 : Kd.C k45 w A0_1 l0_1.length l0_1) (hc0_1 : l0_1.length ≤ c0_1) (hr0_2 : Kd.C k55 w A0_2 l0_2.length l0_2) (hc0_2 : l0_2.length ≤ c0_2) (hr0_3 : Kd.C (Kd.int .i64) w A0_3 l0_3.length l0_3) (hc0_3 : l0_3.length ≤ c0_3) (hr0_4 : Kd.C (Kd.int .i64) w A0_4 l0_4.length l0_4) (hc0_4 : l0_4.length ≤ c0_4) (hr1_1 : Kd.C k45 w A1_1 l1_1.length l1_1) (hc1_1 : l1_1.length ≤ c1_1) (hr1_2 : Kd.C k55 w A1_2 l1_2.length l1_2) (hc1_2 : l1_2.length ≤ c1_2) (hr1_3 : Kd.C (Kd.int .i64) w A1_3 l1_3.length l1_3) (hc1_3 : l1_3.length ≤ c1_3) (hr1_4 : Kd.C (Kd.int .i64) w A1_4 l1_4.length l1_4) (hc1_4 : l1_4.length ≤ c1_4) (h : spiritlevelref02_Same.f k a0_0 l0_1 l0_2 l0_3 l0_4 a1_0 l1_1 l1_2 l1_3 l1_4 = some r) :
  Calls Try.prog 14 #[.agg #[.int .i64 a0_0, .slice A0_1 l0_1.length c0_1, .slice A0_2 l0_2.length c0_2, .slice A0_3 l0_3.length c0_3, .slice A0_4 l0_4.length c0_4], .agg #[.int .i64 a1_0, .slice A1_1 l1_1.length c1_1, .slice A1_2 l1_2.length c1_2, .slice A1_3 l1_3.length c1_3, .slice A1_4 l1_4.length c1_4]] w fun e w' => e = .returned (.bool r) ∧ Below w.heap.size w w' := by
 have hu26 := Try.underlying26
 have hu45 := Try.underlying45
 have hu55 := Try.underlying55
 have HR0_1 := M_ hr0_1
 have HC0_1 := M_ hc0_1
 clear hr0_1 hc0_1
 have HR0_2 := M_ hr0_2
 have HC0_2 := M_ hc0_2
 clear hr0_2 hc0_2
 have HR0_3 := M_ hr0_3
 have HC0_3 := M_ hc0_3
 clear hr0_3 hc0_3
 have HR0_4 := M_ hr0_4
 have HC0_4 := M_ hc0_4
 clear hr0_4 hc0_4
 have HR1_1 := M_ hr1_1
 have HC1_1 := M_ hc1_1
 clear hr1_1 hc1_1
 have HR1_2 := M_ hr1_2
 have HC1_2 := M_ hc1_2
 clear hr1_2 hc1_2
 have HR1_3 := M_ hr1_3
 have HC1_3 := M_ hc1_3
 clear hr1_3 hc1_3
 have HR1_4 := M_ hr1_4
 have HC1_4 := M_ hc1_4
 clear hr1_4 hc1_4
 have HB := M_ (Below.refl w.heap.size w)
 have H : (if a0_0 = a1_0 then (if (l0_1.length : Int) = (l1_1.length : Int) then (if (l0_2.length : Int) = (l1_2.length : Int) then ((spiritlevelref02_SameInts.f k l0_3 l1_3).bind fun t145 => (if t145 = true then ((spiritlevelref02_SameInts.f k l0_4 l1_4).bind fun t146 => (spiritlevelref02_Same.j0 k (!t146) a0_0 l0_1 l0_2 l0_3 l0_4 a1_0 l1_1 l1_2 l1_3 l1_4)) else (spiritlevelref02_Same.j0 k true a0_0 l0_1 l0_2 l0_3 l0_4 a1_0 l1_1 l1_2 l1_3 l1_4))) else (spiritlevelref02_Same.j0 k true a0_0 l0_1 l0_2 l0_3 l0_4 a1_0 l1_1 l1_2 l1_3 l1_4)) else (spiritlevelref02_Same.j0 k true a0_0 l0_1 l0_2 l0_3 l0_4 a1_0 l1_1 l1_2 l1_3 l1_4)) else (spiritlevelref02_Same.j0 k true a0_0 l0_1 l0_2 l0_3 l0_4 a1_0 l1_1 l1_2 l1_3 l1_4)) = some r := h
 clear h
 have HC3 := M_ H
 clear H
 go_enter Try.func14, Try.ntmps14
 go_upto_region 1 with (first | ((with_reducible refine gate_dst (N := 2) rfl ?_); (try (refine gate_guard (by rfl) ?_; dsimp only)); refine box_event ?hg (N := 2) ?hd (cs := #[.int .i64 a0_0, .slice A0_1 l0_1.length c0_1, .slice A0_2 l0_2.length c0_2, .slice A0_3 l0_3.length c0_3, .slice A0_4 l0_4.length c0_4]) (t := 26) ?hr ?_; (case hd => rfl); (case hg => rfl); (case hr => first | (go_simp; done) | (go_simp; rfl)); intro gb143 hg w4 hbox hb; have n1_ := M_ (hbox); have n2_ := M_ ((by rw [hg]; exact (below_size (wl_ HB.out)) : w.heap.size ≤ gb143)); have n3_ := M_ ((by rw [hg]; exact (below_size (wl_ HB.out)) : w.heap.size ≤ gb143)); replace HB := wb_ HB hb; have BK143 := n1_; have GW143 := n2_; have GE143 := n3_; have gi143 : Ge _ _ := ⟨GE143.out⟩; clear n1_ n2_ n3_; clear hb hbox hg) | ((with_reducible refine gate_dst (N := 3) rfl ?_); (try (refine gate_guard (by rfl) ?_; dsimp only)); refine box_event ?hg (N := 3) ?hd (cs := #[.int .i64 a1_0, .slice A1_1 l1_1.length c1_1, .slice A1_2 l1_2.length c1_2, .slice A1_3 l1_3.length c1_3, .slice A1_4 l1_4.length c1_4]) (t := 26) ?hr ?_; (case hd => rfl); (case hg => rfl); (case hr => first | (go_simp; done) | (go_simp; rfl)); intro gb144 hg w5 hbox hb; have n2_ := M_ (hbox); have n3_ := M_ ((by rw [hg]; exact (below_size (ws_ HB.out)) : w.heap.size ≤ gb144)); have n4_ := M_ ((by rw [hg]; exact (below_size (ws_ HB.out)) : w.heap.size ≤ gb144)); have n5_ := M_ ((by rw [hg]; exact Nat.ne_of_lt (blk_lt (bl_ BK143.out)) : gb143 ≠ gb144)); have n6_ := M_ ((by rw [hg]; exact Nat.ne_of_gt (blk_lt (bl_ BK143.out)) : gb144 ≠ gb143)); replace BK143 := bb_ BK143 hb; replace HB := wb_ HB hb; have BK144 := n2_; have GW144 := n3_; have GE144 := n4_; have gi144 : Ge _ _ := ⟨GE144.out⟩; have NB143_144 := n5_; have NB144_143 := n6_; clear n2_ n3_ n4_ n5_ n6_; clear hb hbox hg))
 repeat (go_quiet (first | ((with_reducible refine gate_dst (N := 2) rfl ?_); (try (refine gate_guard (by rfl) ?_; dsimp only)); refine box_event ?hg (N := 2) ?hd (cs := #[.int .i64 a0_0, .slice A0_1 l0_1.length c0_1, .slice A0_2 l0_2.length c0_2, .slice A0_3 l0_3.length c0_3, .slice A0_4 l0_4.length c0_4]) (t := 26) ?hr ?_; (case hd => rfl); (case hg => rfl); (case hr => first | (go_simp; done) | (go_simp; rfl)); intro gb143 hg w4 hbox hb; have n1_ := M_ (hbox); have n2_ := M_ ((by rw [hg]; exact (below_size (wl_ HB.out)) : w.heap.size ≤ gb143)); have n3_ := M_ ((by rw [hg]; exact (below_size (wl_ HB.out)) : w.heap.size ≤ gb143)); replace HB := wb_ HB hb; have BK143 := n1_; have GW143 := n2_; have GE143 := n3_; have gi143 : Ge _ _ := ⟨GE143.out⟩; clear n1_ n2_ n3_; clear hb hbox hg) | ((with_reducible refine gate_dst (N := 3) rfl ?_); (try (refine gate_guard (by rfl) ?_; dsimp only)); refine box_event ?hg (N := 3) ?hd (cs := #[.int .i64 a1_0, .slice A1_1 l1_1.length c1_1, .slice A1_2 l1_2.length c1_2, .slice A1_3 l1_3.length c1_3, .slice A1_4 l1_4.length c1_4]) (t := 26) ?hr ?_; (case hd => rfl); (case hg => rfl); (case hr => first | (go_simp; done) | (go_simp; rfl)); intro gb144 hg w5 hbox hb; have n2_ := M_ (hbox); have n3_ := M_ ((by rw [hg]; exact (below_size (ws_ HB.out)) : w.heap.size ≤ gb144)); have n4_ := M_ ((by rw [hg]; exact (below_size (ws_ HB.out)) : w.heap.size ≤ gb144)); have n5_ := M_ ((by rw [hg]; exact Nat.ne_of_lt (blk_lt (bl_ BK143.out)) : gb143 ≠ gb144)); have n6_ := M_ ((by rw [hg]; exact Nat.ne_of_gt (blk_lt (bl_ BK143.out)) : gb144 ≠ gb143)); replace BK143 := bb_ BK143 hb; replace HB := wb_ HB hb; have BK144 := n2_; have GW144 := n3_; have GE144 := n4_; have gi144 : Ge _ _ := ⟨GE144.out⟩; have NB143_144 := n5_; have NB144_143 := n6_; clear n2_ n3_ n4_ n5_ n6_; clear hb hbox hg)); go_upto_region 1 with (first | ((with_reducible refine gate_dst (N := 2) rfl ?_); (try (refine gate_guard (by rfl) ?_; dsimp only)); refine box_event ?hg (N := 2) ?hd (cs := #[.int .i64 a0_0, .slice A0_1 l0_1.length c0_1, .slice A0_2 l0_2.length c0_2, .slice A0_3 l0_3.length c0_3, .slice A0_4 l0_4.length c0_4]) (t := 26) ?hr ?_; (case hd => rfl); (case hg => rfl); (case hr => first | (go_simp; done) | (go_simp; rfl)); intro gb143 hg w4 hbox hb; have n1_ := M_ (hbox); have n2_ := M_ ((by rw [hg]; exact (below_size (wl_ HB.out)) : w.heap.size ≤ gb143)); have n3_ := M_ ((by rw [hg]; exact (below_size (wl_ HB.out)) : w.heap.size ≤ gb143)); replace HB := wb_ HB hb; have BK143 := n1_; have GW143 := n2_; have GE143 := n3_; have gi143 : Ge _ _ := ⟨GE143.out⟩; clear n1_ n2_ n3_; clear hb hbox hg) | ((with_reducible refine gate_dst (N := 3) rfl ?_); (try (refine gate_guard (by rfl) ?_; dsimp only)); refine box_event ?hg (N := 3) ?hd (cs := #[.int .i64 a1_0, .slice A1_1 l1_1.length c1_1, .slice A1_2 l1_2.length c1_2, .slice A1_3 l1_3.length c1_3, .slice A1_4 l1_4.length c1_4]) (t := 26) ?hr ?_; (case hd => rfl); (case hg => rfl); (case hr => first | (go_simp; done) | (go_simp; rfl)); intro gb144 hg w5 hbox hb; have n2_ := M_ (hbox); have n3_ := M_ ((by rw [hg]; exact (below_size (ws_ HB.out)) : w.heap.size ≤ gb144)); have n4_ := M_ ((by rw [hg]; exact (below_size (ws_ HB.out)) : w.heap.size ≤ gb144)); have n5_ := M_ ((by rw [hg]; exact Nat.ne_of_lt (blk_lt (bl_ BK143.out)) : gb143 ≠ gb144)); have n6_ := M_ ((by rw [hg]; exact Nat.ne_of_gt (blk_lt (bl_ BK143.out)) : gb144 ≠ gb143)); replace BK143 := bb_ BK143 hb; replace HB := wb_ HB hb; have BK144 := n2_; have GW144 := n3_; have GE144 := n4_; have gi144 : Ge _ _ := ⟨GE144.out⟩; have NB143_144 := n5_; have NB144_143 := n6_; clear n2_ n3_ n4_ n5_ n6_; clear hb hbox hg)))
 (try simp only [Act.put, e1_, e2_, e3_])
 go_cut [45] (fun v45 wc => ∃ (kq : Nat) (x45_2 : Bool), v45 = .bool x45_2 ∧ Aside0 (spiritlevelref02_Same.j0 kq x45_2 a0_0 l0_1 l0_2 l0_3 l0_4 a1_0 l1_1 l1_2 l1_3 l1_4 = some r) ∧ Aside0 (kq ≤ k) ∧ Aside0 (wc.heap[gb143]? = some (.cells #[.int .i64 a0_0, (.slice A0_1 l0_1.length c0_1), (.slice A0_2 l0_2.length c0_2), (.slice A0_3 l0_3.length c0_3), (.slice A0_4 l0_4.length c0_4)] 26 (0, 0))) ∧ Aside0 (wc.heap[gb144]? = some (.cells #[.int .i64 a1_0, (.slice A1_1 l1_1.length c1_1), (.slice A1_2 l1_2.length c1_2), (.slice A1_3 l1_3.length c1_3), (.slice A1_4 l1_4.length c1_4)] 26 (0, 0))) ∧ Aside0 (Below w.heap.size w wc))
 case first =>
  have H := HC3.out
  clear HC3
  by_cases c6 : a0_0 = a1_0
  ·rw [if_pos c6] at H
   have c6b0 : (a0_0 == a1_0) = true := beq_iff_eq.mpr c6
   have c6b1 : (a0_0 != a1_0) = false := bne_eq_false_iff_eq.mpr c6
   clear c6
   (first | rw [c6b0] | (simp only [i64_w, i32_w]; rw [c6b0]) | skip)
   by_cases c7 : (l0_1.length : Int) = (l1_1.length : Int)
   ·rw [if_pos c7] at H
    have c7b0 : ((l0_1.length : Int) == (l1_1.length : Int)) = true := beq_iff_eq.mpr c7
    have c7b1 : ((l0_1.length : Int) != (l1_1.length : Int)) = false := bne_eq_false_iff_eq.mpr c7
    have c7b2 : (l0_1.length == l1_1.length) = true := by first | simpa using c7 | (simp at c7 ⊢; omega)
    clear c7
    by_cases c8 : (l0_2.length : Int) = (l1_2.length : Int)
    ·rw [if_pos c8] at H
     have c8b0 : ((l0_2.length : Int) == (l1_2.length : Int)) = true := beq_iff_eq.mpr c8
     have c8b1 : ((l0_2.length : Int) != (l1_2.length : Int)) = false := bne_eq_false_iff_eq.mpr c8
     have c8b2 : (l0_2.length == l1_2.length) = true := by first | simpa using c8 | (simp at c8 ⊢; omega)
     clear c8
     replace H := Option.bind_eq_some_iff.mp H
     obtain ⟨t145, A90, H⟩ := H
     replace H : (if t145 = true then ((spiritlevelref02_SameInts.f k l0_4 l1_4).bind fun t146 => (spiritlevelref02_Same.j0 k (!t146) a0_0 l0_1 l0_2 l0_3 l0_4 a1_0 l1_1 l1_2 l1_3 l1_4)) else (spiritlevelref02_Same.j0 k true a0_0 l0_1 l0_2 l0_3 l0_4 a1_0 l1_1 l1_2 l1_3 l1_4)) = some r := H
     have A9 := M_ A90
     clear A90
     by_cases c10 : t145 = true
     ·subst c10
      have H1 : ((spiritlevelref02_SameInts.f k l0_4 l1_4).bind fun t146 => (spiritlevelref02_Same.j0 k (!t146) a0_0 l0_1 l0_2 l0_3 l0_4 a1_0 l1_1 l1_2 l1_3 l1_4)) = some r := by rw [if_pos rfl] at H; exact H
      clear H
      have H := H1
      clear H1
      replace H := Option.bind_eq_some_iff.mp H
      obtain ⟨t146, A110, H⟩ := H
      replace H : (spiritlevelref02_Same.j0 k (!t146) a0_0 l0_1 l0_2 l0_3 l0_4 a1_0 l1_1 l1_2 l1_3 l1_4) = some r := H
      have A11 := M_ A110
      clear A110
      have H' := M_ H
      clear H
      have hnb12 := NB143_144.out
      have hnc12 := NB144_143.out
      obtain ⟨hcz13_0, hcz13_1, hcz13_2, hcz13_3, hcz13_4⟩ := cz5_ BK143.out
      obtain ⟨hfz13_0, hfz13_1, hfz13_2, hfz13_3, hfz13_4⟩ := fz5_ BK143.out
      obtain ⟨hcz14_0, hcz14_1, hcz14_2, hcz14_3, hcz14_4⟩ := cz5_ BK144.out
      obtain ⟨hfz14_0, hfz14_1, hfz14_2, hfz14_3, hfz14_4⟩ := fz5_ BK144.out
      go_wp2_with (first | (go_at_call 13; (with_reducible refine (spiritlevelref02_SameInts.calls k _ _ l0_3 _ _ l1_3 true _ ?side1 ?side2 ?side3 ?side4 A9.out).mono ?_); (case side1 => exact cl_ (Kd.C_below HR0_3.out HB.out)); (case side2 => exact HC0_3.out); (case side3 => exact cl_ (Kd.C_below HR1_3.out HB.out)); (case side4 => exact HC1_3.out); rintro e w' ⟨rfl, ⟨nd, rfl⟩⟩; (try first | exact ⟨rfl, _, World.drewN_drewN _ _ _⟩ | exact ⟨rfl, _, Eq.trans (World.drewN_drewN _ _ _) (congrArg (World.drewN _) (Nat.add_assoc _ _ _))⟩)) | (go_at_call 13; (with_reducible refine (spiritlevelref02_SameInts.calls k _ _ l0_4 _ _ l1_4 t146 _ ?side1 ?side2 ?side3 ?side4 A11.out).mono ?_); (case side1 => repeat (first | exact (Kd.C_below HR0_4.out (ws_ HB.out)) | (with_reducible refine c0_ ?_ _) | (with_reducible refine c1_ ?_ _) | (with_reducible refine c2_ ?_))); (case side2 => exact HC0_4.out); (case side3 => repeat (first | exact (Kd.C_below HR1_4.out (ws_ HB.out)) | (with_reducible refine c0_ ?_ _) | (with_reducible refine c1_ ?_ _) | (with_reducible refine c2_ ?_))); (case side4 => exact HC1_4.out); rintro e w' ⟨rfl, ⟨nd, rfl⟩⟩; (try first | exact ⟨rfl, _, World.drewN_drewN _ _ _⟩ | exact ⟨rfl, _, Eq.trans (World.drewN_drewN _ _ _) (congrArg (World.drewN _) (Nat.add_assoc _ _ _))⟩)))
      repeat (go_quiet (first | (go_at_call 13; (with_reducible refine (spiritlevelref02_SameInts.calls k _ _ l0_3 _ _ l1_3 true _ ?side1 ?side2 ?side3 ?side4 A9.out).mono ?_); (case side1 => exact cl_ (Kd.C_below HR0_3.out HB.out)); (case side2 => exact HC0_3.out); (case side3 => exact cl_ (Kd.C_below HR1_3.out HB.out)); (case side4 => exact HC1_3.out); rintro e w' ⟨rfl, ⟨nd, rfl⟩⟩; (try first | exact ⟨rfl, _, World.drewN_drewN _ _ _⟩ | exact ⟨rfl, _, Eq.trans (World.drewN_drewN _ _ _) (congrArg (World.drewN _) (Nat.add_assoc _ _ _))⟩)) | (go_at_call 13; (with_reducible refine (spiritlevelref02_SameInts.calls k _ _ l0_4 _ _ l1_4 t146 _ ?side1 ?side2 ?side3 ?side4 A11.out).mono ?_); (case side1 => repeat (first | exact (Kd.C_below HR0_4.out (ws_ HB.out)) | (with_reducible refine c0_ ?_ _) | (with_reducible refine c1_ ?_ _) | (with_reducible refine c2_ ?_))); (case side2 => exact HC0_4.out); (case side3 => repeat (first | exact (Kd.C_below HR1_4.out (ws_ HB.out)) | (with_reducible refine c0_ ?_ _) | (with_reducible refine c1_ ?_ _) | (with_reducible refine c2_ ?_))); (case side4 => exact HC1_4.out); rintro e w' ⟨rfl, ⟨nd, rfl⟩⟩; (try first | exact ⟨rfl, _, World.drewN_drewN _ _ _⟩ | exact ⟨rfl, _, Eq.trans (World.drewN_drewN _ _ _) (congrArg (World.drewN _) (Nat.add_assoc _ _ _))⟩))); try go_wp2_with (first | (go_at_call 13; (with_reducible refine (spiritlevelref02_SameInts.calls k _ _ l0_3 _ _ l1_3 true _ ?side1 ?side2 ?side3 ?side4 A9.out).mono ?_); (case side1 => exact cl_ (Kd.C_below HR0_3.out HB.out)); (case side2 => exact HC0_3.out); (case side3 => exact cl_ (Kd.C_below HR1_3.out HB.out)); (case side4 => exact HC1_3.out); rintro e w' ⟨rfl, ⟨nd, rfl⟩⟩; (try first | exact ⟨rfl, _, World.drewN_drewN _ _ _⟩ | exact ⟨rfl, _, Eq.trans (World.drewN_drewN _ _ _) (congrArg (World.drewN _) (Nat.add_assoc _ _ _))⟩)) | (go_at_call 13; (with_reducible refine (spiritlevelref02_SameInts.calls k _ _ l0_4 _ _ l1_4 t146 _ ?side1 ?side2 ?side3 ?side4 A11.out).mono ?_); (case side1 => repeat (first | exact (Kd.C_below HR0_4.out (ws_ HB.out)) | (with_reducible refine c0_ ?_ _) | (with_reducible refine c1_ ?_ _) | (with_reducible refine c2_ ?_))); (case side2 => exact HC0_4.out); (case side3 => repeat (first | exact (Kd.C_below HR1_4.out (ws_ HB.out)) | (with_reducible refine c0_ ?_ _) | (with_reducible refine c1_ ?_ _) | (with_reducible refine c2_ ?_))); (case side4 => exact HC1_4.out); rintro e w' ⟨rfl, ⟨nd, rfl⟩⟩; (try first | exact ⟨rfl, _, World.drewN_drewN _ _ _⟩ | exact ⟨rfl, _, Eq.trans (World.drewN_drewN _ _ _) (congrArg (World.drewN _) (Nat.add_assoc _ _ _))⟩))))
      go_meet
      case rel => exact ⟨_, (!t146), (by first | rfl | (simp; done) | (simp [*]; done)), H', ⟨by first | omega | exact Nat.le_refl _⟩, ⟨by (with_reducible repeat (first | refine k0_ ?_ _ | refine k1_ ?_ | refine k2_ ?_ _)); exact BK143.out⟩, ⟨by (with_reducible repeat (first | refine k0_ ?_ _ | refine k1_ ?_ | refine k2_ ?_ _)); exact BK144.out⟩, ⟨by repeat (first | (with_reducible first | exact HB.out | apply b0_ | apply b1_ | apply b2_ | refine below_set ?_ GE143.out | refine below_set ?_ GE144.out) | exact HB.out)⟩⟩
     ·replace c10 := Bool.eq_false_iff.mpr c10
      subst c10
      have H1 : (spiritlevelref02_Same.j0 k true a0_0 l0_1 l0_2 l0_3 l0_4 a1_0 l1_1 l1_2 l1_3 l1_4) = some r := by rw [if_neg (show ¬ (false = true) by decide)] at H; exact H
      clear H
      have H := H1
      clear H1
      have H' := M_ H
      clear H
      have hnb15 := NB143_144.out
      have hnc15 := NB144_143.out
      obtain ⟨hcz16_0, hcz16_1, hcz16_2, hcz16_3, hcz16_4⟩ := cz5_ BK143.out
      obtain ⟨hfz16_0, hfz16_1, hfz16_2, hfz16_3, hfz16_4⟩ := fz5_ BK143.out
      obtain ⟨hcz17_0, hcz17_1, hcz17_2, hcz17_3, hcz17_4⟩ := cz5_ BK144.out
      obtain ⟨hfz17_0, hfz17_1, hfz17_2, hfz17_3, hfz17_4⟩ := fz5_ BK144.out
      go_wp2_with (first | (go_at_call 13; (with_reducible refine (spiritlevelref02_SameInts.calls k _ _ l0_3 _ _ l1_3 false _ ?side1 ?side2 ?side3 ?side4 A9.out).mono ?_); (case side1 => exact cl_ (Kd.C_below HR0_3.out HB.out)); (case side2 => exact HC0_3.out); (case side3 => exact cl_ (Kd.C_below HR1_3.out HB.out)); (case side4 => exact HC1_3.out); rintro e w' ⟨rfl, ⟨nd, rfl⟩⟩; (try first | exact ⟨rfl, _, World.drewN_drewN _ _ _⟩ | exact ⟨rfl, _, Eq.trans (World.drewN_drewN _ _ _) (congrArg (World.drewN _) (Nat.add_assoc _ _ _))⟩)))
      repeat (go_quiet (first | (go_at_call 13; (with_reducible refine (spiritlevelref02_SameInts.calls k _ _ l0_3 _ _ l1_3 false _ ?side1 ?side2 ?side3 ?side4 A9.out).mono ?_); (case side1 => exact cl_ (Kd.C_below HR0_3.out HB.out)); (case side2 => exact HC0_3.out); (case side3 => exact cl_ (Kd.C_below HR1_3.out HB.out)); (case side4 => exact HC1_3.out); rintro e w' ⟨rfl, ⟨nd, rfl⟩⟩; (try first | exact ⟨rfl, _, World.drewN_drewN _ _ _⟩ | exact ⟨rfl, _, Eq.trans (World.drewN_drewN _ _ _) (congrArg (World.drewN _) (Nat.add_assoc _ _ _))⟩))); try go_wp2_with (first | (go_at_call 13; (with_reducible refine (spiritlevelref02_SameInts.calls k _ _ l0_3 _ _ l1_3 false _ ?side1 ?side2 ?side3 ?side4 A9.out).mono ?_); (case side1 => exact cl_ (Kd.C_below HR0_3.out HB.out)); (case side2 => exact HC0_3.out); (case side3 => exact cl_ (Kd.C_below HR1_3.out HB.out)); (case side4 => exact HC1_3.out); rintro e w' ⟨rfl, ⟨nd, rfl⟩⟩; (try first | exact ⟨rfl, _, World.drewN_drewN _ _ _⟩ | exact ⟨rfl, _, Eq.trans (World.drewN_drewN _ _ _) (congrArg (World.drewN _) (Nat.add_assoc _ _ _))⟩))))
      go_meet
      case rel => exact ⟨_, (true), (by first | rfl | (simp; done) | (simp [*]; done)), H', ⟨by first | omega | exact Nat.le_refl _⟩, ⟨by (with_reducible repeat (first | refine k0_ ?_ _ | refine k1_ ?_ | refine k2_ ?_ _)); exact BK143.out⟩, ⟨by (with_reducible repeat (first | refine k0_ ?_ _ | refine k1_ ?_ | refine k2_ ?_ _)); exact BK144.out⟩, ⟨by repeat (first | (with_reducible first | exact HB.out | apply b0_ | apply b1_ | apply b2_ | refine below_set ?_ GE143.out | refine below_set ?_ GE144.out) | exact HB.out)⟩⟩
    ·rw [if_neg c8] at H
     have c8b0 : ((l0_2.length : Int) == (l1_2.length : Int)) = false := beq_eq_false_iff_ne.mpr c8
     have c8b1 : ((l0_2.length : Int) != (l1_2.length : Int)) = true := bne_iff_ne.mpr c8
     have c8b2 : (l0_2.length == l1_2.length) = false := by first | simpa using c8 | (simp at c8 ⊢; omega)
     have H' := M_ H
     clear H
     have hnb18 := NB143_144.out
     have hnc18 := NB144_143.out
     obtain ⟨hcz19_0, hcz19_1, hcz19_2, hcz19_3, hcz19_4⟩ := cz5_ BK143.out
     obtain ⟨hfz19_0, hfz19_1, hfz19_2, hfz19_3, hfz19_4⟩ := fz5_ BK143.out
     obtain ⟨hcz20_0, hcz20_1, hcz20_2, hcz20_3, hcz20_4⟩ := cz5_ BK144.out
     obtain ⟨hfz20_0, hfz20_1, hfz20_2, hfz20_3, hfz20_4⟩ := fz5_ BK144.out
     go_wp2
     repeat (go_quiet (fail); try go_wp2)
     go_meet
     case rel => exact ⟨_, (true), (by first | rfl | (simp; done) | (simp [*]; done)), H', ⟨by first | omega | exact Nat.le_refl _⟩, ⟨by (with_reducible repeat (first | refine k0_ ?_ _ | refine k1_ ?_ | refine k2_ ?_ _)); exact BK143.out⟩, ⟨by (with_reducible repeat (first | refine k0_ ?_ _ | refine k1_ ?_ | refine k2_ ?_ _)); exact BK144.out⟩, ⟨by repeat (first | (with_reducible first | exact HB.out | apply b0_ | apply b1_ | apply b2_ | refine below_set ?_ GE143.out | refine below_set ?_ GE144.out) | exact HB.out)⟩⟩
   ·rw [if_neg c7] at H
    have c7b0 : ((l0_1.length : Int) == (l1_1.length : Int)) = false := beq_eq_false_iff_ne.mpr c7
    have c7b1 : ((l0_1.length : Int) != (l1_1.length : Int)) = true := bne_iff_ne.mpr c7
    have c7b2 : (l0_1.length == l1_1.length) = false := by first | simpa using c7 | (simp at c7 ⊢; omega)
    have H' := M_ H
    clear H
    have hnb21 := NB143_144.out
    have hnc21 := NB144_143.out
    obtain ⟨hcz22_0, hcz22_1, hcz22_2, hcz22_3, hcz22_4⟩ := cz5_ BK143.out
    obtain ⟨hfz22_0, hfz22_1, hfz22_2, hfz22_3, hfz22_4⟩ := fz5_ BK143.out
    obtain ⟨hcz23_0, hcz23_1, hcz23_2, hcz23_3, hcz23_4⟩ := cz5_ BK144.out
    obtain ⟨hfz23_0, hfz23_1, hfz23_2, hfz23_3, hfz23_4⟩ := fz5_ BK144.out
    go_wp2
    repeat (go_quiet (fail); try go_wp2)
    go_meet
    case rel => exact ⟨_, (true), (by first | rfl | (simp; done) | (simp [*]; done)), H', ⟨by first | omega | exact Nat.le_refl _⟩, ⟨by (with_reducible repeat (first | refine k0_ ?_ _ | refine k1_ ?_ | refine k2_ ?_ _)); exact BK143.out⟩, ⟨by (with_reducible repeat (first | refine k0_ ?_ _ | refine k1_ ?_ | refine k2_ ?_ _)); exact BK144.out⟩, ⟨by repeat (first | (with_reducible first | exact HB.out | apply b0_ | apply b1_ | apply b2_ | refine below_set ?_ GE143.out | refine below_set ?_ GE144.out) | exact HB.out)⟩⟩
  ·rw [if_neg c6] at H
   have c6b0 : (a0_0 == a1_0) = false := beq_eq_false_iff_ne.mpr c6
   have c6b1 : (a0_0 != a1_0) = true := bne_iff_ne.mpr c6
   (first | rw [c6b0] | (simp only [i64_w, i32_w]; rw [c6b0]) | skip)
   have H' := M_ H
   clear H
   have hnb24 := NB143_144.out
   have hnc24 := NB144_143.out
   obtain ⟨hcz25_0, hcz25_1, hcz25_2, hcz25_3, hcz25_4⟩ := cz5_ BK143.out
   obtain ⟨hfz25_0, hfz25_1, hfz25_2, hfz25_3, hfz25_4⟩ := fz5_ BK143.out
   obtain ⟨hcz26_0, hcz26_1, hcz26_2, hcz26_3, hcz26_4⟩ := cz5_ BK144.out
   obtain ⟨hfz26_0, hfz26_1, hfz26_2, hfz26_3, hfz26_4⟩ := fz5_ BK144.out
   go_wp2
   repeat (go_quiet (fail); try go_wp2)
   go_meet
   case rel => exact ⟨_, (true), (by first | rfl | (simp; done) | (simp [*]; done)), H', ⟨by first | omega | exact Nat.le_refl _⟩, ⟨by (with_reducible repeat (first | refine k0_ ?_ _ | refine k1_ ?_ | refine k2_ ?_ _)); exact BK143.out⟩, ⟨by (with_reducible repeat (first | refine k0_ ?_ _ | refine k1_ ?_ | refine k2_ ?_ _)); exact BK144.out⟩, ⟨by repeat (first | (with_reducible first | exact HB.out | apply b0_ | apply b1_ | apply b2_ | refine below_set ?_ GE143.out | refine below_set ?_ GE144.out) | exact HB.out)⟩⟩
 case rest =>
  clear HC3
  try clear c1; try clear c2; try clear p2; try clear c6; try clear c6b0; try clear c6b1; try clear c7; try clear c7b0; try clear c7b1; try clear c7b2; try clear c8; try clear c8b0; try clear c8b1; try clear c8b2; try clear c10; try clear c12; try clear c14; try clear c15; try clear c18; try clear c21; try clear c24; try clear hcz13_0 hcz13_1 hcz13_2 hcz13_3 hcz13_4; try clear hcz14_0 hcz14_1 hcz14_2 hcz14_3 hcz14_4; try clear hcz16_0 hcz16_1 hcz16_2 hcz16_3 hcz16_4; try clear hcz17_0 hcz17_1 hcz17_2 hcz17_3 hcz17_4; try clear hcz19_0 hcz19_1 hcz19_2 hcz19_3 hcz19_4; try clear hcz20_0 hcz20_1 hcz20_2 hcz20_3 hcz20_4; try clear hcz22_0 hcz22_1 hcz22_2 hcz22_3 hcz22_4; try clear hcz23_0 hcz23_1 hcz23_2 hcz23_3 hcz23_4; try clear hcz25_0 hcz25_1 hcz25_2 hcz25_3 hcz25_4; try clear hcz26_0 hcz26_1 hcz26_2 hcz26_3 hcz26_4; try clear hfz13_0 hfz13_1 hfz13_2 hfz13_3 hfz13_4; try clear hfz14_0 hfz14_1 hfz14_2 hfz14_3 hfz14_4; try clear hfz16_0 hfz16_1 hfz16_2 hfz16_3 hfz16_4; try clear hfz17_0 hfz17_1 hfz17_2 hfz17_3 hfz17_4; try clear hfz19_0 hfz19_1 hfz19_2 hfz19_3 hfz19_4; try clear hfz20_0 hfz20_1 hfz20_2 hfz20_3 hfz20_4; try clear hfz22_0 hfz22_1 hfz22_2 hfz22_3 hfz22_4; try clear hfz23_0 hfz23_1 hfz23_2 hfz23_3 hfz23_4; try clear hfz25_0 hfz25_1 hfz25_2 hfz25_3 hfz25_4; try clear hfz26_0 hfz26_1 hfz26_2 hfz26_3 hfz26_4
  obtain ⟨kq, x45_2, rfl, HA, HJ2, BK143, BK144, HB⟩ := hcut
  cases kq with
  | zero => exact absurd HA.out (by simp [spiritlevelref02_Same.j0])
  | succ kj2 =>
   have H := HA.out
   clear HA
   simp only [spiritlevelref02_Same.j0] at H
   by_cases c27 : x45_2 = true
   ·subst c27
    have H1 : (some false) = some r := by rw [if_pos rfl] at H; exact H
    clear H
    have H := H1
    clear H1
    obtain rfl := Option.some.inj H
    go_wp2
    repeat (go_quiet (fail); try go_wp2)
    go_ret
    exact ⟨by first | rfl | (simp [errW_none, errW_some] <;> rfl) | (simp [*, errW_none, errW_some] <;> rfl), by repeat (first | (with_reducible first | exact HB.out | apply b0_ | apply b1_ | apply b2_ | refine below_set ?_ GE143.out | refine below_set ?_ GE144.out) | exact HB.out)⟩
   ·replace c27 := Bool.eq_false_iff.mpr c27
    subst c27
    have H1 : (spiritlevelref02_Same.l0 kj2 0 a0_0 l0_1 l0_2 l0_3 l0_4 a1_0 l1_1 l1_2 l1_3 l1_4) = some r := by rw [if_neg (show ¬ (false = true) by decide)] at H; exact H
    clear H
    have H := H1
    clear H1
    have H' := M_ H
    clear H
    go_wp2
    repeat (go_quiet (fail); try go_wp2)
    go_loopg [5] kj2 (fun kq v5 w' => ∃ (x5_2 : Int), v5 = .int .i64 x5_2 ∧ Aside0 (spiritlevelref02_Same.l0 kq x5_2 a0_0 l0_1 l0_2 l0_3 l0_4 a1_0 l1_1 l1_2 l1_3 l1_4 = some r) ∧ Aside0 (kq ≤ kj2) ∧ Aside0 (w'.heap[gb143]? = some (.cells #[.int .i64 a0_0, (.slice A0_1 l0_1.length c0_1), (.slice A0_2 l0_2.length c0_2), (.slice A0_3 l0_3.length c0_3), (.slice A0_4 l0_4.length c0_4)] 26 (0, 0))) ∧ Aside0 (w'.heap[gb144]? = some (.cells #[.int .i64 a1_0, (.slice A1_1 l1_1.length c1_1), (.slice A1_2 l1_2.length c1_2), (.slice A1_3 l1_3.length c1_3), (.slice A1_4 l1_4.length c1_4)] 26 (0, 0))) ∧ Aside0 (Below w.heap.size w w'))
    case atStart => exact ⟨(0), (by first | rfl | (simp; done) | (simp [*]; done)), H', ⟨Nat.le_refl _⟩, ⟨by (with_reducible repeat (first | refine k0_ ?_ _ | refine k1_ ?_ | refine k2_ ?_ _)); exact BK143.out⟩, ⟨by (with_reducible repeat (first | refine k0_ ?_ _ | refine k1_ ?_ | refine k2_ ?_ _)); exact BK144.out⟩, ⟨by repeat (first | (with_reducible first | exact HB.out | apply b0_ | apply b1_ | apply b2_ | refine below_set ?_ GE143.out | refine below_set ?_ GE144.out) | exact HB.out)⟩⟩
    case round =>
     clear H'
     try clear c1; try clear c2; try clear p2; try clear c6; try clear c6b0; try clear c6b1; try clear c7; try clear c7b0; try clear c7b1; try clear c7b2; try clear c8; try clear c8b0; try clear c8b1; try clear c8b2; try clear c10; try clear c12; try clear c14; try clear c15; try clear c18; try clear c21; try clear c24; try clear c27; try clear hcz13_0 hcz13_1 hcz13_2 hcz13_3 hcz13_4; try clear hcz14_0 hcz14_1 hcz14_2 hcz14_3 hcz14_4; try clear hcz16_0 hcz16_1 hcz16_2 hcz16_3 hcz16_4; try clear hcz17_0 hcz17_1 hcz17_2 hcz17_3 hcz17_4; try clear hcz19_0 hcz19_1 hcz19_2 hcz19_3 hcz19_4; try clear hcz20_0 hcz20_1 hcz20_2 hcz20_3 hcz20_4; try clear hcz22_0 hcz22_1 hcz22_2 hcz22_3 hcz22_4; try clear hcz23_0 hcz23_1 hcz23_2 hcz23_3 hcz23_4; try clear hcz25_0 hcz25_1 hcz25_2 hcz25_3 hcz25_4; try clear hcz26_0 hcz26_1 hcz26_2 hcz26_3 hcz26_4; try clear hfz13_0 hfz13_1 hfz13_2 hfz13_3 hfz13_4; try clear hfz14_0 hfz14_1 hfz14_2 hfz14_3 hfz14_4; try clear hfz16_0 hfz16_1 hfz16_2 hfz16_3 hfz16_4; try clear hfz17_0 hfz17_1 hfz17_2 hfz17_3 hfz17_4; try clear hfz19_0 hfz19_1 hfz19_2 hfz19_3 hfz19_4; try clear hfz20_0 hfz20_1 hfz20_2 hfz20_3 hfz20_4; try clear hfz22_0 hfz22_1 hfz22_2 hfz22_3 hfz22_4; try clear hfz23_0 hfz23_1 hfz23_2 hfz23_3 hfz23_4; try clear hfz25_0 hfz25_1 hfz25_2 hfz25_3 hfz25_4; try clear hfz26_0 hfz26_1 hfz26_2 hfz26_3 hfz26_4; try clear p2
     obtain ⟨x5_2, rfl, HA, HK2, BK143, BK144, HB⟩ := hrel
     cases gk with
     | zero => exact absurd HA.out (by simp [spiritlevelref02_Same.l0])
     | succ k2 =>
      have H := HA.out
      clear HA
      simp only [spiritlevelref02_Same.l0] at H
      by_cases c28 : x5_2 < (l0_1.length : Int)
      ·rw [if_pos c28] at H
       have c28b0 : decide (x5_2 < (l0_1.length : Int)) = true := decide_eq_true c28
       clear c28
       by_cases c29 : 0 ≤ x5_2
       ·rw [if_pos c29] at H
        have c29b0 : decide (0 ≤ x5_2) = true := decide_eq_true c29
        clear c29
        by_cases c30 : x5_2 < (l1_1.length : Int)
        ·rw [if_pos c30] at H
         have c30b0 : decide (x5_2 < (l1_1.length : Int)) = true := decide_eq_true c30
         clear c30
         by_cases c31 : (!(((rd_T45 l0_1 x5_2).f0) == ((rd_T45 l1_1 x5_2).f0)) || (!(((rd_T45 l0_1 x5_2).f1) == ((rd_T45 l1_1 x5_2).f1)))) = true
         ·rw [if_pos c31] at H
          have c31b0 : (!(((rd_T45 l0_1 x5_2).f0) == ((rd_T45 l1_1 x5_2).f0)) || (!(((rd_T45 l0_1 x5_2).f1) == ((rd_T45 l1_1 x5_2).f1)))) = true := c31
          clear c31
          obtain rfl := Option.some.inj H
          have hnb32 := NB143_144.out
          have hnc32 := NB144_143.out
          obtain ⟨hcz33_0, hcz33_1, hcz33_2, hcz33_3, hcz33_4⟩ := cz5_ BK143.out
          obtain ⟨hfz33_0, hfz33_1, hfz33_2, hfz33_3, hfz33_4⟩ := fz5_ BK143.out
          have p147 : 0 ≤ (x5_2 : Int) := of_decide_eq_true (by first | (with_reducible assumption) | assumption)
          have q147 : x5_2 < (l0_1.length : Int) := of_decide_eq_true (by first | (with_reducible assumption) | assumption)
          obtain ⟨ad147, e147, hx147_0, hx147_1⟩ := at_T45 HR0_1.out x5_2 p147 q147
          cases e147
          replace hx147_0 := (HB.out.cell (World.block_lt_of_cell? w _ hx147_0)).trans hx147_0
          replace hx147_1 := (HB.out.cell (World.block_lt_of_cell? w _ hx147_1)).trans hx147_1
          replace p147 := eq_true p147
          replace q147 := eq_true q147
          obtain ⟨hcz34_0, hcz34_1, hcz34_2, hcz34_3, hcz34_4⟩ := cz5_ BK144.out
          obtain ⟨hfz34_0, hfz34_1, hfz34_2, hfz34_3, hfz34_4⟩ := fz5_ BK144.out
          have p148 : 0 ≤ (x5_2 : Int) := of_decide_eq_true (by first | (with_reducible assumption) | assumption)
          have q148 : x5_2 < (l1_1.length : Int) := of_decide_eq_true (by first | (with_reducible assumption) | assumption)
          obtain ⟨ad148, e148, hx148_0, hx148_1⟩ := at_T45 HR1_1.out x5_2 p148 q148
          cases e148
          replace hx148_0 := (HB.out.cell (World.block_lt_of_cell? w _ hx148_0)).trans hx148_0
          replace hx148_1 := (HB.out.cell (World.block_lt_of_cell? w _ hx148_1)).trans hx148_1
          replace p148 := eq_true p148
          replace q148 := eq_true q148
          go_wp2
          repeat (go_quiet (fail); try go_wp2)
          go_ret
          exact ⟨by first | rfl | (simp [errW_none, errW_some] <;> rfl) | (simp [*, errW_none, errW_some] <;> rfl), by repeat (first | (with_reducible first | exact HB.out | apply b0_ | apply b1_ | apply b2_ | refine below_set ?_ GE143.out | refine below_set ?_ GE144.out) | exact HB.out)⟩
         ·rw [if_neg c31] at H
          have c31b0 : (!(((rd_T45 l0_1 x5_2).f0) == ((rd_T45 l1_1 x5_2).f0)) || (!(((rd_T45 l0_1 x5_2).f1) == ((rd_T45 l1_1 x5_2).f1)))) = false := by simpa using c31
          clear c31
          have H' := M_ H
          clear H
          have hnb35 := NB143_144.out
          have hnc35 := NB144_143.out
          obtain ⟨hcz36_0, hcz36_1, hcz36_2, hcz36_3, hcz36_4⟩ := cz5_ BK143.out
          obtain ⟨hfz36_0, hfz36_1, hfz36_2, hfz36_3, hfz36_4⟩ := fz5_ BK143.out
          have p147 : 0 ≤ (x5_2 : Int) := of_decide_eq_true (by first | (with_reducible assumption) | assumption)
          have q147 : x5_2 < (l0_1.length : Int) := of_decide_eq_true (by first | (with_reducible assumption) | assumption)
          obtain ⟨ad147, e147, hx147_0, hx147_1⟩ := at_T45 HR0_1.out x5_2 p147 q147
          cases e147
          replace hx147_0 := (HB.out.cell (World.block_lt_of_cell? w _ hx147_0)).trans hx147_0
          replace hx147_1 := (HB.out.cell (World.block_lt_of_cell? w _ hx147_1)).trans hx147_1
          replace p147 := eq_true p147
          replace q147 := eq_true q147
          obtain ⟨hcz37_0, hcz37_1, hcz37_2, hcz37_3, hcz37_4⟩ := cz5_ BK144.out
          obtain ⟨hfz37_0, hfz37_1, hfz37_2, hfz37_3, hfz37_4⟩ := fz5_ BK144.out
          have p148 : 0 ≤ (x5_2 : Int) := of_decide_eq_true (by first | (with_reducible assumption) | assumption)
          have q148 : x5_2 < (l1_1.length : Int) := of_decide_eq_true (by first | (with_reducible assumption) | assumption)
          obtain ⟨ad148, e148, hx148_0, hx148_1⟩ := at_T45 HR1_1.out x5_2 p148 q148
          cases e148
          replace hx148_0 := (HB.out.cell (World.block_lt_of_cell? w _ hx148_0)).trans hx148_0
          replace hx148_1 := (HB.out.cell (World.block_lt_of_cell? w _ hx148_1)).trans hx148_1
          replace p148 := eq_true p148
          replace q148 := eq_true q148
          go_wp2
          repeat (go_quiet (fail); try go_wp2)
          go_roundg k2
          case measure => have := HJ2.out; have := HK2.out; omega
          case rel => exact ⟨(wrap64 (x5_2 + 1)), (by first | rfl | (simp; done) | (simp [*]; done)), H', ⟨by have := HJ2.out; have := HK2.out; omega⟩, ⟨by (with_reducible repeat (first | refine k0_ ?_ _ | refine k1_ ?_ | refine k2_ ?_ _)); exact BK143.out⟩, ⟨by (with_reducible repeat (first | refine k0_ ?_ _ | refine k1_ ?_ | refine k2_ ?_ _)); exact BK144.out⟩, ⟨by repeat (first | (with_reducible first | exact HB.out | apply b0_ | apply b1_ | apply b2_ | refine below_set ?_ GE143.out | refine below_set ?_ GE144.out) | exact HB.out)⟩⟩
        ·rw [if_neg c30] at H
         exact absurd H (by simp)
       ·rw [if_neg c29] at H
        exact absurd H (by simp)
      ·rw [if_neg c28] at H
       have c28b0 : decide (x5_2 < (l0_1.length : Int)) = false := decide_eq_false c28
       clear c28
       have H' := M_ H
       clear H
       have hnb38 := NB143_144.out
       have hnc38 := NB144_143.out
       obtain ⟨hcz39_0, hcz39_1, hcz39_2, hcz39_3, hcz39_4⟩ := cz5_ BK143.out
       obtain ⟨hfz39_0, hfz39_1, hfz39_2, hfz39_3, hfz39_4⟩ := fz5_ BK143.out
       go_wp2
       repeat (go_quiet (fail); try go_wp2)
       go_loopg [6] k2 (fun kq v6 w' => ∃ (x6_3 : Int), v6 = .int .i64 x6_3 ∧ Aside0 (spiritlevelref02_Same.l1 kq x6_3 a0_0 l0_1 l0_2 l0_3 l0_4 a1_0 l1_1 l1_2 l1_3 l1_4 = some r) ∧ Aside0 (kq ≤ k2) ∧ Aside0 (w'.heap[gb143]? = some (.cells #[.int .i64 a0_0, (.slice A0_1 l0_1.length c0_1), (.slice A0_2 l0_2.length c0_2), (.slice A0_3 l0_3.length c0_3), (.slice A0_4 l0_4.length c0_4)] 26 (0, 0))) ∧ Aside0 (w'.heap[gb144]? = some (.cells #[.int .i64 a1_0, (.slice A1_1 l1_1.length c1_1), (.slice A1_2 l1_2.length c1_2), (.slice A1_3 l1_3.length c1_3), (.slice A1_4 l1_4.length c1_4)] 26 (0, 0))) ∧ Aside0 (Below w.heap.size w w'))
       case atStart => exact ⟨(0), (by first | rfl | (simp; done) | (simp [*]; done)), H', ⟨Nat.le_refl _⟩, ⟨by (with_reducible repeat (first | refine k0_ ?_ _ | refine k1_ ?_ | refine k2_ ?_ _)); exact BK143.out⟩, ⟨by (with_reducible repeat (first | refine k0_ ?_ _ | refine k1_ ?_ | refine k2_ ?_ _)); exact BK144.out⟩, ⟨by repeat (first | (with_reducible first | exact HB.out | apply b0_ | apply b1_ | apply b2_ | refine below_set ?_ GE143.out | refine below_set ?_ GE144.out) | exact HB.out)⟩⟩
       case round =>
        clear H'
        try clear c1; try clear p1; try clear q1; try clear hx1; try clear c2; try clear p2; try clear c3; try clear c6; try clear c6b0; try clear c6b1; try clear p6; try clear c7; try clear c7b0; try clear c7b1; try clear c7b2; try clear c8; try clear c8b0; try clear c8b1; try clear c8b2; try clear c10; try clear c12; try clear c14; try clear p14; try clear q14; try clear hx14; try clear c15; try clear c18; try clear c21; try clear c24; try clear c27; try clear c28; try clear c28b0; try clear c29; try clear c29b0; try clear c30; try clear c30b0; try clear c31; try clear c31b0; try clear c32; try clear c35; try clear c38; try clear hcz13_0 hcz13_1 hcz13_2 hcz13_3 hcz13_4; try clear hcz14_0 hcz14_1 hcz14_2 hcz14_3 hcz14_4; try clear hcz16_0 hcz16_1 hcz16_2 hcz16_3 hcz16_4; try clear hcz17_0 hcz17_1 hcz17_2 hcz17_3 hcz17_4; try clear hcz19_0 hcz19_1 hcz19_2 hcz19_3 hcz19_4; try clear hcz20_0 hcz20_1 hcz20_2 hcz20_3 hcz20_4; try clear hcz22_0 hcz22_1 hcz22_2 hcz22_3 hcz22_4; try clear hcz23_0 hcz23_1 hcz23_2 hcz23_3 hcz23_4; try clear hcz25_0 hcz25_1 hcz25_2 hcz25_3 hcz25_4; try clear hcz26_0 hcz26_1 hcz26_2 hcz26_3 hcz26_4; try clear hcz33_0 hcz33_1 hcz33_2 hcz33_3 hcz33_4; try clear hcz34_0 hcz34_1 hcz34_2 hcz34_3 hcz34_4; try clear hcz36_0 hcz36_1 hcz36_2 hcz36_3 hcz36_4; try clear hcz37_0 hcz37_1 hcz37_2 hcz37_3 hcz37_4; try clear hcz39_0 hcz39_1 hcz39_2 hcz39_3 hcz39_4; try clear hfz13_0 hfz13_1 hfz13_2 hfz13_3 hfz13_4; try clear hfz14_0 hfz14_1 hfz14_2 hfz14_3 hfz14_4; try clear hfz16_0 hfz16_1 hfz16_2 hfz16_3 hfz16_4; try clear hfz17_0 hfz17_1 hfz17_2 hfz17_3 hfz17_4; try clear hfz19_0 hfz19_1 hfz19_2 hfz19_3 hfz19_4; try clear hfz20_0 hfz20_1 hfz20_2 hfz20_3 hfz20_4; try clear hfz22_0 hfz22_1 hfz22_2 hfz22_3 hfz22_4; try clear hfz23_0 hfz23_1 hfz23_2 hfz23_3 hfz23_4; try clear hfz25_0 hfz25_1 hfz25_2 hfz25_3 hfz25_4; try clear hfz26_0 hfz26_1 hfz26_2 hfz26_3 hfz26_4; try clear hfz33_0 hfz33_1 hfz33_2 hfz33_3 hfz33_4; try clear hfz34_0 hfz34_1 hfz34_2 hfz34_3 hfz34_4; try clear hfz36_0 hfz36_1 hfz36_2 hfz36_3 hfz36_4; try clear hfz37_0 hfz37_1 hfz37_2 hfz37_3 hfz37_4; try clear hfz39_0 hfz39_1 hfz39_2 hfz39_3 hfz39_4; try clear hx147_0; try clear hx147_1; try clear hx148_0; try clear hx148_1; try clear p147; try clear p148; try clear p2; try clear q147; try clear q148
        obtain ⟨x6_3, rfl, HA, HK3, BK143, BK144, HB⟩ := hrel
        cases gk with
        | zero => exact absurd HA.out (by simp [spiritlevelref02_Same.l1])
        | succ k3 =>
         have H := HA.out
         clear HA
         simp only [spiritlevelref02_Same.l1] at H
         by_cases c40 : x6_3 < (l0_2.length : Int)
         ·rw [if_pos c40] at H
          have c40b0 : decide (x6_3 < (l0_2.length : Int)) = true := decide_eq_true c40
          clear c40
          by_cases c41 : 0 ≤ x6_3
          ·rw [if_pos c41] at H
           have c41b0 : decide (0 ≤ x6_3) = true := decide_eq_true c41
           clear c41
           by_cases c42 : x6_3 < (l1_2.length : Int)
           ·rw [if_pos c42] at H
            have c42b0 : decide (x6_3 < (l1_2.length : Int)) = true := decide_eq_true c42
            clear c42
            by_cases c43 : (!(((rd_T55 l0_2 x6_3).f0) == ((rd_T55 l1_2 x6_3).f0)) || (!(((rd_T55 l0_2 x6_3).f1) == ((rd_T55 l1_2 x6_3).f1)))) = true
            ·rw [if_pos c43] at H
             have c43b0 : (!(((rd_T55 l0_2 x6_3).f0) == ((rd_T55 l1_2 x6_3).f0)) || (!(((rd_T55 l0_2 x6_3).f1) == ((rd_T55 l1_2 x6_3).f1)))) = true := c43
             clear c43
             obtain rfl := Option.some.inj H
             have hnb44 := NB143_144.out
             have hnc44 := NB144_143.out
             obtain ⟨hcz45_0, hcz45_1, hcz45_2, hcz45_3, hcz45_4⟩ := cz5_ BK143.out
             obtain ⟨hfz45_0, hfz45_1, hfz45_2, hfz45_3, hfz45_4⟩ := fz5_ BK143.out
             have p149 : 0 ≤ (x6_3 : Int) := of_decide_eq_true (by first | (with_reducible assumption) | assumption)
             have q149 : x6_3 < (l0_2.length : Int) := of_decide_eq_true (by first | (with_reducible assumption) | assumption)
             obtain ⟨ad149, e149, hx149_0, hx149_1⟩ := at_T55 HR0_2.out x6_3 p149 q149
             cases e149
             replace hx149_0 := (HB.out.cell (World.block_lt_of_cell? w _ hx149_0)).trans hx149_0
             replace hx149_1 := (HB.out.cell (World.block_lt_of_cell? w _ hx149_1)).trans hx149_1
             replace p149 := eq_true p149
             replace q149 := eq_true q149
             obtain ⟨hcz46_0, hcz46_1, hcz46_2, hcz46_3, hcz46_4⟩ := cz5_ BK144.out
             obtain ⟨hfz46_0, hfz46_1, hfz46_2, hfz46_3, hfz46_4⟩ := fz5_ BK144.out
             have p150 : 0 ≤ (x6_3 : Int) := of_decide_eq_true (by first | (with_reducible assumption) | assumption)
             have q150 : x6_3 < (l1_2.length : Int) := of_decide_eq_true (by first | (with_reducible assumption) | assumption)
             obtain ⟨ad150, e150, hx150_0, hx150_1⟩ := at_T55 HR1_2.out x6_3 p150 q150
             cases e150
             replace hx150_0 := (HB.out.cell (World.block_lt_of_cell? w _ hx150_0)).trans hx150_0
             replace hx150_1 := (HB.out.cell (World.block_lt_of_cell? w _ hx150_1)).trans hx150_1
             replace p150 := eq_true p150
             replace q150 := eq_true q150
             go_wp2
             repeat (go_quiet (fail); try go_wp2)
             go_ret
             exact ⟨by first | rfl | (simp [errW_none, errW_some] <;> rfl) | (simp [*, errW_none, errW_some] <;> rfl), by repeat (first | (with_reducible first | exact HB.out | apply b0_ | apply b1_ | apply b2_ | refine below_set ?_ GE143.out | refine below_set ?_ GE144.out) | exact HB.out)⟩
            ·rw [if_neg c43] at H
             have c43b0 : (!(((rd_T55 l0_2 x6_3).f0) == ((rd_T55 l1_2 x6_3).f0)) || (!(((rd_T55 l0_2 x6_3).f1) == ((rd_T55 l1_2 x6_3).f1)))) = false := by simpa using c43
             clear c43
             have H' := M_ H
             clear H
             have hnb47 := NB143_144.out
             have hnc47 := NB144_143.out
             obtain ⟨hcz48_0, hcz48_1, hcz48_2, hcz48_3, hcz48_4⟩ := cz5_ BK143.out
             obtain ⟨hfz48_0, hfz48_1, hfz48_2, hfz48_3, hfz48_4⟩ := fz5_ BK143.out
             have p149 : 0 ≤ (x6_3 : Int) := of_decide_eq_true (by first | (with_reducible assumption) | assumption)
             have q149 : x6_3 < (l0_2.length : Int) := of_decide_eq_true (by first | (with_reducible assumption) | assumption)
             obtain ⟨ad149, e149, hx149_0, hx149_1⟩ := at_T55 HR0_2.out x6_3 p149 q149
             cases e149
             replace hx149_0 := (HB.out.cell (World.block_lt_of_cell? w _ hx149_0)).trans hx149_0
             replace hx149_1 := (HB.out.cell (World.block_lt_of_cell? w _ hx149_1)).trans hx149_1
             replace p149 := eq_true p149
             replace q149 := eq_true q149
             obtain ⟨hcz49_0, hcz49_1, hcz49_2, hcz49_3, hcz49_4⟩ := cz5_ BK144.out
             obtain ⟨hfz49_0, hfz49_1, hfz49_2, hfz49_3, hfz49_4⟩ := fz5_ BK144.out
             have p150 : 0 ≤ (x6_3 : Int) := of_decide_eq_true (by first | (with_reducible assumption) | assumption)
             have q150 : x6_3 < (l1_2.length : Int) := of_decide_eq_true (by first | (with_reducible assumption) | assumption)
             obtain ⟨ad150, e150, hx150_0, hx150_1⟩ := at_T55 HR1_2.out x6_3 p150 q150
             cases e150
             replace hx150_0 := (HB.out.cell (World.block_lt_of_cell? w _ hx150_0)).trans hx150_0
             replace hx150_1 := (HB.out.cell (World.block_lt_of_cell? w _ hx150_1)).trans hx150_1
             replace p150 := eq_true p150
             replace q150 := eq_true q150
             go_wp2
             repeat (go_quiet (fail); try go_wp2)
             go_roundg k3
             case measure => have := HJ2.out; have := HK2.out; have := HK3.out; omega
             case rel => exact ⟨(wrap64 (x6_3 + 1)), (by first | rfl | (simp; done) | (simp [*]; done)), H', ⟨by have := HJ2.out; have := HK2.out; have := HK3.out; omega⟩, ⟨by (with_reducible repeat (first | refine k0_ ?_ _ | refine k1_ ?_ | refine k2_ ?_ _)); exact BK143.out⟩, ⟨by (with_reducible repeat (first | refine k0_ ?_ _ | refine k1_ ?_ | refine k2_ ?_ _)); exact BK144.out⟩, ⟨by repeat (first | (with_reducible first | exact HB.out | apply b0_ | apply b1_ | apply b2_ | refine below_set ?_ GE143.out | refine below_set ?_ GE144.out) | exact HB.out)⟩⟩
           ·rw [if_neg c42] at H
            exact absurd H (by simp)
          ·rw [if_neg c41] at H
           exact absurd H (by simp)
         ·rw [if_neg c40] at H
          have c40b0 : decide (x6_3 < (l0_2.length : Int)) = false := decide_eq_false c40
          clear c40
          obtain rfl := Option.some.inj H
          have hnb50 := NB143_144.out
          have hnc50 := NB144_143.out
          obtain ⟨hcz51_0, hcz51_1, hcz51_2, hcz51_3, hcz51_4⟩ := cz5_ BK143.out
          obtain ⟨hfz51_0, hfz51_1, hfz51_2, hfz51_3, hfz51_4⟩ := fz5_ BK143.out
          go_wp2
          repeat (go_quiet (fail); try go_wp2)
          go_ret
          exact ⟨by first | rfl | (simp [errW_none, errW_some] <;> rfl) | (simp [*, errW_none, errW_some] <;> rfl), by repeat (first | (with_reducible first | exact HB.out | apply b0_ | apply b1_ | apply b2_ | refine below_set ?_ GE143.out | refine below_set ?_ GE144.out) | exact HB.out)⟩

end Go.Proofs.Ytlgoniocoifjjaa.QConstantsPasses
