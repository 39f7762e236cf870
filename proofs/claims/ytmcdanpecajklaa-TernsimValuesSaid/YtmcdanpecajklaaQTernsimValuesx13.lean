-- Made by wip/myprint.sh (a patched print): a text of this session's own.
import Derived.Test.YtmcdanpecajklaaLay
import Derived.Test.YtmcdanpecajklaaQTernsimValuesx0
import Derived.Test.YtmcdanpecajklaaQTernsimValuesx12
namespace Go.Proofs.Ytmcdanpecajklaa.QTernsimValues
open Go.RowKit Go.Proofs.YtmcdanpecajklaaW.PrintWords Go.Proofs.YtmcdanpecajklaaW.PrintLast Go.Proofs.YtmcdanpecajklaaW.PrintMore
attribute [local go_sem] max2_int min2_int max_two min_two max_three min_three max_four min_four
set_option linter.unusedVariables false
set_option linter.unusedSimpArgs false

mutual
def spiritlevelref02_Check.j0 : Nat → Bool → Int → List (S36) → List (S69) → List Int → List Int → Option (Int)
 | 0, _, _, _, _, _, _ => none
 | k + 1, x29, x303000, x303001, x303002, x303003, x303004 => if x29 = true then (some 4) else ((spiritlevelref02_Size.f x303000 x303001 x303002 x303003 x303004).bind fun t304 => ((spiritlevelref02_literals.f k x303003 t304).bind fun t305 => (if t305 = true then ((spiritlevelref02_literals.f k x303004 t304).bind fun t306 => (spiritlevelref02_Check.j1 k t304 (!t306) x303000 x303001 x303002 x303003 x303004)) else (spiritlevelref02_Check.j1 k t304 true x303000 x303001 x303002 x303003 x303004))))
def spiritlevelref02_Check.j1 : Nat → Int → Bool → Int → List (S36) → List (S69) → List Int → List Int → Option (Int)
 | 0, _, _, _, _, _, _, _ => none
 | k + 1, x3, x43, x303000, x303001, x303002, x303003, x303004 => if x43 = true then (some 8) else (spiritlevelref02_Check.l0 k x3 0 x303000 x303001 x303002 x303003 x303004)
def spiritlevelref02_Check.l0 : Nat → Int → Int → Int → List (S36) → List (S69) → List Int → List Int → Option (Int)
 | 0, _, _, _, _, _, _, _ => none
 | k + 1, x3, x4, x303000, x303001, x303002, x303003, x303004 => if x4 < (x303001.length : Int) then (if 0 ≤ x4 then ((spiritlevelref02_literals.f k (([(rd_T36 x303001 x4).f0] : List Int)) x3).bind fun t311 => (if t311 = true then (if ((rd_T36 x303001 x4).f1) < 0 then (some 8) else (if ((rd_T36 x303001 x4).f1) > 2 then (some 8) else (spiritlevelref02_Check.l0 k x3 (wrap64 (x4 + 1)) x303000 x303001 x303002 x303003 x303004))) else (some 8))) else (none)) else (spiritlevelref02_Check.l1 k 0 x303000 x303001 x303002 x303003 x303004)
def spiritlevelref02_Check.l1 : Nat → Int → Int → List (S36) → List (S69) → List Int → List Int → Option (Int)
 | 0, _, _, _, _, _, _ => none
 | k + 1, x5, x303000, x303001, x303002, x303003, x303004 => if x5 < (x303002.length : Int) then (if 0 ≤ x5 then (if ((rd_T69 x303002 x5).f1) < 0 then (some 8) else (if ((rd_T69 x303002 x5).f0) < ((rd_T69 x303002 x5).f1) then (some 8) else (if (wrap64 (Int.tdiv ((rd_T69 x303002 x5).f0) 2)) > (wrap64 ((wrap64 (x303000 + (x303001.length : Int))) + x5)) then (some 8) else (spiritlevelref02_Check.l1 k (wrap64 (x5 + 1)) x303000 x303001 x303002 x303003 x303004)))) else (none)) else (some 0)
end
def spiritlevelref02_Check.f (k : Nat) (a0_0 : Int) (l0_1 : List (S36)) (l0_2 : List (S69)) (l0_3 : List Int) (l0_4 : List Int) : Option (Int) := if a0_0 < 0 then (some 8) else (if a0_0 > 1000 then (spiritlevelref02_Check.j0 k true a0_0 l0_1 l0_2 l0_3 l0_4) else ((spiritlevelref02_Size.f a0_0 l0_1 l0_2 l0_3 l0_4).bind fun t303 => (if t303 > 1000 then (spiritlevelref02_Check.j0 k true a0_0 l0_1 l0_2 l0_3 l0_4) else (if (l0_3.length : Int) > 100 then (spiritlevelref02_Check.j0 k true a0_0 l0_1 l0_2 l0_3 l0_4) else (spiritlevelref02_Check.j0 k (decide ((l0_4.length : Int) > 100)) a0_0 l0_1 l0_2 l0_3 l0_4)))))
set_option maxHeartbeats 8000000 in
set_option maxRecDepth 100000 in
theorem spiritlevelref02_Check.calls (k : Nat) (a0_0 : Int) (A0_1 : Option Addr) (c0_1 : Nat) (l0_1 : List (S36)) (A0_2 : Option Addr) (c0_2 : Nat) (l0_2 : List (S69)) (A0_3 : Option Addr) (c0_3 : Nat) (l0_3 : List Int) (A0_4 : Option Addr) (c0_4 : Nat) (l0_4 : List Int) (r : Int) (w : World) (hr0_1 : Kd.C k36 w A0_1 l0_1.length l0_1) (hc0_1 : l0_1.length ≤ c0_1) (hr0_2 : Kd.C k69 w A0_2 l0_2.length l0_2) (hc0_2 : l0_2.length ≤ c0_2) (hr0_3 : Kd.C (Kd.int .i64) w A0_3 l0_3.length l0_3) (hc0_3 : l0_3.length ≤ c0_3) (hr0_4 : Kd.C (Kd.int .i64) w A0_4 l0_4.length l0_4) (hc0_4 : l0_4.length ≤ c0_4) (h : spiritlevelref02_Check.f k a0_0 l0_1 l0_2 l0_3 l0_4 = some r) :
  Calls Try.prog 40 #[.agg #[.int .i64 a0_0, .slice A0_1 l0_1.length c0_1, .slice A0_2 l0_2.length c0_2, .slice A0_3 l0_3.length c0_3, .slice A0_4 l0_4.length c0_4]] w fun e w' => e = .returned (.int .i64 r) ∧ Below w.heap.size w w' := by
 have hu26 := Try.underlying26
 have hu69 := Try.underlying69
 have HR0_1 := M_ hr0_1
 have HC0_1 := M_ hc0_1
 clear hr0_1 hc0_1
 have HR0_2 := M_ hr0_2
 have HC0_2 := M_ hc0_2
 clear hr0_2 hc0_2
 have HR0_3 := M_ hr0_3
 have HC0_3 := M_ hc0_3
 clear hr0_3 hc0_3
 have HR0_4 := M_ hr0_4
 have HC0_4 := M_ hc0_4
 clear hr0_4 hc0_4
 have HB := M_ (Below.refl w.heap.size w)
 have H : (if a0_0 < 0 then (some 8) else (if a0_0 > 1000 then (spiritlevelref02_Check.j0 k true a0_0 l0_1 l0_2 l0_3 l0_4) else ((spiritlevelref02_Size.f a0_0 l0_1 l0_2 l0_3 l0_4).bind fun t303 => (if t303 > 1000 then (spiritlevelref02_Check.j0 k true a0_0 l0_1 l0_2 l0_3 l0_4) else (if (l0_3.length : Int) > 100 then (spiritlevelref02_Check.j0 k true a0_0 l0_1 l0_2 l0_3 l0_4) else (spiritlevelref02_Check.j0 k (decide ((l0_4.length : Int) > 100)) a0_0 l0_1 l0_2 l0_3 l0_4)))))) = some r := h
 clear h
 by_cases c2 : a0_0 < 0
 ·rw [if_pos c2] at H
  have c2b0 : decide (a0_0 < 0) = true := decide_eq_true c2
  clear c2
  obtain rfl := Option.some.inj H
  go_enter Try.func40, Try.ntmps40
  go_wp2_with (first | ((with_reducible refine gate_dst (N := 1) rfl ?_); (try (refine gate_guard (by rfl) ?_; dsimp only)); refine box_event ?hg (N := 1) ?hd (cs := #[.int .i64 a0_0, .slice A0_1 l0_1.length c0_1, .slice A0_2 l0_2.length c0_2, .slice A0_3 l0_3.length c0_3, .slice A0_4 l0_4.length c0_4]) (t := 26) ?hr ?_; (case hd => rfl); (case hg => rfl); (case hr => first | (go_simp; done) | (go_simp; rfl)); intro gb302 hg w3 hbox hb; have n1_ := M_ (hbox); have n2_ := M_ ((by rw [hg]; exact (below_size (wl_ HB.out)) : w.heap.size ≤ gb302)); have n3_ := M_ ((by rw [hg]; exact (below_size (wl_ HB.out)) : w.heap.size ≤ gb302)); replace HB := wb_ HB hb; have BK302 := n1_; have GW302 := n2_; have GE302 := n3_; have gi302 : Ge _ _ := ⟨GE302.out⟩; clear n1_ n2_ n3_; clear hb hbox hg; obtain ⟨hcz4_0, hcz4_1, hcz4_2, hcz4_3, hcz4_4⟩ := cz5_ BK302.out; have hfz4_0 := blk_frozen BK302.out 0; have hfz4_1 := blk_frozen BK302.out 1; have hfz4_2 := blk_frozen BK302.out 2; have hfz4_3 := blk_frozen BK302.out 3; have hfz4_4 := blk_frozen BK302.out 4))
  go_ret
  exact ⟨by first | rfl | (simp [errW_none, errW_some] <;> rfl) | (simp [*, errW_none, errW_some] <;> rfl), by repeat (first | (with_reducible first | exact HB.out | apply b0_ | apply b1_ | apply b2_ | refine below_set ?_ GE302.out) | exact HB.out)⟩
 ·rw [if_neg c2] at H
  have c2b0 : decide (a0_0 < 0) = false := decide_eq_false c2
  clear c2
  have HC5 := M_ H
  clear H
  go_enter Try.func40, Try.ntmps40
  go_upto_region 3 with (first | ((with_reducible refine gate_dst (N := 1) rfl ?_); (try (refine gate_guard (by rfl) ?_; dsimp only)); refine box_event ?hg (N := 1) ?hd (cs := #[.int .i64 a0_0, .slice A0_1 l0_1.length c0_1, .slice A0_2 l0_2.length c0_2, .slice A0_3 l0_3.length c0_3, .slice A0_4 l0_4.length c0_4]) (t := 26) ?hr ?_; (case hd => rfl); (case hg => rfl); (case hr => first | (go_simp; done) | (go_simp; rfl)); intro gb302 hg w6 hbox hb; have n1_ := M_ (hbox); have n2_ := M_ ((by rw [hg]; exact (below_size (wl_ HB.out)) : w.heap.size ≤ gb302)); have n3_ := M_ ((by rw [hg]; exact (below_size (wl_ HB.out)) : w.heap.size ≤ gb302)); replace HB := wb_ HB hb; have BK302 := n1_; have GW302 := n2_; have GE302 := n3_; have gi302 : Ge _ _ := ⟨GE302.out⟩; clear n1_ n2_ n3_; clear hb hbox hg; obtain ⟨hcz7_0, hcz7_1, hcz7_2, hcz7_3, hcz7_4⟩ := cz5_ BK302.out; have hfz7_0 := blk_frozen BK302.out 0; have hfz7_1 := blk_frozen BK302.out 1; have hfz7_2 := blk_frozen BK302.out 2; have hfz7_3 := blk_frozen BK302.out 3; have hfz7_4 := blk_frozen BK302.out 4))
  (try simp only [Act.put, e1_, e2_, e3_])
  go_cut [29] (fun v29 wc => ∃ (kq : Nat) (x29_4 : Bool), v29 = .bool x29_4 ∧ Aside0 (spiritlevelref02_Check.j0 kq x29_4 a0_0 l0_1 l0_2 l0_3 l0_4 = some r) ∧ Aside0 (kq ≤ k) ∧ Aside0 (wc.heap[gb302]? = some (.cells #[.int .i64 a0_0, (.slice A0_1 l0_1.length c0_1), (.slice A0_2 l0_2.length c0_2), (.slice A0_3 l0_3.length c0_3), (.slice A0_4 l0_4.length c0_4)] 26 (0, 0))) ∧ Aside0 (Below w.heap.size w wc))
  case first =>
   have H := HC5.out
   clear HC5
   by_cases c8 : a0_0 > 1000
   ·rw [if_pos c8] at H
    have c8b0 : decide (1000 < a0_0) = true := decide_eq_true c8
    clear c8
    (first | rw [c8b0] | (simp only [i64_w, i32_w]; rw [c8b0]) | skip)
    have H' := M_ H
    clear H
    obtain ⟨hcz9_0, hcz9_1, hcz9_2, hcz9_3, hcz9_4⟩ := cz5_ BK302.out
    obtain ⟨hfz9_0, hfz9_1, hfz9_2, hfz9_3, hfz9_4⟩ := fz5_ BK302.out
    go_wp2
    go_meet
    case rel => exact ⟨_, (true), (by first | rfl | (simp; done) | (simp [*]; done)), H', ⟨by first | omega | exact Nat.le_refl _⟩, ⟨by (with_reducible repeat (first | refine k0_ ?_ _ | refine k1_ ?_ | refine k2_ ?_ _)); exact BK302.out⟩, ⟨by repeat (first | (with_reducible first | exact HB.out | apply b0_ | apply b1_ | apply b2_ | refine below_set ?_ GE302.out) | exact HB.out)⟩⟩
   ·rw [if_neg c8] at H
    have c8b0 : decide (1000 < a0_0) = false := decide_eq_false c8
    clear c8
    (first | rw [c8b0] | (simp only [i64_w, i32_w]; rw [c8b0]) | skip)
    replace H := Option.bind_eq_some_iff.mp H
    obtain ⟨t303, A100, H⟩ := H
    replace H : (if t303 > 1000 then (spiritlevelref02_Check.j0 k true a0_0 l0_1 l0_2 l0_3 l0_4) else (if (l0_3.length : Int) > 100 then (spiritlevelref02_Check.j0 k true a0_0 l0_1 l0_2 l0_3 l0_4) else (spiritlevelref02_Check.j0 k (decide ((l0_4.length : Int) > 100)) a0_0 l0_1 l0_2 l0_3 l0_4))) = some r := H
    have A10 := M_ A100
    clear A100
    by_cases c11 : t303 > 1000
    ·rw [if_pos c11] at H
     have c11b0 : decide (1000 < t303) = true := decide_eq_true c11
     clear c11
     have H' := M_ H
     clear H
     obtain ⟨hcz12_0, hcz12_1, hcz12_2, hcz12_3, hcz12_4⟩ := cz5_ BK302.out
     obtain ⟨hfz12_0, hfz12_1, hfz12_2, hfz12_3, hfz12_4⟩ := fz5_ BK302.out
     go_wp2_with (first | (go_at_call 76; (with_reducible refine (spiritlevelref02_Size.calls a0_0 _ _ l0_1 _ _ l0_2 _ _ l0_3 _ _ l0_4 t303 _ ?side1 ?side2 ?side3 ?side4 ?side5 ?side6 ?side7 ?side8 A10.out).mono ?_); (case side1 => exact cl_ (Kd.C_below HR0_1.out HB.out)); (case side2 => exact HC0_1.out); (case side3 => exact cl_ (Kd.C_below HR0_2.out HB.out)); (case side4 => exact HC0_2.out); (case side5 => exact cl_ (Kd.C_below HR0_3.out HB.out)); (case side6 => exact HC0_3.out); (case side7 => exact cl_ (Kd.C_below HR0_4.out HB.out)); (case side8 => exact HC0_4.out); rintro e w13 ⟨rfl, hb⟩; have n0_ := bb_ BK302 hb; have n1_ := wb_ HB hb; clear BK302; clear HB; have BK302 := n0_; have HB := n1_; clear n0_ n1_; (try clear hb); (try clear hb2); (try clear hk); (try clear hi)))
     go_meet
     case rel => exact ⟨_, (true), (by first | rfl | (simp; done) | (simp [*]; done)), H', ⟨by first | omega | exact Nat.le_refl _⟩, ⟨by (with_reducible repeat (first | refine k0_ ?_ _ | refine k1_ ?_ | refine k2_ ?_ _)); exact BK302.out⟩, ⟨by repeat (first | (with_reducible first | exact HB.out | apply b0_ | apply b1_ | apply b2_ | refine below_set ?_ GE302.out) | exact HB.out)⟩⟩
    ·rw [if_neg c11] at H
     have c11b0 : decide (1000 < t303) = false := decide_eq_false c11
     clear c11
     by_cases c14 : (l0_3.length : Int) > 100
     ·rw [if_pos c14] at H
      have c14b0 : decide (100 < (l0_3.length : Int)) = true := decide_eq_true c14
      have c14b1 : decide (100 < l0_3.length) = true := decide_eq_true (by omega)
      clear c14
      have H' := M_ H
      clear H
      obtain ⟨hcz15_0, hcz15_1, hcz15_2, hcz15_3, hcz15_4⟩ := cz5_ BK302.out
      obtain ⟨hfz15_0, hfz15_1, hfz15_2, hfz15_3, hfz15_4⟩ := fz5_ BK302.out
      go_wp2_with (first | (go_at_call 76; (with_reducible refine (spiritlevelref02_Size.calls a0_0 _ _ l0_1 _ _ l0_2 _ _ l0_3 _ _ l0_4 t303 _ ?side1 ?side2 ?side3 ?side4 ?side5 ?side6 ?side7 ?side8 A10.out).mono ?_); (case side1 => exact cl_ (Kd.C_below HR0_1.out HB.out)); (case side2 => exact HC0_1.out); (case side3 => exact cl_ (Kd.C_below HR0_2.out HB.out)); (case side4 => exact HC0_2.out); (case side5 => exact cl_ (Kd.C_below HR0_3.out HB.out)); (case side6 => exact HC0_3.out); (case side7 => exact cl_ (Kd.C_below HR0_4.out HB.out)); (case side8 => exact HC0_4.out); rintro e w16 ⟨rfl, hb⟩; have n0_ := bb_ BK302 hb; have n1_ := wb_ HB hb; clear BK302; clear HB; have BK302 := n0_; have HB := n1_; clear n0_ n1_; (try clear hb); (try clear hb2); (try clear hk); (try clear hi); obtain ⟨hcz17_0, hcz17_1, hcz17_2, hcz17_3, hcz17_4⟩ := cz5_ BK302.out; have hfz17_0 := blk_frozen BK302.out 0; have hfz17_1 := blk_frozen BK302.out 1; have hfz17_2 := blk_frozen BK302.out 2; have hfz17_3 := blk_frozen BK302.out 3; have hfz17_4 := blk_frozen BK302.out 4))
      go_meet
      case rel => exact ⟨_, (true), (by first | rfl | (simp; done) | (simp [*]; done)), H', ⟨by first | omega | exact Nat.le_refl _⟩, ⟨by (with_reducible repeat (first | refine k0_ ?_ _ | refine k1_ ?_ | refine k2_ ?_ _)); exact BK302.out⟩, ⟨by repeat (first | (with_reducible first | exact HB.out | apply b0_ | apply b1_ | apply b2_ | refine below_set ?_ GE302.out) | exact HB.out)⟩⟩
     ·rw [if_neg c14] at H
      have c14b0 : decide (100 < (l0_3.length : Int)) = false := decide_eq_false c14
      have c14b1 : decide (100 < l0_3.length) = false := decide_eq_false (by omega)
      clear c14
      have H' := M_ H
      clear H
      obtain ⟨hcz18_0, hcz18_1, hcz18_2, hcz18_3, hcz18_4⟩ := cz5_ BK302.out
      obtain ⟨hfz18_0, hfz18_1, hfz18_2, hfz18_3, hfz18_4⟩ := fz5_ BK302.out
      go_wp2_with (first | (go_at_call 76; (with_reducible refine (spiritlevelref02_Size.calls a0_0 _ _ l0_1 _ _ l0_2 _ _ l0_3 _ _ l0_4 t303 _ ?side1 ?side2 ?side3 ?side4 ?side5 ?side6 ?side7 ?side8 A10.out).mono ?_); (case side1 => exact cl_ (Kd.C_below HR0_1.out HB.out)); (case side2 => exact HC0_1.out); (case side3 => exact cl_ (Kd.C_below HR0_2.out HB.out)); (case side4 => exact HC0_2.out); (case side5 => exact cl_ (Kd.C_below HR0_3.out HB.out)); (case side6 => exact HC0_3.out); (case side7 => exact cl_ (Kd.C_below HR0_4.out HB.out)); (case side8 => exact HC0_4.out); rintro e w19 ⟨rfl, hb⟩; have n0_ := bb_ BK302 hb; have n1_ := wb_ HB hb; clear BK302; clear HB; have BK302 := n0_; have HB := n1_; clear n0_ n1_; (try clear hb); (try clear hb2); (try clear hk); (try clear hi); obtain ⟨hcz20_0, hcz20_1, hcz20_2, hcz20_3, hcz20_4⟩ := cz5_ BK302.out; have hfz20_0 := blk_frozen BK302.out 0; have hfz20_1 := blk_frozen BK302.out 1; have hfz20_2 := blk_frozen BK302.out 2; have hfz20_3 := blk_frozen BK302.out 3; have hfz20_4 := blk_frozen BK302.out 4))
      go_meet
      case rel => exact ⟨_, (decide ((l0_4.length : Int) > 100)), (by first | rfl | (simp; done) | (simp [*]; done)), H', ⟨by first | omega | exact Nat.le_refl _⟩, ⟨by (with_reducible repeat (first | refine k0_ ?_ _ | refine k1_ ?_ | refine k2_ ?_ _)); exact BK302.out⟩, ⟨by repeat (first | (with_reducible first | exact HB.out | apply b0_ | apply b1_ | apply b2_ | refine below_set ?_ GE302.out) | exact HB.out)⟩⟩
  case rest =>
   clear HC5
   try clear c1; try clear c2; try clear c2b0; try clear p2; try clear c4; try clear c8; try clear c8b0; try clear c11; try clear c11b0; try clear c14; try clear c14b0; try clear c14b1; try clear hcz12_0 hcz12_1 hcz12_2 hcz12_3 hcz12_4; try clear hcz15_0 hcz15_1 hcz15_2 hcz15_3 hcz15_4; try clear hcz17_0 hcz17_1 hcz17_2 hcz17_3 hcz17_4; try clear hcz18_0 hcz18_1 hcz18_2 hcz18_3 hcz18_4; try clear hcz20_0 hcz20_1 hcz20_2 hcz20_3 hcz20_4; try clear hcz4_0 hcz4_1 hcz4_2 hcz4_3 hcz4_4; try clear hcz7_0 hcz7_1 hcz7_2 hcz7_3 hcz7_4; try clear hcz9_0 hcz9_1 hcz9_2 hcz9_3 hcz9_4; try clear hfz12_0 hfz12_1 hfz12_2 hfz12_3 hfz12_4; try clear hfz15_0 hfz15_1 hfz15_2 hfz15_3 hfz15_4; try clear hfz17_0 hfz17_1 hfz17_2 hfz17_3 hfz17_4; try clear hfz18_0 hfz18_1 hfz18_2 hfz18_3 hfz18_4; try clear hfz20_0 hfz20_1 hfz20_2 hfz20_3 hfz20_4; try clear hfz4_0 hfz4_1 hfz4_2 hfz4_3 hfz4_4; try clear hfz7_0 hfz7_1 hfz7_2 hfz7_3 hfz7_4; try clear hfz9_0 hfz9_1 hfz9_2 hfz9_3 hfz9_4
   obtain ⟨kq, x29_4, rfl, HA, HJ4, BK302, HB⟩ := hcut
   cases kq with
   | zero => exact absurd HA.out (by simp [spiritlevelref02_Check.j0])
   | succ kj4 =>
    have H := HA.out
    clear HA
    simp only [spiritlevelref02_Check.j0] at H
    by_cases c21 : x29_4 = true
    ·subst c21
     have H1 : (some 4) = some r := by rw [if_pos rfl] at H; exact H
     clear H
     have H := H1
     clear H1
     obtain rfl := Option.some.inj H
     go_wp2
     go_ret
     exact ⟨by first | rfl | (simp [errW_none, errW_some] <;> rfl) | (simp [*, errW_none, errW_some] <;> rfl), by repeat (first | (with_reducible first | exact HB.out | apply b0_ | apply b1_ | apply b2_ | refine below_set ?_ GE302.out) | exact HB.out)⟩
    ·replace c21 := Bool.eq_false_iff.mpr c21
     subst c21
     have H1 : ((spiritlevelref02_Size.f a0_0 l0_1 l0_2 l0_3 l0_4).bind fun t304 => ((spiritlevelref02_literals.f kj4 l0_3 t304).bind fun t305 => (if t305 = true then ((spiritlevelref02_literals.f kj4 l0_4 t304).bind fun t306 => (spiritlevelref02_Check.j1 kj4 t304 (!t306) a0_0 l0_1 l0_2 l0_3 l0_4)) else (spiritlevelref02_Check.j1 kj4 t304 true a0_0 l0_1 l0_2 l0_3 l0_4)))) = some r := by rw [if_neg (show ¬ (false = true) by decide)] at H; exact H
     clear H
     have H := H1
     clear H1
     replace H := Option.bind_eq_some_iff.mp H
     obtain ⟨t304, A220, H⟩ := H
     replace H : ((spiritlevelref02_literals.f kj4 l0_3 t304).bind fun t305 => (if t305 = true then ((spiritlevelref02_literals.f kj4 l0_4 t304).bind fun t306 => (spiritlevelref02_Check.j1 kj4 t304 (!t306) a0_0 l0_1 l0_2 l0_3 l0_4)) else (spiritlevelref02_Check.j1 kj4 t304 true a0_0 l0_1 l0_2 l0_3 l0_4))) = some r := H
     have A22 := M_ A220
     clear A220
     have HC23 := M_ H
     clear H
     obtain ⟨hcz24_0, hcz24_1, hcz24_2, hcz24_3, hcz24_4⟩ := cz5_ BK302.out
     obtain ⟨hfz24_0, hfz24_1, hfz24_2, hfz24_3, hfz24_4⟩ := fz5_ BK302.out
     go_upto_region 6 with (first | ((with_reducible refine gate_callee (f := 76) rfl ?_); refine goesL_ (some 31) rfl rfl Try.func76 (by kernel_rfl) rfl #[.agg #[.int .i64 a0_0, .slice A0_1 l0_1.length c0_1, .slice A0_2 l0_2.length c0_2, .slice A0_3 l0_3.length c0_3, .slice A0_4 l0_4.length c0_4]] rfl (by (try simp only [List.map_toArray, List.map_cons, List.map_nil]); first | done | rfl) ?_; (with_reducible refine (spiritlevelref02_Size.calls a0_0 _ _ l0_1 _ _ l0_2 _ _ l0_3 _ _ l0_4 t304 _ ?side1 ?side2 ?side3 ?side4 ?side5 ?side6 ?side7 ?side8 A22.out).mono ?_); (case side1 => exact cl_ (Kd.C_below HR0_1.out HB.out)); (case side2 => exact HC0_1.out); (case side3 => exact cl_ (Kd.C_below HR0_2.out HB.out)); (case side4 => exact HC0_2.out); (case side5 => exact cl_ (Kd.C_below HR0_3.out HB.out)); (case side6 => exact HC0_3.out); (case side7 => exact cl_ (Kd.C_below HR0_4.out HB.out)); (case side8 => exact HC0_4.out); rintro e w25 ⟨rfl, hb⟩; refine ⟨_, rfl, ?_⟩; replace BK302 := bb_ BK302 hb; replace HB := wb_ HB hb; (try clear hb); (try clear hb2); (try clear hk); (try clear hi)))
     (try simp only [Act.put, e1_, e2_, e3_])
     go_cut [43] (fun v43 wc => ∃ (kq : Nat) (x43_22 : Bool), v43 = .bool x43_22 ∧ Aside0 (spiritlevelref02_Check.j1 kq t304 x43_22 a0_0 l0_1 l0_2 l0_3 l0_4 = some r) ∧ Aside0 (kq ≤ kj4) ∧ Aside0 (wc.heap[gb302]? = some (.cells #[.int .i64 a0_0, (.slice A0_1 l0_1.length c0_1), (.slice A0_2 l0_2.length c0_2), (.slice A0_3 l0_3.length c0_3), (.slice A0_4 l0_4.length c0_4)] 26 (0, 0))) ∧ Aside0 (Below w.heap.size w wc))
     case first =>
      have H := HC23.out
      clear HC23
      replace H := Option.bind_eq_some_iff.mp H
      obtain ⟨t305, A260, H⟩ := H
      replace H : (if t305 = true then ((spiritlevelref02_literals.f kj4 l0_4 t304).bind fun t306 => (spiritlevelref02_Check.j1 kj4 t304 (!t306) a0_0 l0_1 l0_2 l0_3 l0_4)) else (spiritlevelref02_Check.j1 kj4 t304 true a0_0 l0_1 l0_2 l0_3 l0_4)) = some r := H
      have A26 := M_ A260
      clear A260
      by_cases c27 : t305 = true
      ·subst c27
       have H1 : ((spiritlevelref02_literals.f kj4 l0_4 t304).bind fun t306 => (spiritlevelref02_Check.j1 kj4 t304 (!t306) a0_0 l0_1 l0_2 l0_3 l0_4)) = some r := by rw [if_pos rfl] at H; exact H
       clear H
       have H := H1
       clear H1
       replace H := Option.bind_eq_some_iff.mp H
       obtain ⟨t306, A280, H⟩ := H
       replace H : (spiritlevelref02_Check.j1 kj4 t304 (!t306) a0_0 l0_1 l0_2 l0_3 l0_4) = some r := H
       have A28 := M_ A280
       clear A280
       have H' := M_ H
       clear H
       obtain ⟨hcz29_0, hcz29_1, hcz29_2, hcz29_3, hcz29_4⟩ := cz5_ BK302.out
       obtain ⟨hfz29_0, hfz29_1, hfz29_2, hfz29_3, hfz29_4⟩ := fz5_ BK302.out
       go_wp2_with (first | ((with_reducible refine gate_callee (f := 77) rfl ?_); refine goesL_ (some 35) rfl rfl Try.func77 (by kernel_rfl) rfl #[.slice A0_3 l0_3.length c0_3, .int .i64 t304] rfl (by (try simp only [List.map_toArray, List.map_cons, List.map_nil]); first | done | rfl) ?_; (with_reducible refine (spiritlevelref02_literals.calls kj4 _ _ l0_3 t304 true _ ?side1 ?side2 A26.out).mono ?_); (case side1 => exact cl_ (Kd.C_below HR0_3.out HB.out)); (case side2 => exact HC0_3.out); rintro e w' ⟨rfl, ⟨nd, rfl⟩⟩; refine ⟨_, rfl, ?_⟩) | (go_at_call 77; (with_reducible refine (spiritlevelref02_literals.calls kj4 _ _ l0_4 t304 t306 _ ?side1 ?side2 A28.out).mono ?_); (case side1 => repeat (first | exact (Kd.C_below HR0_4.out (ws_ HB.out)) | (with_reducible refine c0_ ?_ _) | (with_reducible refine c1_ ?_ _) | (with_reducible refine c2_ ?_))); (case side2 => exact HC0_4.out); rintro e w' ⟨rfl, ⟨nd, rfl⟩⟩))
       go_meet
       case rel => exact ⟨_, (!t306), (by first | rfl | (simp; done) | (simp [*]; done)), H', ⟨by have := HJ4.out; first | omega | exact Nat.le_refl _⟩, ⟨by (with_reducible repeat (first | refine k0_ ?_ _ | refine k1_ ?_ | refine k2_ ?_ _)); exact BK302.out⟩, ⟨by repeat (first | (with_reducible first | exact HB.out | apply b0_ | apply b1_ | apply b2_ | refine below_set ?_ GE302.out) | exact HB.out)⟩⟩
      ·replace c27 := Bool.eq_false_iff.mpr c27
       subst c27
       have H1 : (spiritlevelref02_Check.j1 kj4 t304 true a0_0 l0_1 l0_2 l0_3 l0_4) = some r := by rw [if_neg (show ¬ (false = true) by decide)] at H; exact H
       clear H
       have H := H1
       clear H1
       have H' := M_ H
       clear H
       obtain ⟨hcz30_0, hcz30_1, hcz30_2, hcz30_3, hcz30_4⟩ := cz5_ BK302.out
       obtain ⟨hfz30_0, hfz30_1, hfz30_2, hfz30_3, hfz30_4⟩ := fz5_ BK302.out
       go_wp2_with (first | ((with_reducible refine gate_callee (f := 77) rfl ?_); refine goesL_ (some 35) rfl rfl Try.func77 (by kernel_rfl) rfl #[.slice A0_3 l0_3.length c0_3, .int .i64 t304] rfl (by (try simp only [List.map_toArray, List.map_cons, List.map_nil]); first | done | rfl) ?_; (with_reducible refine (spiritlevelref02_literals.calls kj4 _ _ l0_3 t304 false _ ?side1 ?side2 A26.out).mono ?_); (case side1 => exact cl_ (Kd.C_below HR0_3.out HB.out)); (case side2 => exact HC0_3.out); rintro e w' ⟨rfl, ⟨nd, rfl⟩⟩; refine ⟨_, rfl, ?_⟩))
       go_meet
       case rel => exact ⟨_, (true), (by first | rfl | (simp; done) | (simp [*]; done)), H', ⟨by have := HJ4.out; first | omega | exact Nat.le_refl _⟩, ⟨by (with_reducible repeat (first | refine k0_ ?_ _ | refine k1_ ?_ | refine k2_ ?_ _)); exact BK302.out⟩, ⟨by repeat (first | (with_reducible first | exact HB.out | apply b0_ | apply b1_ | apply b2_ | refine below_set ?_ GE302.out) | exact HB.out)⟩⟩
     case rest =>
      clear HC23
      try clear c1; try clear c2; try clear c2b0; try clear p2; try clear c4; try clear c7; try clear c8; try clear c8b0; try clear c11; try clear c11b0; try clear c14; try clear c14b0; try clear c14b1; try clear c21; try clear c27; try clear hcz12_0 hcz12_1 hcz12_2 hcz12_3 hcz12_4; try clear hcz15_0 hcz15_1 hcz15_2 hcz15_3 hcz15_4; try clear hcz17_0 hcz17_1 hcz17_2 hcz17_3 hcz17_4; try clear hcz18_0 hcz18_1 hcz18_2 hcz18_3 hcz18_4; try clear hcz20_0 hcz20_1 hcz20_2 hcz20_3 hcz20_4; try clear hcz24_0 hcz24_1 hcz24_2 hcz24_3 hcz24_4; try clear hcz29_0 hcz29_1 hcz29_2 hcz29_3 hcz29_4; try clear hcz30_0 hcz30_1 hcz30_2 hcz30_3 hcz30_4; try clear hcz4_0 hcz4_1 hcz4_2 hcz4_3 hcz4_4; try clear hcz7_0 hcz7_1 hcz7_2 hcz7_3 hcz7_4; try clear hcz9_0 hcz9_1 hcz9_2 hcz9_3 hcz9_4; try clear hfz12_0 hfz12_1 hfz12_2 hfz12_3 hfz12_4; try clear hfz15_0 hfz15_1 hfz15_2 hfz15_3 hfz15_4; try clear hfz17_0 hfz17_1 hfz17_2 hfz17_3 hfz17_4; try clear hfz18_0 hfz18_1 hfz18_2 hfz18_3 hfz18_4; try clear hfz20_0 hfz20_1 hfz20_2 hfz20_3 hfz20_4; try clear hfz24_0 hfz24_1 hfz24_2 hfz24_3 hfz24_4; try clear hfz29_0 hfz29_1 hfz29_2 hfz29_3 hfz29_4; try clear hfz30_0 hfz30_1 hfz30_2 hfz30_3 hfz30_4; try clear hfz4_0 hfz4_1 hfz4_2 hfz4_3 hfz4_4; try clear hfz7_0 hfz7_1 hfz7_2 hfz7_3 hfz7_4; try clear hfz9_0 hfz9_1 hfz9_2 hfz9_3 hfz9_4; try clear p2
      obtain ⟨kq, x43_22, rfl, HA, HJ22, BK302, HB⟩ := hcut
      cases kq with
      | zero => exact absurd HA.out (by simp [spiritlevelref02_Check.j1])
      | succ kj22 =>
       have H := HA.out
       clear HA
       simp only [spiritlevelref02_Check.j1] at H
       by_cases c31 : x43_22 = true
       ·subst c31
        have H1 : (some 8) = some r := by rw [if_pos rfl] at H; exact H
        clear H
        have H := H1
        clear H1
        obtain rfl := Option.some.inj H
        go_wp2
        go_ret
        exact ⟨by first | rfl | (simp [errW_none, errW_some] <;> rfl) | (simp [*, errW_none, errW_some] <;> rfl), by repeat (first | (with_reducible first | exact HB.out | apply b0_ | apply b1_ | apply b2_ | refine below_set ?_ GE302.out) | exact HB.out)⟩
       ·replace c31 := Bool.eq_false_iff.mpr c31
        subst c31
        have H1 : (spiritlevelref02_Check.l0 kj22 t304 0 a0_0 l0_1 l0_2 l0_3 l0_4) = some r := by rw [if_neg (show ¬ (false = true) by decide)] at H; exact H
        clear H
        have H := H1
        clear H1
        have H' := M_ H
        clear H
        go_wp2
        go_loopg [4] kj22 (fun kq v4 w' => ∃ (x4_3 : Int), v4 = .int .i64 x4_3 ∧ Aside0 (spiritlevelref02_Check.l0 kq t304 x4_3 a0_0 l0_1 l0_2 l0_3 l0_4 = some r) ∧ Aside0 (kq ≤ kj22) ∧ Aside0 (w'.heap[gb302]? = some (.cells #[.int .i64 a0_0, (.slice A0_1 l0_1.length c0_1), (.slice A0_2 l0_2.length c0_2), (.slice A0_3 l0_3.length c0_3), (.slice A0_4 l0_4.length c0_4)] 26 (0, 0))) ∧ Aside0 (Below w.heap.size w w'))
        case atStart => exact ⟨(0), (by first | rfl | (simp; done) | (simp [*]; done)), H', ⟨Nat.le_refl _⟩, ⟨by (with_reducible repeat (first | refine k0_ ?_ _ | refine k1_ ?_ | refine k2_ ?_ _)); exact BK302.out⟩, ⟨by repeat (first | (with_reducible first | exact HB.out | apply b0_ | apply b1_ | apply b2_ | refine below_set ?_ GE302.out) | exact HB.out)⟩⟩
        case round =>
         clear H'
         try clear c1; try clear c2; try clear c2b0; try clear p2; try clear c3; try clear c4; try clear c7; try clear c8; try clear c8b0; try clear c11; try clear c11b0; try clear c14; try clear c14b0; try clear c14b1; try clear c21; try clear c27; try clear c31; try clear hcz12_0 hcz12_1 hcz12_2 hcz12_3 hcz12_4; try clear hcz15_0 hcz15_1 hcz15_2 hcz15_3 hcz15_4; try clear hcz17_0 hcz17_1 hcz17_2 hcz17_3 hcz17_4; try clear hcz18_0 hcz18_1 hcz18_2 hcz18_3 hcz18_4; try clear hcz20_0 hcz20_1 hcz20_2 hcz20_3 hcz20_4; try clear hcz24_0 hcz24_1 hcz24_2 hcz24_3 hcz24_4; try clear hcz29_0 hcz29_1 hcz29_2 hcz29_3 hcz29_4; try clear hcz30_0 hcz30_1 hcz30_2 hcz30_3 hcz30_4; try clear hcz4_0 hcz4_1 hcz4_2 hcz4_3 hcz4_4; try clear hcz7_0 hcz7_1 hcz7_2 hcz7_3 hcz7_4; try clear hcz9_0 hcz9_1 hcz9_2 hcz9_3 hcz9_4; try clear hfz12_0 hfz12_1 hfz12_2 hfz12_3 hfz12_4; try clear hfz15_0 hfz15_1 hfz15_2 hfz15_3 hfz15_4; try clear hfz17_0 hfz17_1 hfz17_2 hfz17_3 hfz17_4; try clear hfz18_0 hfz18_1 hfz18_2 hfz18_3 hfz18_4; try clear hfz20_0 hfz20_1 hfz20_2 hfz20_3 hfz20_4; try clear hfz24_0 hfz24_1 hfz24_2 hfz24_3 hfz24_4; try clear hfz29_0 hfz29_1 hfz29_2 hfz29_3 hfz29_4; try clear hfz30_0 hfz30_1 hfz30_2 hfz30_3 hfz30_4; try clear hfz4_0 hfz4_1 hfz4_2 hfz4_3 hfz4_4; try clear hfz7_0 hfz7_1 hfz7_2 hfz7_3 hfz7_4; try clear hfz9_0 hfz9_1 hfz9_2 hfz9_3 hfz9_4; try clear p2
         obtain ⟨x4_3, rfl, HA, HK3, BK302, HB⟩ := hrel
         cases gk with
         | zero => exact absurd HA.out (by simp [spiritlevelref02_Check.l0])
         | succ k3 =>
          have H := HA.out
          clear HA
          simp only [spiritlevelref02_Check.l0] at H
          by_cases c32 : x4_3 < (l0_1.length : Int)
          ·rw [if_pos c32] at H
           have c32b0 : decide (x4_3 < (l0_1.length : Int)) = true := decide_eq_true c32
           clear c32
           by_cases c33 : 0 ≤ x4_3
           ·rw [if_pos c33] at H
            have c33b0 : decide (0 ≤ x4_3) = true := decide_eq_true c33
            clear c33
            obtain ⟨y308, hy308⟩ : ∃ y_ : List Int, y_ = (([(rd_T36 l0_1 x4_3).f0] : List Int)) := ⟨_, rfl⟩
            replace H : ((spiritlevelref02_literals.f k3 y308 t304).bind fun t311 => (if t311 = true then (if ((rd_T36 l0_1 x4_3).f1) < 0 then (some 8) else (if ((rd_T36 l0_1 x4_3).f1) > 2 then (some 8) else (spiritlevelref02_Check.l0 k3 t304 (wrap64 (x4_3 + 1)) a0_0 l0_1 l0_2 l0_3 l0_4))) else (some 8))) = some r := by first | (rw [hy308]; with_reducible exact H) | (have H2_ := (Option.bind_some _ _).symm.trans H; rw [hy308]; with_reducible exact H2_) | (have H2_ := (Option.bind_some _ _).symm.trans H; with_reducible exact H2_) | with_reducible exact H | (rw [hy308]; exact H) | exact H
            have Ny308 := M_ hy308
            clear hy308
            replace H := Option.bind_eq_some_iff.mp H
            obtain ⟨t311, A340, H⟩ := H
            replace H : (if t311 = true then (if ((rd_T36 l0_1 x4_3).f1) < 0 then (some 8) else (if ((rd_T36 l0_1 x4_3).f1) > 2 then (some 8) else (spiritlevelref02_Check.l0 k3 t304 (wrap64 (x4_3 + 1)) a0_0 l0_1 l0_2 l0_3 l0_4))) else (some 8)) = some r := H
            have A34 := M_ A340
            clear A340
            by_cases c35 : t311 = true
            ·subst c35
             have H1 : (if ((rd_T36 l0_1 x4_3).f1) < 0 then (some 8) else (if ((rd_T36 l0_1 x4_3).f1) > 2 then (some 8) else (spiritlevelref02_Check.l0 k3 t304 (wrap64 (x4_3 + 1)) a0_0 l0_1 l0_2 l0_3 l0_4))) = some r := by rw [if_pos rfl] at H; exact H
             clear H
             have H := H1
             clear H1
             by_cases c36 : ((rd_T36 l0_1 x4_3).f1) < 0
             ·rw [if_pos c36] at H
              have c36b0 : decide (((rd_T36 l0_1 x4_3).f1) < 0) = true := decide_eq_true c36
              clear c36
              obtain rfl := Option.some.inj H
              obtain ⟨hcz37_0, hcz37_1, hcz37_2, hcz37_3, hcz37_4⟩ := cz5_ BK302.out
              obtain ⟨hfz37_0, hfz37_1, hfz37_2, hfz37_3, hfz37_4⟩ := fz5_ BK302.out
              have p307 : 0 ≤ (x4_3 : Int) := of_decide_eq_true (by first | (with_reducible assumption) | assumption)
              have q307 : x4_3 < (l0_1.length : Int) := of_decide_eq_true (by first | (with_reducible assumption) | assumption)
              obtain ⟨ad307, e307, hx307_0, hx307_1⟩ := at_T36 HR0_1.out x4_3 p307 q307
              cases e307
              replace hx307_0 := (HB.out.cell (World.block_lt_of_cell? w _ hx307_0)).trans hx307_0
              replace hx307_1 := (HB.out.cell (World.block_lt_of_cell? w _ hx307_1)).trans hx307_1
              replace p307 := eq_true p307
              replace q307 := eq_true q307
              go_wp2_with (first | ((with_reducible refine gate_dst (N := 57) rfl ?_); (try (refine gate_guard (by rfl) ?_; dsimp only)); refine Kd.R_lit (Kd.int .i64) _ 3 ?hg (N := 57) ?hd (xs := ([(rd_T36 l0_1 x4_3).f0] : List Int)) (inner := [.int .i64 ((rd_T36 l0_1 x4_3).f0)]) (ok := fun _ => True) (okp := fun _ => True) ?hr ?hp (fun _ hk => hk) trivial (Below.refl _ _) (Nat.le_refl _) (by simp) ?_; (case hd => rfl); (case hg => rfl); (case hr => first | (go_simp; done) | (go_simp; rfl)); (case hp => exact (Reps.one (show Kd.M (Kd.int .i64) _ _ _ ((rd_T36 l0_1 x4_3).f0) [.int .i64 ((rd_T36 l0_1 x4_3).f0)] from rfl) (Reps.none _ _))); intro v309 w38 ho39 hb hg_ hnew_; clear hg_ hnew_; (first | rw [← Ny308.out] at ho39 | (simp only [Int.reduceToNat] at ho39; rw [← Ny308.out] at ho39)); have n0_ := M_ (Kd.R_lower ho39 (below_size (ws_ HB.out))); have HO310 := n0_; replace BK302 := bb_ BK302 hb; replace HB := wb_ HB hb; clear n0_; clear hb ho39; obtain ⟨Ao40, co40, eo40⟩ := Kd.R_slice HO310.out; subst eo40) | ((with_reducible refine gate_callee (f := 77) rfl ?_); refine goesL_ (some 59) rfl rfl Try.func77 (by kernel_rfl) rfl #[.slice Ao40 y308.length co40, .int .i64 t304] rfl (by (try simp only [List.map_toArray, List.map_cons, List.map_nil]); first | done | rfl) ?_; (with_reducible refine (spiritlevelref02_literals.calls k3 _ _ y308 t304 true _ ?side1 ?side2 A34.out).mono ?_); (case side1 => exact cl_ (Kd.R_reads' HO310.out).2.2); (case side2 => exact (Kd.R_reads' HO310.out).2.1); rintro e w' ⟨rfl, ⟨nd, rfl⟩⟩; refine ⟨_, rfl, ?_⟩; obtain ⟨hcz41_0, hcz41_1, hcz41_2, hcz41_3, hcz41_4⟩ := cz5_ BK302.out; obtain ⟨hfz41_0, hfz41_1, hfz41_2, hfz41_3, hfz41_4⟩ := fz5_ BK302.out; have p312 : 0 ≤ (x4_3 : Int) := of_decide_eq_true (by first | (with_reducible assumption) | assumption); have q312 : x4_3 < (l0_1.length : Int) := of_decide_eq_true (by first | (with_reducible assumption) | assumption); obtain ⟨ad312, e312, hx312_0, hx312_1⟩ := at_T36 HR0_1.out x4_3 p312 q312; obtain rfl : ad307 = ad312 := (by injection e312); replace hx312_0 := (HB.out.cell (World.block_lt_of_cell? w _ hx312_0)).trans hx312_0; replace hx312_1 := (HB.out.cell (World.block_lt_of_cell? w _ hx312_1)).trans hx312_1; replace p312 := eq_true p312; replace q312 := eq_true q312))
              go_ret
              exact ⟨by first | rfl | (simp [errW_none, errW_some] <;> rfl) | (simp [*, errW_none, errW_some] <;> rfl), by repeat (first | (with_reducible first | exact HB.out | apply b0_ | apply b1_ | apply b2_ | refine below_set ?_ GE302.out) | exact HB.out)⟩
             ·rw [if_neg c36] at H
              have c36b0 : decide (((rd_T36 l0_1 x4_3).f1) < 0) = false := decide_eq_false c36
              clear c36
              by_cases c42 : ((rd_T36 l0_1 x4_3).f1) > 2
              ·rw [if_pos c42] at H
               have c42b0 : decide (2 < ((rd_T36 l0_1 x4_3).f1)) = true := decide_eq_true c42
               clear c42
               obtain rfl := Option.some.inj H
               obtain ⟨hcz43_0, hcz43_1, hcz43_2, hcz43_3, hcz43_4⟩ := cz5_ BK302.out
               obtain ⟨hfz43_0, hfz43_1, hfz43_2, hfz43_3, hfz43_4⟩ := fz5_ BK302.out
               have p307 : 0 ≤ (x4_3 : Int) := of_decide_eq_true (by first | (with_reducible assumption) | assumption)
               have q307 : x4_3 < (l0_1.length : Int) := of_decide_eq_true (by first | (with_reducible assumption) | assumption)
               obtain ⟨ad307, e307, hx307_0, hx307_1⟩ := at_T36 HR0_1.out x4_3 p307 q307
               cases e307
               replace hx307_0 := (HB.out.cell (World.block_lt_of_cell? w _ hx307_0)).trans hx307_0
               replace hx307_1 := (HB.out.cell (World.block_lt_of_cell? w _ hx307_1)).trans hx307_1
               replace p307 := eq_true p307
               replace q307 := eq_true q307
               go_wp2_with (first | ((with_reducible refine gate_dst (N := 57) rfl ?_); (try (refine gate_guard (by rfl) ?_; dsimp only)); refine Kd.R_lit (Kd.int .i64) _ 3 ?hg (N := 57) ?hd (xs := ([(rd_T36 l0_1 x4_3).f0] : List Int)) (inner := [.int .i64 ((rd_T36 l0_1 x4_3).f0)]) (ok := fun _ => True) (okp := fun _ => True) ?hr ?hp (fun _ hk => hk) trivial (Below.refl _ _) (Nat.le_refl _) (by simp) ?_; (case hd => rfl); (case hg => rfl); (case hr => first | (go_simp; done) | (go_simp; rfl)); (case hp => exact (Reps.one (show Kd.M (Kd.int .i64) _ _ _ ((rd_T36 l0_1 x4_3).f0) [.int .i64 ((rd_T36 l0_1 x4_3).f0)] from rfl) (Reps.none _ _))); intro v309 w44 ho45 hb hg_ hnew_; clear hg_ hnew_; (first | rw [← Ny308.out] at ho45 | (simp only [Int.reduceToNat] at ho45; rw [← Ny308.out] at ho45)); have n0_ := M_ (Kd.R_lower ho45 (below_size (ws_ HB.out))); have HO310 := n0_; replace BK302 := bb_ BK302 hb; replace HB := wb_ HB hb; clear n0_; clear hb ho45; obtain ⟨Ao46, co46, eo46⟩ := Kd.R_slice HO310.out; subst eo46) | ((with_reducible refine gate_callee (f := 77) rfl ?_); refine goesL_ (some 59) rfl rfl Try.func77 (by kernel_rfl) rfl #[.slice Ao46 y308.length co46, .int .i64 t304] rfl (by (try simp only [List.map_toArray, List.map_cons, List.map_nil]); first | done | rfl) ?_; (with_reducible refine (spiritlevelref02_literals.calls k3 _ _ y308 t304 true _ ?side1 ?side2 A34.out).mono ?_); (case side1 => exact cl_ (Kd.R_reads' HO310.out).2.2); (case side2 => exact (Kd.R_reads' HO310.out).2.1); rintro e w' ⟨rfl, ⟨nd, rfl⟩⟩; refine ⟨_, rfl, ?_⟩; obtain ⟨hcz47_0, hcz47_1, hcz47_2, hcz47_3, hcz47_4⟩ := cz5_ BK302.out; obtain ⟨hfz47_0, hfz47_1, hfz47_2, hfz47_3, hfz47_4⟩ := fz5_ BK302.out; have p312 : 0 ≤ (x4_3 : Int) := of_decide_eq_true (by first | (with_reducible assumption) | assumption); have q312 : x4_3 < (l0_1.length : Int) := of_decide_eq_true (by first | (with_reducible assumption) | assumption); obtain ⟨ad312, e312, hx312_0, hx312_1⟩ := at_T36 HR0_1.out x4_3 p312 q312; obtain rfl : ad307 = ad312 := (by injection e312); replace hx312_0 := (HB.out.cell (World.block_lt_of_cell? w _ hx312_0)).trans hx312_0; replace hx312_1 := (HB.out.cell (World.block_lt_of_cell? w _ hx312_1)).trans hx312_1; replace p312 := eq_true p312; replace q312 := eq_true q312; have p313 : 0 ≤ (x4_3 : Int) := of_decide_eq_true (by first | (with_reducible assumption) | assumption); have q313 : x4_3 < (l0_1.length : Int) := of_decide_eq_true (by first | (with_reducible assumption) | assumption); obtain ⟨ad313, e313, hx313_0, hx313_1⟩ := at_T36 HR0_1.out x4_3 p313 q313; obtain rfl : ad307 = ad313 := (by injection e313); replace hx313_0 := (HB.out.cell (World.block_lt_of_cell? w _ hx313_0)).trans hx313_0; replace hx313_1 := (HB.out.cell (World.block_lt_of_cell? w _ hx313_1)).trans hx313_1; replace p313 := eq_true p313; replace q313 := eq_true q313))
               go_ret
               exact ⟨by first | rfl | (simp [errW_none, errW_some] <;> rfl) | (simp [*, errW_none, errW_some] <;> rfl), by repeat (first | (with_reducible first | exact HB.out | apply b0_ | apply b1_ | apply b2_ | refine below_set ?_ GE302.out) | exact HB.out)⟩
              ·rw [if_neg c42] at H
               have c42b0 : decide (2 < ((rd_T36 l0_1 x4_3).f1)) = false := decide_eq_false c42
               clear c42
               have H' := M_ H
               clear H
               obtain ⟨hcz48_0, hcz48_1, hcz48_2, hcz48_3, hcz48_4⟩ := cz5_ BK302.out
               obtain ⟨hfz48_0, hfz48_1, hfz48_2, hfz48_3, hfz48_4⟩ := fz5_ BK302.out
               have p307 : 0 ≤ (x4_3 : Int) := of_decide_eq_true (by first | (with_reducible assumption) | assumption)
               have q307 : x4_3 < (l0_1.length : Int) := of_decide_eq_true (by first | (with_reducible assumption) | assumption)
               obtain ⟨ad307, e307, hx307_0, hx307_1⟩ := at_T36 HR0_1.out x4_3 p307 q307
               cases e307
               replace hx307_0 := (HB.out.cell (World.block_lt_of_cell? w _ hx307_0)).trans hx307_0
               replace hx307_1 := (HB.out.cell (World.block_lt_of_cell? w _ hx307_1)).trans hx307_1
               replace p307 := eq_true p307
               replace q307 := eq_true q307
               go_wp2_with (first | ((with_reducible refine gate_dst (N := 57) rfl ?_); (try (refine gate_guard (by rfl) ?_; dsimp only)); refine Kd.R_lit (Kd.int .i64) _ 3 ?hg (N := 57) ?hd (xs := ([(rd_T36 l0_1 x4_3).f0] : List Int)) (inner := [.int .i64 ((rd_T36 l0_1 x4_3).f0)]) (ok := fun _ => True) (okp := fun _ => True) ?hr ?hp (fun _ hk => hk) trivial (Below.refl _ _) (Nat.le_refl _) (by simp) ?_; (case hd => rfl); (case hg => rfl); (case hr => first | (go_simp; done) | (go_simp; rfl)); (case hp => exact (Reps.one (show Kd.M (Kd.int .i64) _ _ _ ((rd_T36 l0_1 x4_3).f0) [.int .i64 ((rd_T36 l0_1 x4_3).f0)] from rfl) (Reps.none _ _))); intro v309 w49 ho50 hb hg_ hnew_; clear hg_ hnew_; (first | rw [← Ny308.out] at ho50 | (simp only [Int.reduceToNat] at ho50; rw [← Ny308.out] at ho50)); have n0_ := M_ (Kd.R_lower ho50 (below_size (ws_ HB.out))); have HO310 := n0_; replace BK302 := bb_ BK302 hb; replace HB := wb_ HB hb; clear n0_; clear hb ho50; obtain ⟨Ao51, co51, eo51⟩ := Kd.R_slice HO310.out; subst eo51) | ((with_reducible refine gate_callee (f := 77) rfl ?_); refine goesL_ (some 59) rfl rfl Try.func77 (by kernel_rfl) rfl #[.slice Ao51 y308.length co51, .int .i64 t304] rfl (by (try simp only [List.map_toArray, List.map_cons, List.map_nil]); first | done | rfl) ?_; (with_reducible refine (spiritlevelref02_literals.calls k3 _ _ y308 t304 true _ ?side1 ?side2 A34.out).mono ?_); (case side1 => exact cl_ (Kd.R_reads' HO310.out).2.2); (case side2 => exact (Kd.R_reads' HO310.out).2.1); rintro e w' ⟨rfl, ⟨nd, rfl⟩⟩; refine ⟨_, rfl, ?_⟩; obtain ⟨hcz52_0, hcz52_1, hcz52_2, hcz52_3, hcz52_4⟩ := cz5_ BK302.out; obtain ⟨hfz52_0, hfz52_1, hfz52_2, hfz52_3, hfz52_4⟩ := fz5_ BK302.out; have p312 : 0 ≤ (x4_3 : Int) := of_decide_eq_true (by first | (with_reducible assumption) | assumption); have q312 : x4_3 < (l0_1.length : Int) := of_decide_eq_true (by first | (with_reducible assumption) | assumption); obtain ⟨ad312, e312, hx312_0, hx312_1⟩ := at_T36 HR0_1.out x4_3 p312 q312; obtain rfl : ad307 = ad312 := (by injection e312); replace hx312_0 := (HB.out.cell (World.block_lt_of_cell? w _ hx312_0)).trans hx312_0; replace hx312_1 := (HB.out.cell (World.block_lt_of_cell? w _ hx312_1)).trans hx312_1; replace p312 := eq_true p312; replace q312 := eq_true q312; have p313 : 0 ≤ (x4_3 : Int) := of_decide_eq_true (by first | (with_reducible assumption) | assumption); have q313 : x4_3 < (l0_1.length : Int) := of_decide_eq_true (by first | (with_reducible assumption) | assumption); obtain ⟨ad313, e313, hx313_0, hx313_1⟩ := at_T36 HR0_1.out x4_3 p313 q313; obtain rfl : ad307 = ad313 := (by injection e313); replace hx313_0 := (HB.out.cell (World.block_lt_of_cell? w _ hx313_0)).trans hx313_0; replace hx313_1 := (HB.out.cell (World.block_lt_of_cell? w _ hx313_1)).trans hx313_1; replace p313 := eq_true p313; replace q313 := eq_true q313))
               go_roundg k3
               case measure => have := HJ4.out; have := HJ22.out; have := HK3.out; omega
               case rel => exact ⟨(wrap64 (x4_3 + 1)), (by first | rfl | (simp; done) | (simp [*]; done)), H', ⟨by have := HJ4.out; have := HJ22.out; have := HK3.out; omega⟩, ⟨by (with_reducible repeat (first | refine k0_ ?_ _ | refine k1_ ?_ | refine k2_ ?_ _)); exact BK302.out⟩, ⟨by repeat (first | (with_reducible first | exact HB.out | apply b0_ | apply b1_ | apply b2_ | refine below_set ?_ GE302.out) | exact HB.out)⟩⟩
            ·replace c35 := Bool.eq_false_iff.mpr c35
             subst c35
             have H1 : (some 8) = some r := by rw [if_neg (show ¬ (false = true) by decide)] at H; exact H
             clear H
             have H := H1
             clear H1
             obtain rfl := Option.some.inj H
             obtain ⟨hcz53_0, hcz53_1, hcz53_2, hcz53_3, hcz53_4⟩ := cz5_ BK302.out
             obtain ⟨hfz53_0, hfz53_1, hfz53_2, hfz53_3, hfz53_4⟩ := fz5_ BK302.out
             have p307 : 0 ≤ (x4_3 : Int) := of_decide_eq_true (by first | (with_reducible assumption) | assumption)
             have q307 : x4_3 < (l0_1.length : Int) := of_decide_eq_true (by first | (with_reducible assumption) | assumption)
             obtain ⟨ad307, e307, hx307_0, hx307_1⟩ := at_T36 HR0_1.out x4_3 p307 q307
             cases e307
             replace hx307_0 := (HB.out.cell (World.block_lt_of_cell? w _ hx307_0)).trans hx307_0
             replace hx307_1 := (HB.out.cell (World.block_lt_of_cell? w _ hx307_1)).trans hx307_1
             replace p307 := eq_true p307
             replace q307 := eq_true q307
             go_wp2_with (first | ((with_reducible refine gate_dst (N := 57) rfl ?_); (try (refine gate_guard (by rfl) ?_; dsimp only)); refine Kd.R_lit (Kd.int .i64) _ 3 ?hg (N := 57) ?hd (xs := ([(rd_T36 l0_1 x4_3).f0] : List Int)) (inner := [.int .i64 ((rd_T36 l0_1 x4_3).f0)]) (ok := fun _ => True) (okp := fun _ => True) ?hr ?hp (fun _ hk => hk) trivial (Below.refl _ _) (Nat.le_refl _) (by simp) ?_; (case hd => rfl); (case hg => rfl); (case hr => first | (go_simp; done) | (go_simp; rfl)); (case hp => exact (Reps.one (show Kd.M (Kd.int .i64) _ _ _ ((rd_T36 l0_1 x4_3).f0) [.int .i64 ((rd_T36 l0_1 x4_3).f0)] from rfl) (Reps.none _ _))); intro v309 w54 ho55 hb hg_ hnew_; clear hg_ hnew_; (first | rw [← Ny308.out] at ho55 | (simp only [Int.reduceToNat] at ho55; rw [← Ny308.out] at ho55)); have n0_ := M_ (Kd.R_lower ho55 (below_size (ws_ HB.out))); have HO310 := n0_; replace BK302 := bb_ BK302 hb; replace HB := wb_ HB hb; clear n0_; clear hb ho55; obtain ⟨Ao56, co56, eo56⟩ := Kd.R_slice HO310.out; subst eo56) | ((with_reducible refine gate_callee (f := 77) rfl ?_); refine goesL_ (some 59) rfl rfl Try.func77 (by kernel_rfl) rfl #[.slice Ao56 y308.length co56, .int .i64 t304] rfl (by (try simp only [List.map_toArray, List.map_cons, List.map_nil]); first | done | rfl) ?_; (with_reducible refine (spiritlevelref02_literals.calls k3 _ _ y308 t304 false _ ?side1 ?side2 A34.out).mono ?_); (case side1 => exact cl_ (Kd.R_reads' HO310.out).2.2); (case side2 => exact (Kd.R_reads' HO310.out).2.1); rintro e w' ⟨rfl, ⟨nd, rfl⟩⟩; refine ⟨_, rfl, ?_⟩))
             go_ret
             exact ⟨by first | rfl | (simp [errW_none, errW_some] <;> rfl) | (simp [*, errW_none, errW_some] <;> rfl), by repeat (first | (with_reducible first | exact HB.out | apply b0_ | apply b1_ | apply b2_ | refine below_set ?_ GE302.out) | exact HB.out)⟩
           ·rw [if_neg c33] at H
            exact absurd H (by simp)
          ·rw [if_neg c32] at H
           have c32b0 : decide (x4_3 < (l0_1.length : Int)) = false := decide_eq_false c32
           clear c32
           have H' := M_ H
           clear H
           obtain ⟨hcz57_0, hcz57_1, hcz57_2, hcz57_3, hcz57_4⟩ := cz5_ BK302.out
           obtain ⟨hfz57_0, hfz57_1, hfz57_2, hfz57_3, hfz57_4⟩ := fz5_ BK302.out
           go_wp2
           go_loopg [5] k3 (fun kq v5 w' => ∃ (x5_4 : Int), v5 = .int .i64 x5_4 ∧ Aside0 (spiritlevelref02_Check.l1 kq x5_4 a0_0 l0_1 l0_2 l0_3 l0_4 = some r) ∧ Aside0 (kq ≤ k3) ∧ Aside0 (w'.heap[gb302]? = some (.cells #[.int .i64 a0_0, (.slice A0_1 l0_1.length c0_1), (.slice A0_2 l0_2.length c0_2), (.slice A0_3 l0_3.length c0_3), (.slice A0_4 l0_4.length c0_4)] 26 (0, 0))) ∧ Aside0 (Below w.heap.size w w'))
           case atStart => exact ⟨(0), (by first | rfl | (simp; done) | (simp [*]; done)), H', ⟨Nat.le_refl _⟩, ⟨by (with_reducible repeat (first | refine k0_ ?_ _ | refine k1_ ?_ | refine k2_ ?_ _)); exact BK302.out⟩, ⟨by repeat (first | (with_reducible first | exact HB.out | apply b0_ | apply b1_ | apply b2_ | refine below_set ?_ GE302.out) | exact HB.out)⟩⟩
           case round =>
            clear H'
            try clear c1; try clear c2; try clear c2b0; try clear p2; try clear c3; try clear p3; try clear q3; try clear hx3; try clear c4; try clear p6; try clear c7; try clear c8; try clear c8b0; try clear c11; try clear c11b0; try clear c14; try clear c14b0; try clear c14b1; try clear c21; try clear c27; try clear p30; try clear q30; try clear hx30; try clear c31; try clear p31; try clear q31; try clear hx31; try clear c32; try clear c32b0; try clear c33; try clear c33b0; try clear c35; try clear c36; try clear c36b0; try clear c42; try clear c42b0; try clear hcz12_0 hcz12_1 hcz12_2 hcz12_3 hcz12_4; try clear hcz15_0 hcz15_1 hcz15_2 hcz15_3 hcz15_4; try clear hcz17_0 hcz17_1 hcz17_2 hcz17_3 hcz17_4; try clear hcz18_0 hcz18_1 hcz18_2 hcz18_3 hcz18_4; try clear hcz20_0 hcz20_1 hcz20_2 hcz20_3 hcz20_4; try clear hcz24_0 hcz24_1 hcz24_2 hcz24_3 hcz24_4; try clear hcz29_0 hcz29_1 hcz29_2 hcz29_3 hcz29_4; try clear hcz30_0 hcz30_1 hcz30_2 hcz30_3 hcz30_4; try clear hcz37_0 hcz37_1 hcz37_2 hcz37_3 hcz37_4; try clear hcz41_0 hcz41_1 hcz41_2 hcz41_3 hcz41_4; try clear hcz43_0 hcz43_1 hcz43_2 hcz43_3 hcz43_4; try clear hcz47_0 hcz47_1 hcz47_2 hcz47_3 hcz47_4; try clear hcz48_0 hcz48_1 hcz48_2 hcz48_3 hcz48_4; try clear hcz4_0 hcz4_1 hcz4_2 hcz4_3 hcz4_4; try clear hcz52_0 hcz52_1 hcz52_2 hcz52_3 hcz52_4; try clear hcz53_0 hcz53_1 hcz53_2 hcz53_3 hcz53_4; try clear hcz57_0 hcz57_1 hcz57_2 hcz57_3 hcz57_4; try clear hcz7_0 hcz7_1 hcz7_2 hcz7_3 hcz7_4; try clear hcz9_0 hcz9_1 hcz9_2 hcz9_3 hcz9_4; try clear hfz12_0 hfz12_1 hfz12_2 hfz12_3 hfz12_4; try clear hfz15_0 hfz15_1 hfz15_2 hfz15_3 hfz15_4; try clear hfz17_0 hfz17_1 hfz17_2 hfz17_3 hfz17_4; try clear hfz18_0 hfz18_1 hfz18_2 hfz18_3 hfz18_4; try clear hfz20_0 hfz20_1 hfz20_2 hfz20_3 hfz20_4; try clear hfz24_0 hfz24_1 hfz24_2 hfz24_3 hfz24_4; try clear hfz29_0 hfz29_1 hfz29_2 hfz29_3 hfz29_4; try clear hfz30_0 hfz30_1 hfz30_2 hfz30_3 hfz30_4; try clear hfz37_0 hfz37_1 hfz37_2 hfz37_3 hfz37_4; try clear hfz41_0 hfz41_1 hfz41_2 hfz41_3 hfz41_4; try clear hfz43_0 hfz43_1 hfz43_2 hfz43_3 hfz43_4; try clear hfz47_0 hfz47_1 hfz47_2 hfz47_3 hfz47_4; try clear hfz48_0 hfz48_1 hfz48_2 hfz48_3 hfz48_4; try clear hfz4_0 hfz4_1 hfz4_2 hfz4_3 hfz4_4; try clear hfz52_0 hfz52_1 hfz52_2 hfz52_3 hfz52_4; try clear hfz53_0 hfz53_1 hfz53_2 hfz53_3 hfz53_4; try clear hfz57_0 hfz57_1 hfz57_2 hfz57_3 hfz57_4; try clear hfz7_0 hfz7_1 hfz7_2 hfz7_3 hfz7_4; try clear hfz9_0 hfz9_1 hfz9_2 hfz9_3 hfz9_4; try clear hx307_0; try clear hx307_1; try clear hx312_0; try clear hx312_1; try clear hx313_0; try clear hx313_1; try clear p2; try clear p307; try clear p312; try clear p313; try clear q307; try clear q312; try clear q313
            obtain ⟨x5_4, rfl, HA, HK4, BK302, HB⟩ := hrel
            cases gk with
            | zero => exact absurd HA.out (by simp [spiritlevelref02_Check.l1])
            | succ k4 =>
             have H := HA.out
             clear HA
             simp only [spiritlevelref02_Check.l1] at H
             by_cases c58 : x5_4 < (l0_2.length : Int)
             ·rw [if_pos c58] at H
              have c58b0 : decide (x5_4 < (l0_2.length : Int)) = true := decide_eq_true c58
              clear c58
              by_cases c59 : 0 ≤ x5_4
              ·rw [if_pos c59] at H
               have c59b0 : decide (0 ≤ x5_4) = true := decide_eq_true c59
               clear c59
               by_cases c60 : ((rd_T69 l0_2 x5_4).f1) < 0
               ·rw [if_pos c60] at H
                have c60b0 : decide (((rd_T69 l0_2 x5_4).f1) < 0) = true := decide_eq_true c60
                clear c60
                obtain rfl := Option.some.inj H
                obtain ⟨hcz61_0, hcz61_1, hcz61_2, hcz61_3, hcz61_4⟩ := cz5_ BK302.out
                obtain ⟨hfz61_0, hfz61_1, hfz61_2, hfz61_3, hfz61_4⟩ := fz5_ BK302.out
                have p314 : 0 ≤ (x5_4 : Int) := of_decide_eq_true (by first | (with_reducible assumption) | assumption)
                have q314 : x5_4 < (l0_2.length : Int) := of_decide_eq_true (by first | (with_reducible assumption) | assumption)
                obtain ⟨ad314, e314, hx314_0, hx314_1⟩ := at_T69 HR0_2.out x5_4 p314 q314
                cases e314
                replace hx314_0 := (HB.out.cell (World.block_lt_of_cell? w _ hx314_0)).trans hx314_0
                replace hx314_1 := (HB.out.cell (World.block_lt_of_cell? w _ hx314_1)).trans hx314_1
                replace p314 := eq_true p314
                replace q314 := eq_true q314
                go_wp2_with (first | ((with_reducible refine gate_dst (N := 6) rfl ?_); (try (refine gate_guard (by rfl) ?_; dsimp only)); refine box_event ?hg (N := 6) ?hd (cs := #[.int .i64 0, .int .i64 0]) (t := 69) ?hr ?_; (case hd => rfl); (case hg => rfl); (case hr => first | (go_simp; done) | (go_simp; rfl)); intro gb315 hg w62 hbox hb; have n2_ := M_ (hbox); have n3_ := M_ ((by rw [hg]; exact (below_size (ws_ HB.out)) : w.heap.size ≤ gb315)); have n4_ := M_ ((by rw [hg]; exact (below_size (ws_ HB.out)) : w.heap.size ≤ gb315)); have n5_ := M_ ((by rw [hg]; exact Nat.ne_of_lt (blk_lt (bl_ BK302.out)) : gb302 ≠ gb315)); have n6_ := M_ ((by rw [hg]; exact Nat.ne_of_gt (blk_lt (bl_ BK302.out)) : gb315 ≠ gb302)); replace BK302 := bb_ BK302 hb; replace HB := wb_ HB hb; have BK315 := n2_; have GW315 := n3_; have GE315 := n4_; have gi315 : Ge _ _ := ⟨GE315.out⟩; have NB302_315 := n5_; have NB315_302 := n6_; clear n2_ n3_ n4_ n5_ n6_; clear hb hbox hg; have hnb63 := NB315_302.out; have hnc63 := NB302_315.out; obtain ⟨hcz64_0, hcz64_1⟩ := cz2_ BK315.out; have hfz64_0 := blk_frozen BK315.out 0; have hfz64_1 := blk_frozen BK315.out 1))
                go_ret
                exact ⟨by first | rfl | (simp [errW_none, errW_some] <;> rfl) | (simp [*, errW_none, errW_some] <;> rfl), by repeat (first | (with_reducible first | exact HB.out | apply b0_ | apply b1_ | apply b2_ | refine below_set ?_ GE302.out | refine below_set ?_ GE315.out) | exact HB.out)⟩
               ·rw [if_neg c60] at H
                have c60b0 : decide (((rd_T69 l0_2 x5_4).f1) < 0) = false := decide_eq_false c60
                clear c60
                by_cases c65 : ((rd_T69 l0_2 x5_4).f0) < ((rd_T69 l0_2 x5_4).f1)
                ·rw [if_pos c65] at H
                 have c65b0 : decide (((rd_T69 l0_2 x5_4).f0) < ((rd_T69 l0_2 x5_4).f1)) = true := decide_eq_true c65
                 clear c65
                 obtain rfl := Option.some.inj H
                 obtain ⟨hcz66_0, hcz66_1, hcz66_2, hcz66_3, hcz66_4⟩ := cz5_ BK302.out
                 obtain ⟨hfz66_0, hfz66_1, hfz66_2, hfz66_3, hfz66_4⟩ := fz5_ BK302.out
                 have p314 : 0 ≤ (x5_4 : Int) := of_decide_eq_true (by first | (with_reducible assumption) | assumption)
                 have q314 : x5_4 < (l0_2.length : Int) := of_decide_eq_true (by first | (with_reducible assumption) | assumption)
                 obtain ⟨ad314, e314, hx314_0, hx314_1⟩ := at_T69 HR0_2.out x5_4 p314 q314
                 cases e314
                 replace hx314_0 := (HB.out.cell (World.block_lt_of_cell? w _ hx314_0)).trans hx314_0
                 replace hx314_1 := (HB.out.cell (World.block_lt_of_cell? w _ hx314_1)).trans hx314_1
                 replace p314 := eq_true p314
                 replace q314 := eq_true q314
                 go_wp2_with (first | ((with_reducible refine gate_dst (N := 6) rfl ?_); (try (refine gate_guard (by rfl) ?_; dsimp only)); refine box_event ?hg (N := 6) ?hd (cs := #[.int .i64 0, .int .i64 0]) (t := 69) ?hr ?_; (case hd => rfl); (case hg => rfl); (case hr => first | (go_simp; done) | (go_simp; rfl)); intro gb315 hg w67 hbox hb; have n2_ := M_ (hbox); have n3_ := M_ ((by rw [hg]; exact (below_size (ws_ HB.out)) : w.heap.size ≤ gb315)); have n4_ := M_ ((by rw [hg]; exact (below_size (ws_ HB.out)) : w.heap.size ≤ gb315)); have n5_ := M_ ((by rw [hg]; exact Nat.ne_of_lt (blk_lt (bl_ BK302.out)) : gb302 ≠ gb315)); have n6_ := M_ ((by rw [hg]; exact Nat.ne_of_gt (blk_lt (bl_ BK302.out)) : gb315 ≠ gb302)); replace BK302 := bb_ BK302 hb; replace HB := wb_ HB hb; have BK315 := n2_; have GW315 := n3_; have GE315 := n4_; have gi315 : Ge _ _ := ⟨GE315.out⟩; have NB302_315 := n5_; have NB315_302 := n6_; clear n2_ n3_ n4_ n5_ n6_; clear hb hbox hg; have hnb68 := NB315_302.out; have hnc68 := NB302_315.out; obtain ⟨hcz69_0, hcz69_1⟩ := cz2_ BK315.out; have hfz69_0 := blk_frozen BK315.out 0; have hfz69_1 := blk_frozen BK315.out 1))
                 go_ret
                 exact ⟨by first | rfl | (simp [errW_none, errW_some] <;> rfl) | (simp [*, errW_none, errW_some] <;> rfl), by repeat (first | (with_reducible first | exact HB.out | apply b0_ | apply b1_ | apply b2_ | refine below_set ?_ GE302.out | refine below_set ?_ GE315.out) | exact HB.out)⟩
                ·rw [if_neg c65] at H
                 have c65b0 : decide (((rd_T69 l0_2 x5_4).f0) < ((rd_T69 l0_2 x5_4).f1)) = false := decide_eq_false c65
                 clear c65
                 by_cases c70 : (wrap64 (Int.tdiv ((rd_T69 l0_2 x5_4).f0) 2)) > (wrap64 ((wrap64 (a0_0 + (l0_1.length : Int))) + x5_4))
                 ·rw [if_pos c70] at H
                  have c70b0 : decide ((wrap64 ((wrap64 (a0_0 + (l0_1.length : Int))) + x5_4)) < (wrap64 (Int.tdiv ((rd_T69 l0_2 x5_4).f0) 2))) = true := decide_eq_true c70
                  clear c70
                  obtain rfl := Option.some.inj H
                  obtain ⟨hcz71_0, hcz71_1, hcz71_2, hcz71_3, hcz71_4⟩ := cz5_ BK302.out
                  obtain ⟨hfz71_0, hfz71_1, hfz71_2, hfz71_3, hfz71_4⟩ := fz5_ BK302.out
                  have p314 : 0 ≤ (x5_4 : Int) := of_decide_eq_true (by first | (with_reducible assumption) | assumption)
                  have q314 : x5_4 < (l0_2.length : Int) := of_decide_eq_true (by first | (with_reducible assumption) | assumption)
                  obtain ⟨ad314, e314, hx314_0, hx314_1⟩ := at_T69 HR0_2.out x5_4 p314 q314
                  cases e314
                  replace hx314_0 := (HB.out.cell (World.block_lt_of_cell? w _ hx314_0)).trans hx314_0
                  replace hx314_1 := (HB.out.cell (World.block_lt_of_cell? w _ hx314_1)).trans hx314_1
                  replace p314 := eq_true p314
                  replace q314 := eq_true q314
                  go_wp2_with (first | ((with_reducible refine gate_dst (N := 6) rfl ?_); (try (refine gate_guard (by rfl) ?_; dsimp only)); refine box_event ?hg (N := 6) ?hd (cs := #[.int .i64 0, .int .i64 0]) (t := 69) ?hr ?_; (case hd => rfl); (case hg => rfl); (case hr => first | (go_simp; done) | (go_simp; rfl)); intro gb315 hg w72 hbox hb; have n2_ := M_ (hbox); have n3_ := M_ ((by rw [hg]; exact (below_size (ws_ HB.out)) : w.heap.size ≤ gb315)); have n4_ := M_ ((by rw [hg]; exact (below_size (ws_ HB.out)) : w.heap.size ≤ gb315)); have n5_ := M_ ((by rw [hg]; exact Nat.ne_of_lt (blk_lt (bl_ BK302.out)) : gb302 ≠ gb315)); have n6_ := M_ ((by rw [hg]; exact Nat.ne_of_gt (blk_lt (bl_ BK302.out)) : gb315 ≠ gb302)); replace BK302 := bb_ BK302 hb; replace HB := wb_ HB hb; have BK315 := n2_; have GW315 := n3_; have GE315 := n4_; have gi315 : Ge _ _ := ⟨GE315.out⟩; have NB302_315 := n5_; have NB315_302 := n6_; clear n2_ n3_ n4_ n5_ n6_; clear hb hbox hg; have hnb73 := NB315_302.out; have hnc73 := NB302_315.out; obtain ⟨hcz74_0, hcz74_1⟩ := cz2_ BK315.out; obtain ⟨hfz74_0, hfz74_1⟩ := fz2_ BK315.out; obtain ⟨hcz75_0, hcz75_1, hcz75_2, hcz75_3, hcz75_4⟩ := cz5_ BK302.out; have hfz75_0 := blk_frozen BK302.out 0; have hfz75_1 := blk_frozen BK302.out 1; have hfz75_2 := blk_frozen BK302.out 2; have hfz75_3 := blk_frozen BK302.out 3; have hfz75_4 := blk_frozen BK302.out 4))
                  go_ret
                  exact ⟨by first | rfl | (simp [errW_none, errW_some] <;> rfl) | (simp [*, errW_none, errW_some] <;> rfl), by repeat (first | (with_reducible first | exact HB.out | apply b0_ | apply b1_ | apply b2_ | refine below_set ?_ GE302.out | refine below_set ?_ GE315.out) | exact HB.out)⟩
                 ·rw [if_neg c70] at H
                  have c70b0 : decide ((wrap64 ((wrap64 (a0_0 + (l0_1.length : Int))) + x5_4)) < (wrap64 (Int.tdiv ((rd_T69 l0_2 x5_4).f0) 2))) = false := decide_eq_false c70
                  clear c70
                  have H' := M_ H
                  clear H
                  obtain ⟨hcz76_0, hcz76_1, hcz76_2, hcz76_3, hcz76_4⟩ := cz5_ BK302.out
                  obtain ⟨hfz76_0, hfz76_1, hfz76_2, hfz76_3, hfz76_4⟩ := fz5_ BK302.out
                  have p314 : 0 ≤ (x5_4 : Int) := of_decide_eq_true (by first | (with_reducible assumption) | assumption)
                  have q314 : x5_4 < (l0_2.length : Int) := of_decide_eq_true (by first | (with_reducible assumption) | assumption)
                  obtain ⟨ad314, e314, hx314_0, hx314_1⟩ := at_T69 HR0_2.out x5_4 p314 q314
                  cases e314
                  replace hx314_0 := (HB.out.cell (World.block_lt_of_cell? w _ hx314_0)).trans hx314_0
                  replace hx314_1 := (HB.out.cell (World.block_lt_of_cell? w _ hx314_1)).trans hx314_1
                  replace p314 := eq_true p314
                  replace q314 := eq_true q314
                  go_wp2_with (first | ((with_reducible refine gate_dst (N := 6) rfl ?_); (try (refine gate_guard (by rfl) ?_; dsimp only)); refine box_event ?hg (N := 6) ?hd (cs := #[.int .i64 0, .int .i64 0]) (t := 69) ?hr ?_; (case hd => rfl); (case hg => rfl); (case hr => first | (go_simp; done) | (go_simp; rfl)); intro gb315 hg w77 hbox hb; have n2_ := M_ (hbox); have n3_ := M_ ((by rw [hg]; exact (below_size (ws_ HB.out)) : w.heap.size ≤ gb315)); have n4_ := M_ ((by rw [hg]; exact (below_size (ws_ HB.out)) : w.heap.size ≤ gb315)); have n5_ := M_ ((by rw [hg]; exact Nat.ne_of_lt (blk_lt (bl_ BK302.out)) : gb302 ≠ gb315)); have n6_ := M_ ((by rw [hg]; exact Nat.ne_of_gt (blk_lt (bl_ BK302.out)) : gb315 ≠ gb302)); replace BK302 := bb_ BK302 hb; replace HB := wb_ HB hb; have BK315 := n2_; have GW315 := n3_; have GE315 := n4_; have gi315 : Ge _ _ := ⟨GE315.out⟩; have NB302_315 := n5_; have NB315_302 := n6_; clear n2_ n3_ n4_ n5_ n6_; clear hb hbox hg; have hnb78 := NB315_302.out; have hnc78 := NB302_315.out; obtain ⟨hcz79_0, hcz79_1⟩ := cz2_ BK315.out; obtain ⟨hfz79_0, hfz79_1⟩ := fz2_ BK315.out; obtain ⟨hcz80_0, hcz80_1, hcz80_2, hcz80_3, hcz80_4⟩ := cz5_ BK302.out; have hfz80_0 := blk_frozen BK302.out 0; have hfz80_1 := blk_frozen BK302.out 1; have hfz80_2 := blk_frozen BK302.out 2; have hfz80_3 := blk_frozen BK302.out 3; have hfz80_4 := blk_frozen BK302.out 4))
                  go_roundg k4
                  case measure => have := HJ4.out; have := HJ22.out; have := HK3.out; have := HK4.out; omega
                  case rel => exact ⟨(wrap64 (x5_4 + 1)), (by first | rfl | (simp; done) | (simp [*]; done)), H', ⟨by have := HJ4.out; have := HJ22.out; have := HK3.out; have := HK4.out; omega⟩, ⟨by (with_reducible repeat (first | refine k0_ ?_ _ | refine k1_ ?_ | refine k2_ ?_ _)); refine blk_far ?_ NB302_315.out _; (with_reducible repeat (first | refine k0_ ?_ _ | refine k1_ ?_ | refine k2_ ?_ _)); refine blk_far ?_ NB302_315.out _; (with_reducible repeat (first | refine k0_ ?_ _ | refine k1_ ?_ | refine k2_ ?_ _)); exact BK302.out⟩, ⟨by repeat (first | (with_reducible first | exact HB.out | apply b0_ | apply b1_ | apply b2_ | refine below_set ?_ GE302.out | refine below_set ?_ GE315.out) | exact HB.out)⟩⟩
              ·rw [if_neg c59] at H
               exact absurd H (by simp)
             ·rw [if_neg c58] at H
              have c58b0 : decide (x5_4 < (l0_2.length : Int)) = false := decide_eq_false c58
              clear c58
              obtain rfl := Option.some.inj H
              obtain ⟨hcz81_0, hcz81_1, hcz81_2, hcz81_3, hcz81_4⟩ := cz5_ BK302.out
              obtain ⟨hfz81_0, hfz81_1, hfz81_2, hfz81_3, hfz81_4⟩ := fz5_ BK302.out
              go_wp2
              go_ret
              exact ⟨by first | rfl | (simp [errW_none, errW_some] <;> rfl) | (simp [*, errW_none, errW_some] <;> rfl), by repeat (first | (with_reducible first | exact HB.out | apply b0_ | apply b1_ | apply b2_ | refine below_set ?_ GE302.out) | exact HB.out)⟩

end Go.Proofs.Ytmcdanpecajklaa.QTernsimValues
