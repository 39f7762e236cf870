-- Made by wip/myprint.sh (a patched print): a text of this session's own.
import Derived.Test.YtnllcdihmpdhhaaQGatesConesx0
namespace Go.Proofs.Ytnllcdihmpdhhaa.QGatesCones
open Go.RowKit Go.Proofs.YtnllcdihmpdhhaaW.PrintWords Go.Proofs.YtnllcdihmpdhhaaW.PrintLast Go.Proofs.YtnllcdihmpdhhaaW.PrintMore
attribute [local go_sem] max2_int min2_int max_two min_two max_three min_three max_four min_four   -- for this text's walks alone
set_option linter.unusedVariables false
set_option linter.unusedSimpArgs false

/-! ### spiritlevelref02_Great: function 10 -/
def spiritlevelref02_Great.f (a0_0 : Int) (l0_1 : List (S53)) (l0_2 : List (S50)) (l0_3 : List Int) (l0_4 : List Int) : Option (Bool) := if (l0_1.length : Int) > 60 then (some true) else (if (l0_2.length : Int) > 120 then (some true) else (if (l0_3.length : Int) > 110 then (some true) else (if (l0_4.length : Int) > 110 then (some true) else (if a0_0 > 40 then (some (decide (a0_0 < 996))) else (some false)))))
set_option maxHeartbeats 8000000 in
set_option maxRecDepth 100000 in
theorem spiritlevelref02_Great.calls (a0_0 : Int) (A0_1 : Option Addr) (c0_1 : Nat) (l0_1 : List (S53)) (A0_2 : Option Addr) (c0_2 : Nat) (l0_2 : List (S50)) (A0_3 : Option Addr) (c0_3 : Nat) (l0_3 : List Int) (A0_4 : Option Addr) (c0_4 : Nat) (l0_4 : List Int) (r : Bool) (w : World) (hr0_1 : Kd.C k53 w A0_1 l0_1.length l0_1) (hc0_1 : l0_1.length ≤ c0_1) (hr0_2 : Kd.C k50 w A0_2 l0_2.length l0_2) (hc0_2 : l0_2.length ≤ c0_2) (hr0_3 : Kd.C (Kd.int .i64) w A0_3 l0_3.length l0_3) (hc0_3 : l0_3.length ≤ c0_3) (hr0_4 : Kd.C (Kd.int .i64) w A0_4 l0_4.length l0_4) (hc0_4 : l0_4.length ≤ c0_4) (h : spiritlevelref02_Great.f a0_0 l0_1 l0_2 l0_3 l0_4 = some r) :
    Calls Try.prog 10 #[.agg #[.int .i64 a0_0, .slice A0_1 l0_1.length c0_1, .slice A0_2 l0_2.length c0_2, .slice A0_3 l0_3.length c0_3, .slice A0_4 l0_4.length c0_4]] w fun e w' => e = .returned (.bool r) ∧ Below w.heap.size w w' := by
  have hu26 := Try.underlying26
  have HR0_1 := Aside0.mk hr0_1
  have HC0_1 := Aside0.mk hc0_1
  clear hr0_1 hc0_1
  have HR0_2 := Aside0.mk hr0_2
  have HC0_2 := Aside0.mk hc0_2
  clear hr0_2 hc0_2
  have HR0_3 := Aside0.mk hr0_3
  have HC0_3 := Aside0.mk hc0_3
  clear hr0_3 hc0_3
  have HR0_4 := Aside0.mk hr0_4
  have HC0_4 := Aside0.mk hc0_4
  clear hr0_4 hc0_4
  have HB := Aside0.mk (Below.refl w.heap.size w)
  have H : (if (l0_1.length : Int) > 60 then (some true) else (if (l0_2.length : Int) > 120 then (some true) else (if (l0_3.length : Int) > 110 then (some true) else (if (l0_4.length : Int) > 110 then (some true) else (if a0_0 > 40 then (some (decide (a0_0 < 996))) else (some false)))))) = some r := h
  clear h
  by_cases c2 : (l0_1.length : Int) > 60
  · rw [if_pos c2] at H
    have c2b0 : decide (60 < (l0_1.length : Int)) = true := decide_eq_true c2
    have c2b1 : decide (60 < l0_1.length) = true := decide_eq_true (by omega)
    clear c2
    obtain rfl := Option.some.inj H
    go_enter Try.func10, Try.ntmps10
    go_wp2_with (first | ((with_reducible refine gate_dst (N := 1) rfl ?_); (try (refine gate_guard (by rfl) ?_; dsimp only)); refine box_event ?hg (N := 1) ?hd (cs := #[.int .i64 a0_0, .slice A0_1 l0_1.length c0_1, .slice A0_2 l0_2.length c0_2, .slice A0_3 l0_3.length c0_3, .slice A0_4 l0_4.length c0_4]) (t := 26) ?hr ?_; (case hd => rfl); (case hg => rfl); (case hr => first | (go_simp; done) | (go_simp; rfl)); intro gb101 hg w3 hbox hb; have n0_ := Aside0.mk (below_step (by repeat (first | (with_reducible first | exact HB.out | apply below_alloc | apply pw_below_drewN | apply below_drew1) | exact HB.out)) hb); have n1_ := Aside0.mk (hbox); have n2_ := Aside0.mk ((by rw [hg]; exact (below_size (by repeat (first | (with_reducible first | exact HB.out | apply below_alloc | apply pw_below_drewN | apply below_drew1) | exact HB.out))) : w.heap.size ≤ gb101)); have n3_ := Aside0.mk ((by rw [hg]; exact (below_size (by repeat (first | (with_reducible first | exact HB.out | apply below_alloc | apply pw_below_drewN | apply below_drew1) | exact HB.out))) : w.heap.size ≤ gb101)); clear HB; have HB := n0_; have BK101 := n1_; have GW101 := n2_; have GE101 := n3_; clear n0_ n1_ n2_ n3_; clear hb hbox hg; have hcz4_0 : w3.cell? ⟨gb101, 0, none⟩ = some (.int .i64 a0_0) := (blk_cell BK101.out 0).trans rfl; have hcz4_1 : w3.cell? ⟨gb101, 1, none⟩ = some (.slice A0_1 l0_1.length c0_1) := (blk_cell BK101.out 1).trans rfl; have hcz4_2 : w3.cell? ⟨gb101, 2, none⟩ = some (.slice A0_2 l0_2.length c0_2) := (blk_cell BK101.out 2).trans rfl; have hcz4_3 : w3.cell? ⟨gb101, 3, none⟩ = some (.slice A0_3 l0_3.length c0_3) := (blk_cell BK101.out 3).trans rfl; have hcz4_4 : w3.cell? ⟨gb101, 4, none⟩ = some (.slice A0_4 l0_4.length c0_4) := (blk_cell BK101.out 4).trans rfl; have hfz4_0 := blk_frozen BK101.out 0; have hfz4_1 := blk_frozen BK101.out 1; have hfz4_2 := blk_frozen BK101.out 2; have hfz4_3 := blk_frozen BK101.out 3; have hfz4_4 := blk_frozen BK101.out 4))
    go_ret
    exact ⟨by first | rfl | (simp [errW_none, errW_some] <;> rfl) | (simp [*, errW_none, errW_some] <;> rfl), by repeat (first | (with_reducible first | exact HB.out | apply below_alloc | apply pw_below_drewN | apply below_drew1 | refine below_set ?_ GE101.out) | exact HB.out)⟩
  · rw [if_neg c2] at H
    have c2b0 : decide (60 < (l0_1.length : Int)) = false := decide_eq_false c2
    have c2b1 : decide (60 < l0_1.length) = false := decide_eq_false (by omega)
    clear c2
    by_cases c5 : (l0_2.length : Int) > 120
    · rw [if_pos c5] at H
      have c5b0 : decide (120 < (l0_2.length : Int)) = true := decide_eq_true c5
      have c5b1 : decide (120 < l0_2.length) = true := decide_eq_true (by omega)
      clear c5
      obtain rfl := Option.some.inj H
      go_enter Try.func10, Try.ntmps10
      go_wp2_with (first | ((with_reducible refine gate_dst (N := 1) rfl ?_); (try (refine gate_guard (by rfl) ?_; dsimp only)); refine box_event ?hg (N := 1) ?hd (cs := #[.int .i64 a0_0, .slice A0_1 l0_1.length c0_1, .slice A0_2 l0_2.length c0_2, .slice A0_3 l0_3.length c0_3, .slice A0_4 l0_4.length c0_4]) (t := 26) ?hr ?_; (case hd => rfl); (case hg => rfl); (case hr => first | (go_simp; done) | (go_simp; rfl)); intro gb101 hg w6 hbox hb; have n0_ := Aside0.mk (below_step (by repeat (first | (with_reducible first | exact HB.out | apply below_alloc | apply pw_below_drewN | apply below_drew1) | exact HB.out)) hb); have n1_ := Aside0.mk (hbox); have n2_ := Aside0.mk ((by rw [hg]; exact (below_size (by repeat (first | (with_reducible first | exact HB.out | apply below_alloc | apply pw_below_drewN | apply below_drew1) | exact HB.out))) : w.heap.size ≤ gb101)); have n3_ := Aside0.mk ((by rw [hg]; exact (below_size (by repeat (first | (with_reducible first | exact HB.out | apply below_alloc | apply pw_below_drewN | apply below_drew1) | exact HB.out))) : w.heap.size ≤ gb101)); clear HB; have HB := n0_; have BK101 := n1_; have GW101 := n2_; have GE101 := n3_; clear n0_ n1_ n2_ n3_; clear hb hbox hg; have hcz7_0 : w6.cell? ⟨gb101, 0, none⟩ = some (.int .i64 a0_0) := (blk_cell BK101.out 0).trans rfl; have hcz7_1 : w6.cell? ⟨gb101, 1, none⟩ = some (.slice A0_1 l0_1.length c0_1) := (blk_cell BK101.out 1).trans rfl; have hcz7_2 : w6.cell? ⟨gb101, 2, none⟩ = some (.slice A0_2 l0_2.length c0_2) := (blk_cell BK101.out 2).trans rfl; have hcz7_3 : w6.cell? ⟨gb101, 3, none⟩ = some (.slice A0_3 l0_3.length c0_3) := (blk_cell BK101.out 3).trans rfl; have hcz7_4 : w6.cell? ⟨gb101, 4, none⟩ = some (.slice A0_4 l0_4.length c0_4) := (blk_cell BK101.out 4).trans rfl; have hfz7_0 := blk_frozen BK101.out 0; have hfz7_1 := blk_frozen BK101.out 1; have hfz7_2 := blk_frozen BK101.out 2; have hfz7_3 := blk_frozen BK101.out 3; have hfz7_4 := blk_frozen BK101.out 4))
      go_ret
      exact ⟨by first | rfl | (simp [errW_none, errW_some] <;> rfl) | (simp [*, errW_none, errW_some] <;> rfl), by repeat (first | (with_reducible first | exact HB.out | apply below_alloc | apply pw_below_drewN | apply below_drew1 | refine below_set ?_ GE101.out) | exact HB.out)⟩
    · rw [if_neg c5] at H
      have c5b0 : decide (120 < (l0_2.length : Int)) = false := decide_eq_false c5
      have c5b1 : decide (120 < l0_2.length) = false := decide_eq_false (by omega)
      clear c5
      by_cases c8 : (l0_3.length : Int) > 110
      · rw [if_pos c8] at H
        have c8b0 : decide (110 < (l0_3.length : Int)) = true := decide_eq_true c8
        have c8b1 : decide (110 < l0_3.length) = true := decide_eq_true (by omega)
        clear c8
        obtain rfl := Option.some.inj H
        go_enter Try.func10, Try.ntmps10
        go_wp2_with (first | ((with_reducible refine gate_dst (N := 1) rfl ?_); (try (refine gate_guard (by rfl) ?_; dsimp only)); refine box_event ?hg (N := 1) ?hd (cs := #[.int .i64 a0_0, .slice A0_1 l0_1.length c0_1, .slice A0_2 l0_2.length c0_2, .slice A0_3 l0_3.length c0_3, .slice A0_4 l0_4.length c0_4]) (t := 26) ?hr ?_; (case hd => rfl); (case hg => rfl); (case hr => first | (go_simp; done) | (go_simp; rfl)); intro gb101 hg w9 hbox hb; have n0_ := Aside0.mk (below_step (by repeat (first | (with_reducible first | exact HB.out | apply below_alloc | apply pw_below_drewN | apply below_drew1) | exact HB.out)) hb); have n1_ := Aside0.mk (hbox); have n2_ := Aside0.mk ((by rw [hg]; exact (below_size (by repeat (first | (with_reducible first | exact HB.out | apply below_alloc | apply pw_below_drewN | apply below_drew1) | exact HB.out))) : w.heap.size ≤ gb101)); have n3_ := Aside0.mk ((by rw [hg]; exact (below_size (by repeat (first | (with_reducible first | exact HB.out | apply below_alloc | apply pw_below_drewN | apply below_drew1) | exact HB.out))) : w.heap.size ≤ gb101)); clear HB; have HB := n0_; have BK101 := n1_; have GW101 := n2_; have GE101 := n3_; clear n0_ n1_ n2_ n3_; clear hb hbox hg; have hcz10_0 : w9.cell? ⟨gb101, 0, none⟩ = some (.int .i64 a0_0) := (blk_cell BK101.out 0).trans rfl; have hcz10_1 : w9.cell? ⟨gb101, 1, none⟩ = some (.slice A0_1 l0_1.length c0_1) := (blk_cell BK101.out 1).trans rfl; have hcz10_2 : w9.cell? ⟨gb101, 2, none⟩ = some (.slice A0_2 l0_2.length c0_2) := (blk_cell BK101.out 2).trans rfl; have hcz10_3 : w9.cell? ⟨gb101, 3, none⟩ = some (.slice A0_3 l0_3.length c0_3) := (blk_cell BK101.out 3).trans rfl; have hcz10_4 : w9.cell? ⟨gb101, 4, none⟩ = some (.slice A0_4 l0_4.length c0_4) := (blk_cell BK101.out 4).trans rfl; have hfz10_0 := blk_frozen BK101.out 0; have hfz10_1 := blk_frozen BK101.out 1; have hfz10_2 := blk_frozen BK101.out 2; have hfz10_3 := blk_frozen BK101.out 3; have hfz10_4 := blk_frozen BK101.out 4))
        go_ret
        exact ⟨by first | rfl | (simp [errW_none, errW_some] <;> rfl) | (simp [*, errW_none, errW_some] <;> rfl), by repeat (first | (with_reducible first | exact HB.out | apply below_alloc | apply pw_below_drewN | apply below_drew1 | refine below_set ?_ GE101.out) | exact HB.out)⟩
      · rw [if_neg c8] at H
        have c8b0 : decide (110 < (l0_3.length : Int)) = false := decide_eq_false c8
        have c8b1 : decide (110 < l0_3.length) = false := decide_eq_false (by omega)
        clear c8
        by_cases c11 : (l0_4.length : Int) > 110
        · rw [if_pos c11] at H
          have c11b0 : decide (110 < (l0_4.length : Int)) = true := decide_eq_true c11
          have c11b1 : decide (110 < l0_4.length) = true := decide_eq_true (by omega)
          clear c11
          obtain rfl := Option.some.inj H
          go_enter Try.func10, Try.ntmps10
          go_wp2_with (first | ((with_reducible refine gate_dst (N := 1) rfl ?_); (try (refine gate_guard (by rfl) ?_; dsimp only)); refine box_event ?hg (N := 1) ?hd (cs := #[.int .i64 a0_0, .slice A0_1 l0_1.length c0_1, .slice A0_2 l0_2.length c0_2, .slice A0_3 l0_3.length c0_3, .slice A0_4 l0_4.length c0_4]) (t := 26) ?hr ?_; (case hd => rfl); (case hg => rfl); (case hr => first | (go_simp; done) | (go_simp; rfl)); intro gb101 hg w12 hbox hb; have n0_ := Aside0.mk (below_step (by repeat (first | (with_reducible first | exact HB.out | apply below_alloc | apply pw_below_drewN | apply below_drew1) | exact HB.out)) hb); have n1_ := Aside0.mk (hbox); have n2_ := Aside0.mk ((by rw [hg]; exact (below_size (by repeat (first | (with_reducible first | exact HB.out | apply below_alloc | apply pw_below_drewN | apply below_drew1) | exact HB.out))) : w.heap.size ≤ gb101)); have n3_ := Aside0.mk ((by rw [hg]; exact (below_size (by repeat (first | (with_reducible first | exact HB.out | apply below_alloc | apply pw_below_drewN | apply below_drew1) | exact HB.out))) : w.heap.size ≤ gb101)); clear HB; have HB := n0_; have BK101 := n1_; have GW101 := n2_; have GE101 := n3_; clear n0_ n1_ n2_ n3_; clear hb hbox hg; have hcz13_0 : w12.cell? ⟨gb101, 0, none⟩ = some (.int .i64 a0_0) := (blk_cell BK101.out 0).trans rfl; have hcz13_1 : w12.cell? ⟨gb101, 1, none⟩ = some (.slice A0_1 l0_1.length c0_1) := (blk_cell BK101.out 1).trans rfl; have hcz13_2 : w12.cell? ⟨gb101, 2, none⟩ = some (.slice A0_2 l0_2.length c0_2) := (blk_cell BK101.out 2).trans rfl; have hcz13_3 : w12.cell? ⟨gb101, 3, none⟩ = some (.slice A0_3 l0_3.length c0_3) := (blk_cell BK101.out 3).trans rfl; have hcz13_4 : w12.cell? ⟨gb101, 4, none⟩ = some (.slice A0_4 l0_4.length c0_4) := (blk_cell BK101.out 4).trans rfl; have hfz13_0 := blk_frozen BK101.out 0; have hfz13_1 := blk_frozen BK101.out 1; have hfz13_2 := blk_frozen BK101.out 2; have hfz13_3 := blk_frozen BK101.out 3; have hfz13_4 := blk_frozen BK101.out 4))
          go_ret
          exact ⟨by first | rfl | (simp [errW_none, errW_some] <;> rfl) | (simp [*, errW_none, errW_some] <;> rfl), by repeat (first | (with_reducible first | exact HB.out | apply below_alloc | apply pw_below_drewN | apply below_drew1 | refine below_set ?_ GE101.out) | exact HB.out)⟩
        · rw [if_neg c11] at H
          have c11b0 : decide (110 < (l0_4.length : Int)) = false := decide_eq_false c11
          have c11b1 : decide (110 < l0_4.length) = false := decide_eq_false (by omega)
          clear c11
          by_cases c14 : a0_0 > 40
          · rw [if_pos c14] at H
            have c14b0 : decide (40 < a0_0) = true := decide_eq_true c14
            clear c14
            obtain rfl := Option.some.inj H
            go_enter Try.func10, Try.ntmps10
            go_wp2_with (first | ((with_reducible refine gate_dst (N := 1) rfl ?_); (try (refine gate_guard (by rfl) ?_; dsimp only)); refine box_event ?hg (N := 1) ?hd (cs := #[.int .i64 a0_0, .slice A0_1 l0_1.length c0_1, .slice A0_2 l0_2.length c0_2, .slice A0_3 l0_3.length c0_3, .slice A0_4 l0_4.length c0_4]) (t := 26) ?hr ?_; (case hd => rfl); (case hg => rfl); (case hr => first | (go_simp; done) | (go_simp; rfl)); intro gb101 hg w15 hbox hb; have n0_ := Aside0.mk (below_step (by repeat (first | (with_reducible first | exact HB.out | apply below_alloc | apply pw_below_drewN | apply below_drew1) | exact HB.out)) hb); have n1_ := Aside0.mk (hbox); have n2_ := Aside0.mk ((by rw [hg]; exact (below_size (by repeat (first | (with_reducible first | exact HB.out | apply below_alloc | apply pw_below_drewN | apply below_drew1) | exact HB.out))) : w.heap.size ≤ gb101)); have n3_ := Aside0.mk ((by rw [hg]; exact (below_size (by repeat (first | (with_reducible first | exact HB.out | apply below_alloc | apply pw_below_drewN | apply below_drew1) | exact HB.out))) : w.heap.size ≤ gb101)); clear HB; have HB := n0_; have BK101 := n1_; have GW101 := n2_; have GE101 := n3_; clear n0_ n1_ n2_ n3_; clear hb hbox hg; have hcz16_0 : w15.cell? ⟨gb101, 0, none⟩ = some (.int .i64 a0_0) := (blk_cell BK101.out 0).trans rfl; have hcz16_1 : w15.cell? ⟨gb101, 1, none⟩ = some (.slice A0_1 l0_1.length c0_1) := (blk_cell BK101.out 1).trans rfl; have hcz16_2 : w15.cell? ⟨gb101, 2, none⟩ = some (.slice A0_2 l0_2.length c0_2) := (blk_cell BK101.out 2).trans rfl; have hcz16_3 : w15.cell? ⟨gb101, 3, none⟩ = some (.slice A0_3 l0_3.length c0_3) := (blk_cell BK101.out 3).trans rfl; have hcz16_4 : w15.cell? ⟨gb101, 4, none⟩ = some (.slice A0_4 l0_4.length c0_4) := (blk_cell BK101.out 4).trans rfl; have hfz16_0 := blk_frozen BK101.out 0; have hfz16_1 := blk_frozen BK101.out 1; have hfz16_2 := blk_frozen BK101.out 2; have hfz16_3 := blk_frozen BK101.out 3; have hfz16_4 := blk_frozen BK101.out 4))
            go_ret
            exact ⟨by first | rfl | (simp [errW_none, errW_some] <;> rfl) | (simp [*, errW_none, errW_some] <;> rfl), by repeat (first | (with_reducible first | exact HB.out | apply below_alloc | apply pw_below_drewN | apply below_drew1 | refine below_set ?_ GE101.out) | exact HB.out)⟩
          · rw [if_neg c14] at H
            have c14b0 : decide (40 < a0_0) = false := decide_eq_false c14
            clear c14
            obtain rfl := Option.some.inj H
            go_enter Try.func10, Try.ntmps10
            go_wp2_with (first | ((with_reducible refine gate_dst (N := 1) rfl ?_); (try (refine gate_guard (by rfl) ?_; dsimp only)); refine box_event ?hg (N := 1) ?hd (cs := #[.int .i64 a0_0, .slice A0_1 l0_1.length c0_1, .slice A0_2 l0_2.length c0_2, .slice A0_3 l0_3.length c0_3, .slice A0_4 l0_4.length c0_4]) (t := 26) ?hr ?_; (case hd => rfl); (case hg => rfl); (case hr => first | (go_simp; done) | (go_simp; rfl)); intro gb101 hg w17 hbox hb; have n0_ := Aside0.mk (below_step (by repeat (first | (with_reducible first | exact HB.out | apply below_alloc | apply pw_below_drewN | apply below_drew1) | exact HB.out)) hb); have n1_ := Aside0.mk (hbox); have n2_ := Aside0.mk ((by rw [hg]; exact (below_size (by repeat (first | (with_reducible first | exact HB.out | apply below_alloc | apply pw_below_drewN | apply below_drew1) | exact HB.out))) : w.heap.size ≤ gb101)); have n3_ := Aside0.mk ((by rw [hg]; exact (below_size (by repeat (first | (with_reducible first | exact HB.out | apply below_alloc | apply pw_below_drewN | apply below_drew1) | exact HB.out))) : w.heap.size ≤ gb101)); clear HB; have HB := n0_; have BK101 := n1_; have GW101 := n2_; have GE101 := n3_; clear n0_ n1_ n2_ n3_; clear hb hbox hg; have hcz18_0 : w17.cell? ⟨gb101, 0, none⟩ = some (.int .i64 a0_0) := (blk_cell BK101.out 0).trans rfl; have hcz18_1 : w17.cell? ⟨gb101, 1, none⟩ = some (.slice A0_1 l0_1.length c0_1) := (blk_cell BK101.out 1).trans rfl; have hcz18_2 : w17.cell? ⟨gb101, 2, none⟩ = some (.slice A0_2 l0_2.length c0_2) := (blk_cell BK101.out 2).trans rfl; have hcz18_3 : w17.cell? ⟨gb101, 3, none⟩ = some (.slice A0_3 l0_3.length c0_3) := (blk_cell BK101.out 3).trans rfl; have hcz18_4 : w17.cell? ⟨gb101, 4, none⟩ = some (.slice A0_4 l0_4.length c0_4) := (blk_cell BK101.out 4).trans rfl; have hfz18_0 := blk_frozen BK101.out 0; have hfz18_1 := blk_frozen BK101.out 1; have hfz18_2 := blk_frozen BK101.out 2; have hfz18_3 := blk_frozen BK101.out 3; have hfz18_4 := blk_frozen BK101.out 4))
            go_ret
            exact ⟨by first | rfl | (simp [errW_none, errW_some] <;> rfl) | (simp [*, errW_none, errW_some] <;> rfl), by repeat (first | (with_reducible first | exact HB.out | apply below_alloc | apply pw_below_drewN | apply below_drew1 | refine below_set ?_ GE101.out) | exact HB.out)⟩

/-! ### gates_Check: function 16, by hand -/
def st1 (a : Int) : Int := wrap64 (1 + a)
def st2 (a : Int) (m : Nat) : Int := wrap64 (st1 a + m)
def st3 (a : Int) (m n : Nat) : Int := wrap64 (st2 a m + n)
set_option maxHeartbeats 1000000 in
set_option maxRecDepth 100000 in
theorem starts_calls (a0 : Int) (A1 : Option Addr) (n1 c1 : Nat) (A2 : Option Addr) (n2 c2 : Nat) (A3 : Option Addr) (n3 c3 : Nat) (A4 : Option Addr) (n4 c4 : Nat) (w : World) :
    Calls Try.prog 29 #[.agg #[.int .i64 a0, .slice A1 n1 c1, .slice A2 n2 c2, .slice A3 n3 c3, .slice A4 n4 c4]] w fun e w' => e = .returned (.agg #[.int .i64 1, .int .i64 (st1 a0), .int .i64 (st2 a0 n1), .int .i64 (st3 a0 n1 n2)]) ∧ Below w.heap.size w w' := by
  go_enter Try.func29, Try.ntmps29
  go_wp2
  exact bodyPost_ret (v := .agg #[.int .i64 1, .int .i64 (wrap64 (1 + a0)), .int .i64 (wrap64 (wrap64 (1 + a0) + n1)), .int .i64 (wrap64 (wrap64 (wrap64 (1 + a0) + n1) + n2))]) (by simp [results, Try.results29, go_sem]) rfl ⟨rfl, below_alloc (below_alloc (Below.refl _ _) _) _⟩
def outS (s3 l : Int) : Bool := decide (l < 0) || decide (s3 ≤ l / 2)
set_option maxHeartbeats 1000000 in
set_option maxRecDepth 100000 in
theorem outside_calls (x s3 : Int) (B : Nat) (w : World) (h3 : w.cell? ⟨B, 3, none⟩ = some (.int .i64 s3)) :
    Calls Try.prog 30 #[.int .i64 x, .pointer (some ⟨B, 0, none⟩)] w fun e w' => e = .returned (.bool (outS s3 x)) ∧ Drawn0 w w' := by
  unfold outS
  by_cases h : x < 0
  · have hb : decide (x < 0) = true := by simp [h]
    go_enter Try.func30, Try.ntmps30
    go_wp2
    go_ret
    exact ⟨by simp [h], Drawn0.refl _⟩
  · have hb : decide (x < 0) = false := by simp [h]
    have h0 : 0 ≤ x := by omega
    go_enter Try.func30, Try.ntmps30
    go_wp2
    go_ret
    exact ⟨rfl, Drawn0.refl _⟩
def wrongS (s3 : Int) (x : S53) : Bool := outS s3 x.f0 || decide (x.f1 < 0) || decide (2 < x.f1)
set_option maxHeartbeats 1000000 in
set_option maxRecDepth 100000 in
theorem wrong_calls (x : S53) (s3 : Int) (B B2 : Nat) (w : World) (h3 : w.cell? ⟨B, 3, none⟩ = some (.int .i64 s3)) (h4 : w.cell? ⟨B2, 0, none⟩ = some (.func (.func 30) #[] #[.pointer (some ⟨B, 0, none⟩)])) (hB : B < w.heap.size) (hB2 : B2 < w.heap.size) :
    Calls Try.prog 31 #[.agg #[.int .i64 x.f0, .int .i64 x.f1], .pointer (some ⟨B2, 0, none⟩)] w fun e w' => e = .returned (.bool (wrongS s3 x)) ∧ Below w.heap.size w w' := by
  have hne : B ≠ w.heap.size := by omega
  have hne2 : B2 ≠ w.heap.size := by omega
  unfold wrongS
  generalize hx : outS s3 x.f0 = o
  have HX := Aside0.mk hx
  clear hx
  cases o with
  | true =>
    go_enter Try.func31, Try.ntmps31
    go_wp2_with (go_at_call 30; (with_reducible refine (outside_calls x.f0 s3 B _ ?c1).mono ?_); (case c1 => rw [World.cell?_alloc_lt _ _ _ hB]; exact h3); rw [HX.out]; rintro e w' ⟨rfl, ⟨nd, rfl⟩⟩)
    go_ret
    exact ⟨by simp, pw_below_drewN (below_alloc (Below.refl _ _) _) _⟩
  | false =>
    by_cases h : x.f1 < 0
    · have hb : decide (x.f1 < 0) = true := by simp [h]
      go_enter Try.func31, Try.ntmps31
      go_wp2_with (go_at_call 30; (with_reducible refine (outside_calls x.f0 s3 B _ ?c1).mono ?_); (case c1 => rw [World.cell?_alloc_lt _ _ _ hB]; exact h3); rw [HX.out]; rintro e w' ⟨rfl, ⟨nd, rfl⟩⟩)
      go_ret
      exact ⟨by simp [h], pw_below_drewN (below_alloc (Below.refl _ _) _) _⟩
    · have hb : decide (x.f1 < 0) = false := by simp [h]
      have h0 : 0 ≤ x.f1 := by omega
      go_enter Try.func31, Try.ntmps31
      go_wp2_with (go_at_call 30; (with_reducible refine (outside_calls x.f0 s3 B _ ?c1).mono ?_); (case c1 => rw [World.cell?_alloc_lt _ _ _ hB]; exact h3); rw [HX.out]; rintro e w' ⟨rfl, ⟨nd, rfl⟩⟩)
      go_ret
      exact ⟨by simp; omega, pw_below_drewN (below_alloc (Below.refl _ _) _) _⟩
def idxS {α : Type} (p : α → Bool) (l : List α) : Int := match l.findIdx? p with
  | some i => (i : Int)
  | none => -1
theorem idxS_any {α : Type} (p : α → Bool) (l : List α) : decide (0 ≤ idxS p l) = l.any p := by
  unfold idxS
  cases h : l.findIdx? p with
  | none =>
    rw [List.findIdx?_eq_none_iff] at h
    have : l.any p = false := List.any_eq_false.2 (fun x hx => by simp [h x hx])
    rw [this]; rfl
  | some i =>
    obtain ⟨hi, hp, _⟩ := List.findIdx?_eq_some_iff_getElem.1 h
    have : l.any p = true := List.any_eq_true.2 ⟨_, List.getElem_mem hi, hp⟩
    rw [this]; simp
theorem idxS_none {α : Type} (p : α → Bool) (l : List α) (h : l.any p = false) : idxS p l = -1 := by
  have := idxS_any p l
  rw [h] at this
  unfold idxS at this ⊢
  split
  · rename_i i hi; rw [hi] at this; simp at this
  · rfl
theorem idxS_some {α : Type} (p : α → Bool) (l : List α) (d : α) (i : Nat) (hi : i < l.length) (h : (l.take i).any p = false) (hp : p (l.getD i d) = true) : idxS p l = i := by
  have hd : l.getD i d = l[i] := by simp [List.getD, hi]
  have : l.findIdx? p = some i := by
    rw [List.findIdx?_eq_some_iff_getElem]
    refine ⟨hi, by rw [← hd]; exact hp, fun j hj => ?_⟩
    have := List.any_eq_false.1 h l[j] (List.mem_take_iff_getElem.2 ⟨j, by omega, rfl⟩)
    simpa using this
  unfold idxS
  rw [this]
theorem any_take_succ {α : Type} (p : α → Bool) (l : List α) (d : α) (i : Nat) (hi : i < l.length) (h : (l.take i).any p = false) (hp : p (l.getD i d) = false) : (l.take (i + 1)).any p = false := by
  have hd : l.getD i d = l[i] := by simp [List.getD, hi]
  have he : p l[i] = false := by rw [← hd]; exact hp
  rw [List.take_succ_eq_append_getElem hi, List.any_append, h]
  simp [he]
set_option maxHeartbeats 2000000 in
set_option maxRecDepth 100000 in
theorem indexInts_calls (A0 : Option Addr) (c0 : Nat) (l0 : List Int) (p : Int → Bool) (B : Nat) (w : World) (hr : Kd.C (Kd.int .i64) w A0 l0.length l0)
    (hp : ∀ (x : Int) (W : World), Drawn0 w W → Calls Try.prog 30 #[.int .i64 x, .pointer (some ⟨B, 0, none⟩)] W fun e w' => e = .returned (.bool (p x)) ∧ Drawn0 W w') :
    Calls Try.prog 42 #[.slice A0 l0.length c0, .func (.func 30) #[] #[.pointer (some ⟨B, 0, none⟩)]] w fun e w' => e = .returned (.int .i64 (idxS p l0)) ∧ Drawn0 w w' := by
  have HR := Aside0.mk hr
  have HP := Aside0.mk hp
  have HN := Aside0.mk hr.2.1
  clear hr hp
  go_enter Try.func42, Try.ntmps42
  go_wp2
  go_loopg [8] (l0.length + 1) (fun kq v8 w' => ∃ (i : Nat), v8 = .int .i64 (i : Int) ∧ Aside0 (i ≤ l0.length ∧ kq + i = l0.length + 1 ∧ (l0.take i).any p = false) ∧ Aside0 (Drawn0 w w'))
  case atStart => exact ⟨0, by simp, ⟨by omega, by omega, by simp⟩, ⟨Drawn0.refl _⟩⟩
  case round =>
    obtain ⟨i, rfl, HI, HD⟩ := hrel
    by_cases c : i < l0.length
    · have cb : decide (i < l0.length) = true := decide_eq_true c
      have p0 : (0 : Int) ≤ (i : Int) := by omega
      have q0 : (i : Int) < (l0.length : Int) := by omega
      obtain ⟨⟨n1, rfl⟩⟩ := HD.out
      obtain ⟨ad, rfl, hx⟩ := Kd.at_int HR.out (i : Int) p0 q0
      have hx' : w.cell? (ad.add i) = some (.int .i64 (rd l0 i)) := hx
      clear hx
      have HL := HN.out
      generalize hv : p (rd l0 i) = b
      have HV := Aside0.mk hv
      clear hv
      cases b with
      | true =>
        go_wp2_with (go_at_call 30; (with_reducible refine (HP.out (rd l0 i) _ ?c1).mono ?_); (case c1 => exact ⟨⟨n1, rfl⟩⟩); rw [HV.out]; rintro e w' ⟨rfl, ⟨nd, rfl⟩⟩)
        go_ret
        exact ⟨by simp [idxS_some p l0 0 i c HI.out.2.2 HV.out], ⟨⟨_, rfl⟩⟩⟩
      | false =>
        go_wp2_with (go_at_call 30; (with_reducible refine (HP.out (rd l0 i) _ ?c1).mono ?_); (case c1 => exact ⟨⟨n1, rfl⟩⟩); rw [HV.out]; rintro e w' ⟨rfl, ⟨nd, rfl⟩⟩)
        go_roundg (gk - 1)
        case rel => exact ⟨i + 1, by go_num, ⟨by omega, by have := HI.out; omega, any_take_succ p l0 0 i c HI.out.2.2 HV.out⟩, ⟨⟨⟨_, rfl⟩⟩⟩⟩
        case measure => have := HI.out; omega
    · have cb : decide (i < l0.length) = false := decide_eq_false c
      obtain ⟨⟨n1, rfl⟩⟩ := HD.out
      go_wp2
      go_ret
      have hz : (l0.take i).any p = false := HI.out.2.2
      rw [List.take_of_length_le (by omega)] at hz
      exact ⟨by simp [idxS_none p l0 hz], ⟨⟨_, rfl⟩⟩⟩
set_option maxHeartbeats 1000000 in
set_option maxRecDepth 100000 in
theorem containsInts_calls (A0 : Option Addr) (c0 : Nat) (l0 : List Int) (p : Int → Bool) (B : Nat) (w : World) (hr : Kd.C (Kd.int .i64) w A0 l0.length l0)
    (hp : ∀ (x : Int) (W : World), Drawn0 w W → Calls Try.prog 30 #[.int .i64 x, .pointer (some ⟨B, 0, none⟩)] W fun e w' => e = .returned (.bool (p x)) ∧ Drawn0 W w') :
    Calls Try.prog 32 #[.slice A0 l0.length c0, .func (.func 30) #[] #[.pointer (some ⟨B, 0, none⟩)]] w fun e w' => e = .returned (.bool (l0.any p)) ∧ Drawn0 w w' := by
  have HP := Aside0.mk hp
  have HR := Aside0.mk hr
  have HA := Aside0.mk (idxS_any p l0)
  clear hp hr
  go_enter Try.func32, Try.ntmps32
  go_wp2_with (go_at_call 42; (with_reducible refine (indexInts_calls A0 c0 l0 p B w HR.out HP.out).mono ?_); rintro e w' ⟨rfl, ⟨nd, rfl⟩⟩)
  go_ret
  exact ⟨by simp [HA.out], ⟨⟨_, rfl⟩⟩⟩
theorem at_T53n {w : World} {A : Option Addr} {n : Nat} {xs : List S53} (h : Kd.C k53 w A n xs) (i : Nat) (h1 : i < n) : ∃ ad, A = some ad ∧ w.cell? (ad.add (i * 2)) = some (.int .i64 (rd_T53 xs i).f0) ∧ w.cell? ⟨(ad.add (i * 2)).block, (ad.add (i * 2)).off + 1, none⟩ = some (.int .i64 (rd_T53 xs i).f1) := by
  obtain ⟨ad, e, hx, hy⟩ := at_T53 h (i : Int) (by omega) (by omega)
  exact ⟨ad, e, hx, hy⟩
set_option maxHeartbeats 2000000 in
set_option maxRecDepth 100000 in
theorem indexLatches_calls (A0 : Option Addr) (c0 : Nat) (l0 : List S53) (p : S53 → Bool) (B : Nat) (w : World) (hr : Kd.C k53 w A0 l0.length l0)
    (hp : ∀ (x : S53) (W : World), Below w.heap.size w W → Calls Try.prog 31 #[.agg #[.int .i64 x.f0, .int .i64 x.f1], .pointer (some ⟨B, 0, none⟩)] W fun e w' => e = .returned (.bool (p x)) ∧ Below W.heap.size W w') :
    Calls Try.prog 43 #[.slice A0 l0.length c0, .func (.func 31) #[] #[.pointer (some ⟨B, 0, none⟩)]] w fun e w' => e = .returned (.int .i64 (idxS p l0)) ∧ Below w.heap.size w w' := by
  have HR := Aside0.mk hr
  have HP := Aside0.mk hp
  have HN := Aside0.mk hr.2.1
  have hu53 := Try.underlying53
  clear hr hp
  go_enter Try.func43, Try.ntmps43
  go_wp2
  go_loopg [8] (l0.length + 1) (fun kq v8 w' => ∃ (i : Nat), v8 = .int .i64 (i : Int) ∧ Aside0 (i ≤ l0.length ∧ kq + i = l0.length + 1 ∧ (l0.take i).any p = false) ∧ Aside0 (Below w.heap.size w w'))
  case atStart => exact ⟨0, by simp, ⟨by omega, by omega, by simp⟩, ⟨Below.refl _ _⟩⟩
  case round =>
    obtain ⟨i, rfl, HI, HD⟩ := hrel
    by_cases c : i < l0.length
    · have cb : decide (i < l0.length) = true := decide_eq_true c
      have p0 : (0 : Int) ≤ (i : Int) := by omega
      have q0 : (i : Int) < (l0.length : Int) := by omega
      obtain ⟨ad, rfl, hx, hy⟩ := at_T53n (Kd.C_below HR.out HD.out) i c
      have HL := HN.out
      generalize hv : p (rd_T53 l0 i) = b
      have HV := Aside0.mk hv
      clear hv
      cases b with
      | true =>
        go_wp2_with (go_at_call 31; (with_reducible refine (HP.out (rd_T53 l0 i) _ HD.out).mono ?_); rw [HV.out]; rintro e w' ⟨rfl, hb⟩)
        go_ret
        exact ⟨by simp [idxS_some p l0 z53 i c HI.out.2.2 HV.out], below_step HD.out hb⟩
      | false =>
        go_wp2_with (go_at_call 31; (with_reducible refine (HP.out (rd_T53 l0 i) _ HD.out).mono ?_); rw [HV.out]; rintro e w' ⟨rfl, hb⟩; have HB2 := Aside0.mk (below_step HD.out hb); clear hb)
        go_roundg (gk - 1)
        case rel => exact ⟨i + 1, by go_num, ⟨by omega, by have := HI.out; omega, any_take_succ p l0 z53 i c HI.out.2.2 HV.out⟩, HB2⟩
        case measure => have := HI.out; omega
    · have cb : decide (i < l0.length) = false := decide_eq_false c
      go_wp2
      go_ret
      have hz : (l0.take i).any p = false := HI.out.2.2
      rw [List.take_of_length_le (by omega)] at hz
      exact ⟨by simp [idxS_none p l0 hz], HD.out⟩
set_option maxHeartbeats 1000000 in
set_option maxRecDepth 100000 in
theorem containsLatches_calls (A0 : Option Addr) (c0 : Nat) (l0 : List S53) (p : S53 → Bool) (B : Nat) (w : World) (hr : Kd.C k53 w A0 l0.length l0)
    (hp : ∀ (x : S53) (W : World), Below w.heap.size w W → Calls Try.prog 31 #[.agg #[.int .i64 x.f0, .int .i64 x.f1], .pointer (some ⟨B, 0, none⟩)] W fun e w' => e = .returned (.bool (p x)) ∧ Below W.heap.size W w') :
    Calls Try.prog 33 #[.slice A0 l0.length c0, .func (.func 31) #[] #[.pointer (some ⟨B, 0, none⟩)]] w fun e w' => e = .returned (.bool (l0.any p)) ∧ Below w.heap.size w w' := by
  have HP := Aside0.mk hp
  have HR := Aside0.mk hr
  have HA := Aside0.mk (idxS_any p l0)
  clear hp hr
  go_enter Try.func33, Try.ntmps33
  go_wp2_with (go_at_call 43; (with_reducible refine (indexLatches_calls A0 c0 l0 p B w HR.out HP.out).mono ?_); rintro e w' ⟨rfl, hb⟩)
  go_ret
  exact ⟨by simp [HA.out], hb⟩
theorem outP {W : World} {gs : Nat} {a b c : Value} {s3 : Int} (hs : W.heap[gs]? = some (.cells #[a, b, c, .int .i64 s3] 55 (0, 0))) (x : Int) (W' : World) (hd : Drawn0 W W') :
    Calls Try.prog 30 #[.int .i64 x, .pointer (some ⟨gs, 0, none⟩)] W' fun e w' => e = .returned (.bool (outS s3 x)) ∧ Drawn0 W' w' := by
  obtain ⟨⟨n, rfl⟩⟩ := hd
  exact outside_calls x s3 gs _ (blk_cell (blk_drewN hs n) 3)
theorem wrongP {W : World} {gs go : Nat} {a b c : Value} {s3 : Int} (hs : W.heap[gs]? = some (.cells #[a, b, c, .int .i64 s3] 55 (0, 0))) (ho : W.heap[go]? = some (.cells #[.func (.func 30) #[] #[.pointer (some ⟨gs, 0, none⟩)]] 58 (0, 0)))
    (x : S53) (W' : World) (hb : Below W.heap.size W W') :
    Calls Try.prog 31 #[.agg #[.int .i64 x.f0, .int .i64 x.f1], .pointer (some ⟨go, 0, none⟩)] W' fun e w' => e = .returned (.bool (wrongS s3 x)) ∧ Below W'.heap.size W' w' :=
  wrong_calls x s3 gs go W' (blk_cell (blk_below hs hb) 3) (blk_cell (blk_below ho hb) 0) (blk_lt (blk_below hs hb)) (blk_lt (blk_below ho hb))
theorem at_T50n {w : World} {A : Option Addr} {n : Nat} {xs : List S50} (h : Kd.C k50 w A n xs) (i : Nat) (h1 : i < n) : ∃ ad, A = some ad ∧ w.cell? (ad.add (i * 2)) = some (.int .i64 (rd_T50 xs i).f0) ∧ w.cell? ⟨(ad.add (i * 2)).block, (ad.add (i * 2)).off + 1, none⟩ = some (.int .i64 (rd_T50 xs i).f1) := by
  obtain ⟨ad, e, hx, hy⟩ := at_T50 h (i : Int) (by omega) (by omega)
  exact ⟨ad, e, hx, hy⟩
theorem arr3 (x0 x1 x2 x3 : Value) (w : World) : (Instr.index 55 (.agg #[x0, x1, x2, x3]) (.int .i64 3)).run Try.prog w = .ok x3 w := by kernel_rfl
theorem arr2 (x0 x1 x2 x3 : Value) (w : World) : (Instr.index 55 (.agg #[x0, x1, x2, x3]) (.int .i64 2)).run Try.prog w = .ok x2 w := by kernel_rfl
def gateBad (s2 : Int) (i : Nat) (g : S50) : Bool := decide (g.f1 < 0) || decide (g.f0 < g.f1) || decide (wrap64 (2 * wrap64 (s2 + i)) ≤ g.f0)
def gatesBad (s2 : Int) (l : List S50) : Bool := (List.range l.length).any fun i => gateBad s2 i (rd_T50 l i)
def gates_Check.f (a0_0 : Int) (l0_1 : List S53) (l0_2 : List S50) (l0_3 : List Int) (l0_4 : List Int) : Option Int :=
  some (if a0_0 < 0 then 8 else if a0_0 > 1000 then 4 else if wrap64 (st3 a0_0 l0_1.length l0_2.length - 1) > 1000 then 4 else if (if (l0_3.length : Int) < (l0_4.length : Int) then (l0_4.length : Int) else (l0_3.length : Int)) > 100 then 4
    else if l0_3.any (outS (st3 a0_0 l0_1.length l0_2.length)) = true then 8 else if l0_4.any (outS (st3 a0_0 l0_1.length l0_2.length)) = true then 8 else if l0_1.any (wrongS (st3 a0_0 l0_1.length l0_2.length)) = true then 8
    else if gatesBad (st2 a0_0 l0_1.length) l0_2 = true then 8 else 0)
set_option maxHeartbeats 4000000 in
set_option maxRecDepth 100000 in
theorem gates_Check.calls (a0_0 : Int) (A0_1 : Option Addr) (c0_1 : Nat) (l0_1 : List S53) (A0_2 : Option Addr) (c0_2 : Nat) (l0_2 : List S50) (A0_3 : Option Addr) (c0_3 : Nat) (l0_3 : List Int) (A0_4 : Option Addr) (c0_4 : Nat) (l0_4 : List Int) (r : Int) (w : World) (hr0_1 : Kd.C k53 w A0_1 l0_1.length l0_1) (hc0_1 : l0_1.length ≤ c0_1) (hr0_2 : Kd.C k50 w A0_2 l0_2.length l0_2) (hc0_2 : l0_2.length ≤ c0_2) (hr0_3 : Kd.C (Kd.int .i64) w A0_3 l0_3.length l0_3) (hc0_3 : l0_3.length ≤ c0_3) (hr0_4 : Kd.C (Kd.int .i64) w A0_4 l0_4.length l0_4) (hc0_4 : l0_4.length ≤ c0_4) (h : gates_Check.f a0_0 l0_1 l0_2 l0_3 l0_4 = some r) :
    Calls Try.prog 16 #[.agg #[.int .i64 a0_0, .slice A0_1 l0_1.length c0_1, .slice A0_2 l0_2.length c0_2, .slice A0_3 l0_3.length c0_3, .slice A0_4 l0_4.length c0_4]] w fun e w' => e = .returned (.int .i64 r) ∧ Below w.heap.size w w' := by
  have hu26 := Try.underlying26
  have hu50 := Try.underlying50
  have hu55 := Try.underlying55
  have ha3 := arr3
  have HR0_1 := Aside0.mk hr0_1
  have HR0_2 := Aside0.mk hr0_2
  have HR0_3 := Aside0.mk hr0_3
  have HR0_4 := Aside0.mk hr0_4
  clear hr0_1 hr0_2 hr0_3 hr0_4 hc0_1 hc0_2 hc0_3 hc0_4
  unfold gates_Check.f at h
  replace h := Option.some.inj h
  by_cases c1 : a0_0 < 0
  · rw [if_pos c1] at h
    have b1 : decide (a0_0 < 0) = true := decide_eq_true c1
    clear c1
    have H := Aside0.mk h
    clear h
    go_enter Try.func16, Try.ntmps16
    go_wp2
    go_ret
    exact ⟨by simp [← H.out], below_alloc (Below.refl _ _) _⟩
  have b1 : decide (a0_0 < 0) = false := decide_eq_false c1
  rw [if_neg c1] at h
  by_cases c2 : a0_0 > 1000
  · rw [if_pos c2] at h
    have b2 : decide (1000 < a0_0) = true := decide_eq_true c2
    clear c1 c2
    have H := Aside0.mk h
    clear h
    go_enter Try.func16, Try.ntmps16
    go_wp2
    go_ret
    exact ⟨by simp [← H.out], below_alloc (Below.refl _ _) _⟩
  rw [if_neg c2] at h
  have b2 : decide (1000 < a0_0) = false := decide_eq_false c2
  obtain ⟨s3, hs3⟩ : ∃ s, st3 a0_0 l0_1.length l0_2.length = s := ⟨_, rfl⟩
  rw [hs3] at h
  have HS := Aside0.mk hs3
  clear hs3
  by_cases c3 : wrap64 (s3 - 1) > 1000
  · rw [if_pos c3] at h
    have b3 : decide (1000 < wrap64 (s3 - 1)) = true := decide_eq_true c3
    clear c1 c2 c3
    have H := Aside0.mk h
    clear h
    go_enter Try.func16, Try.ntmps16
    go_wp2_with (go_at_call 29; (with_reducible refine (starts_calls a0_0 _ l0_1.length _ _ l0_2.length _ _ l0_3.length _ _ l0_4.length _ _).mono ?_); rw [HS.out]; rintro e w' ⟨rfl, hb⟩; have HB := Aside0.mk (below_step (below_alloc (Below.refl _ _) _) hb); have BK := Aside0.mk (blk_below (blk_new w (.cells #[.int .i64 a0_0, .slice A0_1 l0_1.length c0_1, .slice A0_2 l0_2.length c0_2, .slice A0_3 l0_3.length c0_3, .slice A0_4 l0_4.length c0_4] 26)) hb); have k1 := blk_cell BK.out 1; have k2 := blk_cell BK.out 2; have k3 := blk_cell BK.out 3; have k4 := blk_cell BK.out 4; have k0 := blk_cell BK.out 0; simp only [List.getElem?_toArray, List.getElem?_cons_succ, List.getElem?_cons_zero] at k0 k1 k2 k3 k4; clear hb)
    go_ret
    exact ⟨by simp [← H.out], HB.out⟩
  rw [if_neg c3] at h
  have b3 : decide (1000 < wrap64 (s3 - 1)) = false := decide_eq_false c3
  obtain ⟨m, hm⟩ : ∃ m : Int, (if (l0_3.length : Int) < (l0_4.length : Int) then (l0_4.length : Int) else (l0_3.length : Int)) = m := ⟨_, rfl⟩
  rw [hm] at h
  have hm' : (if l0_3.length < l0_4.length then (l0_4.length : Int) else (l0_3.length : Int)) = m := by rw [← hm]; split <;> split <;> omega
  by_cases c4 : m > 100
  · rw [if_pos c4] at h
    have b4 : decide (100 < m) = true := decide_eq_true c4
    clear c1 c2 c3 c4
    have H := Aside0.mk h
    clear h
    go_enter Try.func16, Try.ntmps16
    go_wp2_with (go_at_call 29; (with_reducible refine (starts_calls a0_0 _ l0_1.length _ _ l0_2.length _ _ l0_3.length _ _ l0_4.length _ _).mono ?_); rw [HS.out]; rintro e w' ⟨rfl, hb⟩; have HB := Aside0.mk (below_step (below_alloc (Below.refl _ _) _) hb); have BK := Aside0.mk (blk_below (blk_new w (.cells #[.int .i64 a0_0, .slice A0_1 l0_1.length c0_1, .slice A0_2 l0_2.length c0_2, .slice A0_3 l0_3.length c0_3, .slice A0_4 l0_4.length c0_4] 26)) hb); have k1 := blk_cell BK.out 1; have k2 := blk_cell BK.out 2; have k3 := blk_cell BK.out 3; have k4 := blk_cell BK.out 4; have k0 := blk_cell BK.out 0; simp only [List.getElem?_toArray, List.getElem?_cons_succ, List.getElem?_cons_zero] at k0 k1 k2 k3 k4; clear hb)
    go_ret
    exact ⟨by simp [← H.out], HB.out⟩
  rw [if_neg c4] at h
  have b4 : decide (100 < m) = false := decide_eq_false c4
  clear c1 c2 c3 c4
  have H := Aside0.mk h
  clear h
  go_enter Try.func16, Try.ntmps16
  go_upto_region 5 with (go_at_call 29; (with_reducible refine (starts_calls a0_0 _ l0_1.length _ _ l0_2.length _ _ l0_3.length _ _ l0_4.length _ _).mono ?_); rw [HS.out]; rintro e w1 ⟨rfl, hb⟩; have HB := Aside0.mk (below_step (below_alloc (Below.refl _ _) _) hb); have BK := Aside0.mk (blk_below (blk_new w (.cells #[.int .i64 a0_0, .slice A0_1 l0_1.length c0_1, .slice A0_2 l0_2.length c0_2, .slice A0_3 l0_3.length c0_3, .slice A0_4 l0_4.length c0_4] 26)) hb); have k1 := blk_cell BK.out 1; have k2 := blk_cell BK.out 2; have k3 := blk_cell BK.out 3; have k4 := blk_cell BK.out 4; have k0 := blk_cell BK.out 0; simp only [List.getElem?_toArray, List.getElem?_cons_succ, List.getElem?_cons_zero] at k0 k1 k2 k3 k4; clear hb)
  go_upto_region 8 with (go_at_call 29; (with_reducible refine (starts_calls a0_0 _ l0_1.length _ _ l0_2.length _ _ l0_3.length _ _ l0_4.length _ _).mono ?_); rw [HS.out]; rintro e w2 ⟨rfl, hb⟩; have HB2 := Aside0.mk (below_step HB.out hb); have BK2 := Aside0.mk (blk_below BK.out hb); clear BK HB k0 k1 k2 k3 k4; have k1 := blk_cell BK2.out 1; have k2 := blk_cell BK2.out 2; have k3 := blk_cell BK2.out 3; have k4 := blk_cell BK2.out 4; have k0 := blk_cell BK2.out 0; simp only [List.getElem?_toArray, List.getElem?_cons_succ, List.getElem?_cons_zero] at k0 k1 k2 k3 k4; clear hb)
  obtain ⟨W, hW⟩ : ∃ W : World, ((w2.alloc (.cells #[.int .i64 1, .int .i64 (st1 a0_0), .int .i64 (st2 a0_0 l0_1.length), .int .i64 s3] 55)).alloc (.cells #[.func (.func 30) #[] #[.pointer (some ⟨w2.heap.size, 0, none⟩)]] 58)) = W := ⟨_, rfl⟩
  have BS : W.heap[w2.heap.size]? = some (.cells #[.int .i64 1, .int .i64 (st1 a0_0), .int .i64 (st2 a0_0 l0_1.length), .int .i64 s3] 55 (0, 0)) := by rw [← hW]; exact blk_alloc (blk_new _ _) _
  have BO : W.heap[w2.heap.size + 1]? = some (.cells #[.func (.func 30) #[] #[.pointer (some ⟨w2.heap.size, 0, none⟩)]] 58 (0, 0)) := by rw [← hW]; exact (by simp : (w2.alloc (.cells #[.int .i64 1, .int .i64 (st1 a0_0), .int .i64 (st2 a0_0 l0_1.length), .int .i64 s3] 55)).heap.size = w2.heap.size + 1) ▸ blk_new _ _
  have HB3 : Aside0 (Below w.heap.size w W) := ⟨by rw [← hW]; exact below_alloc (below_alloc HB2.out _) _⟩
  have BK3 : W.heap[w.heap.size]? = some (.cells #[.int .i64 a0_0, .slice A0_1 l0_1.length c0_1, .slice A0_2 l0_2.length c0_2, .slice A0_3 l0_3.length c0_3, .slice A0_4 l0_4.length c0_4] 26) := by rw [← hW]; exact blk_alloc (blk_alloc BK2.out _) _
  rw [hW]
  clear hW k0 k1 k2 k3 k4 BK2 HB2
  generalize w2.heap.size = gs at BS BO ⊢
  generalize gs + 1 = go at BO ⊢
  have k1 := blk_cell BK3 1
  have k2 := blk_cell BK3 2
  have k3 := blk_cell BK3 3
  have k4 := blk_cell BK3 4
  have q0 := blk_cell BO 0
  simp only [List.getElem?_toArray, List.getElem?_cons_succ, List.getElem?_cons_zero] at k1 k2 k3 k4 q0
  have BS := Aside0.mk BS
  have BO := Aside0.mk BO
  have BK3 := Aside0.mk BK3
  clear w1 w2
  generalize h5 : l0_3.any (outS s3) = y5 at H
  have C5 := Aside0.mk h5
  clear h5
  cases y5 with
  | true =>
    go_wp2_with (go_at_call 32; ((with_reducible refine (containsInts_calls _ _ l0_3 (outS s3) gs _ ?c1 ?c2).mono ?_); (case c1 => exact Kd.C_below HR0_3.out HB3.out); (case c2 => exact outP BS.out); rw [C5.out]; rintro e w' ⟨rfl, ⟨nd, rfl⟩⟩))
    go_ret
    exact ⟨by simp [← H.out], pw_below_drewN HB3.out _⟩
  | false =>
  generalize h6 : l0_4.any (outS s3) = y6 at H
  have C6 := Aside0.mk h6
  clear h6
  cases y6 with
  | true =>
    go_wp2_with (go_at_call 32; (first | ((with_reducible refine (containsInts_calls _ _ l0_3 (outS s3) gs _ ?c1 ?c2).mono ?_); (case c1 => exact Kd.C_below HR0_3.out HB3.out); (case c2 => exact outP BS.out); rw [C5.out]; rintro e w' ⟨rfl, ⟨nd, rfl⟩⟩) | ((with_reducible refine (containsInts_calls _ _ l0_4 (outS s3) gs _ ?c3 ?c4).mono ?_); (case c3 => exact Kd.C_below HR0_4.out (pw_below_drewN HB3.out _)); (case c4 => exact outP (blk_drewN BS.out _)); rw [C6.out]; rintro e w' ⟨rfl, ⟨nd2, rfl⟩⟩)))
    go_ret
    exact ⟨by simp [← H.out], pw_below_drewN HB3.out _⟩
  | false =>
  generalize h7 : l0_1.any (wrongS s3) = y7 at H
  have C7 := Aside0.mk h7
  clear h7
  cases y7 with
  | true =>
    go_wp2_with (first | (go_at_call 32; (first | ((with_reducible refine (containsInts_calls _ _ l0_3 (outS s3) gs _ ?c1 ?c2).mono ?_); (case c1 => exact Kd.C_below HR0_3.out HB3.out); (case c2 => exact outP BS.out); rw [C5.out]; rintro e w' ⟨rfl, ⟨nd, rfl⟩⟩) | ((with_reducible refine (containsInts_calls _ _ l0_4 (outS s3) gs _ ?c3 ?c4).mono ?_); (case c3 => exact Kd.C_below HR0_4.out (pw_below_drewN HB3.out _)); (case c4 => exact outP (blk_drewN BS.out _)); rw [C6.out]; rintro e w' ⟨rfl, ⟨nd2, rfl⟩⟩))) | (go_at_call 33; (with_reducible refine (containsLatches_calls _ _ l0_1 (wrongS s3) go _ ?c5 ?c6).mono ?_); (case c5 => exact Kd.C_below HR0_1.out (pw_below_drewN HB3.out _)); (case c6 => exact wrongP (blk_drewN BS.out _) (blk_drewN BO.out _)); rw [C7.out]; rintro e w7 ⟨rfl, hb⟩; have HB7 := Aside0.mk (below_step (pw_below_drewN HB3.out _) hb); have BS7 := Aside0.mk (blk_below (blk_drewN BS.out _) hb); have j2 := blk_cell (blk_below (blk_drewN BK3.out _) hb) 2; simp only [List.getElem?_toArray, List.getElem?_cons_succ, List.getElem?_cons_zero] at j2; clear hb))
    go_ret
    exact ⟨by simp [← H.out], HB7.out⟩
  | false =>
    go_upto_region 10 with (first | (go_at_call 32; (first | ((with_reducible refine (containsInts_calls _ _ l0_3 (outS s3) gs _ ?c1 ?c2).mono ?_); (case c1 => exact Kd.C_below HR0_3.out HB3.out); (case c2 => exact outP BS.out); rw [C5.out]; rintro e w' ⟨rfl, ⟨nd, rfl⟩⟩) | ((with_reducible refine (containsInts_calls _ _ l0_4 (outS s3) gs _ ?c3 ?c4).mono ?_); (case c3 => exact Kd.C_below HR0_4.out (pw_below_drewN HB3.out _)); (case c4 => exact outP (blk_drewN BS.out _)); rw [C6.out]; rintro e w' ⟨rfl, ⟨nd2, rfl⟩⟩))) | (go_at_call 33; (with_reducible refine (containsLatches_calls _ _ l0_1 (wrongS s3) go _ ?c5 ?c6).mono ?_); (case c5 => exact Kd.C_below HR0_1.out (pw_below_drewN HB3.out _)); (case c6 => exact wrongP (blk_drewN BS.out _) (blk_drewN BO.out _)); rw [C7.out]; rintro e w7 ⟨rfl, hb⟩; have HB7 := Aside0.mk (below_step (pw_below_drewN HB3.out _) hb); have BS7 := Aside0.mk (blk_below (blk_drewN BS.out _) hb); have j2 := blk_cell (blk_below (blk_drewN BK3.out _) hb) 2; simp only [List.getElem?_toArray, List.getElem?_cons_succ, List.getElem?_cons_zero] at j2; clear hb))
    clear k1 k2 k3 k4 q0
    have H8 : (if gatesBad (st2 a0_0 l0_1.length) l0_2 = true then (8 : Int) else 0) = r := H.out
    have H := Aside0.mk H8
    clear H8
    have HN := HR0_2.out.2.1
    go_wp2
    go_loopg [54] (l0_2.length + 1) (fun kq v54 w' => ∃ (i : Nat), v54 = .int .i64 (i : Int) ∧ Aside0 (i ≤ l0_2.length ∧ kq + i = l0_2.length + 1 ∧ ((List.range i).any fun q => gateBad (st2 a0_0 l0_1.length) q (rd_T50 l0_2 q)) = false) ∧ Aside0 (Below w.heap.size w w') ∧ Aside0 (w'.heap[gs]? = some (.cells #[.int .i64 1, .int .i64 (st1 a0_0), .int .i64 (st2 a0_0 l0_1.length), .int .i64 s3] 55 (0, 0))))
    case atStart => exact ⟨0, by simp, ⟨by omega, by omega, by simp⟩, HB7, BS7⟩
    case round =>
      clear HB7 BS7 j2
      obtain ⟨i, rfl, HI, HB7, BS7⟩ := hrel
      by_cases c : i < l0_2.length
      · have cb : decide (i < l0_2.length) = true := decide_eq_true c
        obtain ⟨ad, rfl, hx, hy⟩ := at_T50n (Kd.C_below HR0_2.out HB7.out) i c
        have z2 := blk_cell BS7.out 2
        simp only [List.getElem?_toArray, List.getElem?_cons_succ, List.getElem?_cons_zero] at z2
        have hgs := blk_lt BS7.out
        have hne := Nat.ne_of_lt hgs
        by_cases d1 : (rd_T50 l0_2 i).f1 < 0
        · have e1 : decide ((rd_T50 l0_2 i).f1 < 0) = true := decide_eq_true d1
          have HG : gatesBad (st2 a0_0 l0_1.length) l0_2 = true := List.any_eq_true.2 ⟨i, List.mem_range.2 c, by simp [gateBad, d1]⟩
          have H9 : 8 = r := by have := H.out; rw [if_pos HG] at this; exact this
          have H9 := Aside0.mk H9
          clear HG H d1
          go_wp2
          go_ret
          exact ⟨by simp [← H9.out], below_alloc HB7.out _⟩
        have e1 : decide ((rd_T50 l0_2 i).f1 < 0) = false := decide_eq_false d1
        by_cases d2 : (rd_T50 l0_2 i).f0 < (rd_T50 l0_2 i).f1
        · have e2 : decide ((rd_T50 l0_2 i).f0 < (rd_T50 l0_2 i).f1) = true := decide_eq_true d2
          have HG : gatesBad (st2 a0_0 l0_1.length) l0_2 = true := List.any_eq_true.2 ⟨i, List.mem_range.2 c, by simp [gateBad, d2]⟩
          have H9 : 8 = r := by have := H.out; rw [if_pos HG] at this; exact this
          have H9 := Aside0.mk H9
          clear HG H d1 d2
          go_wp2
          go_ret
          exact ⟨by simp [← H9.out], below_alloc HB7.out _⟩
        have e2 : decide ((rd_T50 l0_2 i).f0 < (rd_T50 l0_2 i).f1) = false := decide_eq_false d2
        by_cases d3 : wrap64 (2 * wrap64 (st2 a0_0 l0_1.length + i)) ≤ (rd_T50 l0_2 i).f0
        · have e3 : decide (wrap64 (2 * wrap64 (st2 a0_0 l0_1.length + i)) ≤ (rd_T50 l0_2 i).f0) = true := decide_eq_true d3
          have HG : gatesBad (st2 a0_0 l0_1.length) l0_2 = true := List.any_eq_true.2 ⟨i, List.mem_range.2 c, by simp [gateBad, d3]⟩
          have H9 : 8 = r := by have := H.out; rw [if_pos HG] at this; exact this
          have H9 := Aside0.mk H9
          clear HG H d1 d2 d3
          go_wp2
          go_ret
          exact ⟨by simp [← H9.out], below_alloc HB7.out _⟩
        have e3 : decide (wrap64 (2 * wrap64 (st2 a0_0 l0_1.length + i)) ≤ (rd_T50 l0_2 i).f0) = false := decide_eq_false d3
        have HI2 : Aside0 (((List.range (i + 1)).any fun q => gateBad (st2 a0_0 l0_1.length) q (rd_T50 l0_2 q)) = false) := ⟨by
          rw [List.range_succ, List.any_append, HI.out.2.2]
          simp only [List.any_cons, List.any_nil, Bool.or_false, Bool.false_or, gateBad, e1, e2, e3]⟩
        clear d1 d2 d3
        go_wp2
        go_roundg (gk - 1)
        case rel => exact ⟨i + 1, by go_num, ⟨by omega, by have := HI.out; omega, HI2.out⟩, ⟨below_alloc HB7.out _⟩, ⟨blk_alloc BS7.out _⟩⟩
        case measure => have := HI.out; omega
      · have cb : decide (i < l0_2.length) = false := decide_eq_false c
        go_wp2
        go_ret
        have hz := HI.out.2.2
        have hl := HI.out.1
        have he : i = l0_2.length := by omega
        subst he
        have H9 := H.out
        rw [if_neg (show ¬ gatesBad (st2 a0_0 l0_1.length) l0_2 = true by unfold gatesBad; rw [hz]; decide)] at H9
        exact ⟨by simp [← H9], HB7.out⟩

/-! ### gates_Vars: function 12, by hand -/
def gates_Vars.f (a0_0 : Int) (l0_1 : List S53) (l0_2 : List S50) (l0_3 : List Int) (l0_4 : List Int) : Option (Int × Int) :=
  (gates_Check.f a0_0 l0_1 l0_2 l0_3 l0_4).bind fun e => if e = 0 then some (wrap64 (st3 a0_0 l0_1.length l0_2.length - 1), 0) else some (0, e)
set_option maxHeartbeats 4000000 in
set_option maxRecDepth 100000 in
theorem gates_Vars.calls (a0_0 : Int) (A0_1 : Option Addr) (c0_1 : Nat) (l0_1 : List S53) (A0_2 : Option Addr) (c0_2 : Nat) (l0_2 : List S50) (A0_3 : Option Addr) (c0_3 : Nat) (l0_3 : List Int) (A0_4 : Option Addr) (c0_4 : Nat) (l0_4 : List Int) (r1 r2 : Int) (w : World) (hr0_1 : Kd.C k53 w A0_1 l0_1.length l0_1) (hc0_1 : l0_1.length ≤ c0_1) (hr0_2 : Kd.C k50 w A0_2 l0_2.length l0_2) (hc0_2 : l0_2.length ≤ c0_2) (hr0_3 : Kd.C (Kd.int .i64) w A0_3 l0_3.length l0_3) (hc0_3 : l0_3.length ≤ c0_3) (hr0_4 : Kd.C (Kd.int .i64) w A0_4 l0_4.length l0_4) (hc0_4 : l0_4.length ≤ c0_4) (h : gates_Vars.f a0_0 l0_1 l0_2 l0_3 l0_4 = some (r1, r2)) :
    Calls Try.prog 12 #[.agg #[.int .i64 a0_0, .slice A0_1 l0_1.length c0_1, .slice A0_2 l0_2.length c0_2, .slice A0_3 l0_3.length c0_3, .slice A0_4 l0_4.length c0_4]] w fun e w' => e = .returned (.tuple #[.int .i64 r1, .int .i64 r2]) ∧ Below w.heap.size w w' := by
  have hu26 := Try.underlying26
  have hu50 := Try.underlying50
  have hu55 := Try.underlying55
  have ha3 := arr3
  have HR0_1 := Aside0.mk hr0_1
  have HR0_2 := Aside0.mk hr0_2
  have HR0_3 := Aside0.mk hr0_3
  have HR0_4 := Aside0.mk hr0_4
  have HC0_1 := Aside0.mk hc0_1
  have HC0_2 := Aside0.mk hc0_2
  have HC0_3 := Aside0.mk hc0_3
  have HC0_4 := Aside0.mk hc0_4
  clear hr0_1 hr0_2 hr0_3 hr0_4 hc0_1 hc0_2 hc0_3 hc0_4
  unfold gates_Vars.f at h
  obtain ⟨e0, he, h⟩ := Option.bind_eq_some_iff.mp h
  have HE := Aside0.mk he
  clear he
  by_cases c : e0 = 0
  · rw [if_pos c] at h
    simp only [Option.some.injEq, Prod.mk.injEq] at h
    obtain ⟨rfl, rfl⟩ := h
    have b : (e0 != 0) = false := bne_eq_false_iff_eq.mpr c
    clear c
    go_enter Try.func12, Try.ntmps12
    go_wp2_with (first | (go_at_call 16; (with_reducible refine (gates_Check.calls a0_0 _ _ l0_1 _ _ l0_2 _ _ l0_3 _ _ l0_4 e0 _ ?s1 ?s2 ?s3 ?s4 ?s5 ?s6 ?s7 ?s8 HE.out).mono ?_); (case s1 => exact Kd.C_below HR0_1.out (below_alloc (Below.refl _ _) _)); (case s2 => exact HC0_1.out); (case s3 => exact Kd.C_below HR0_2.out (below_alloc (Below.refl _ _) _)); (case s4 => exact HC0_2.out); (case s5 => exact Kd.C_below HR0_3.out (below_alloc (Below.refl _ _) _)); (case s6 => exact HC0_3.out); (case s7 => exact Kd.C_below HR0_4.out (below_alloc (Below.refl _ _) _)); (case s8 => exact HC0_4.out); rintro e w1 ⟨rfl, hb⟩; have HB := Aside0.mk (below_step (below_alloc (Below.refl _ _) _) hb); have BK := Aside0.mk (blk_below (blk_new w (.cells #[.int .i64 a0_0, .slice A0_1 l0_1.length c0_1, .slice A0_2 l0_2.length c0_2, .slice A0_3 l0_3.length c0_3, .slice A0_4 l0_4.length c0_4] 26)) hb); have k1 := blk_cell BK.out 1; have k2 := blk_cell BK.out 2; have k3 := blk_cell BK.out 3; have k4 := blk_cell BK.out 4; have k0 := blk_cell BK.out 0; simp only [List.getElem?_toArray, List.getElem?_cons_succ, List.getElem?_cons_zero] at k0 k1 k2 k3 k4; clear hb) | (go_at_call 29; (with_reducible refine (starts_calls a0_0 _ l0_1.length _ _ l0_2.length _ _ l0_3.length _ _ l0_4.length _ _).mono ?_); rintro e w2 ⟨rfl, hb⟩; have HB2 := Aside0.mk (below_step HB.out hb); clear hb))
    go_ret2
    exact ⟨by simp, HB2.out⟩
  · rw [if_neg c] at h
    simp only [Option.some.injEq, Prod.mk.injEq] at h
    obtain ⟨rfl, rfl⟩ := h
    have b : (e0 != 0) = true := bne_iff_ne.mpr c
    clear c
    go_enter Try.func12, Try.ntmps12
    go_wp2_with (first | (go_at_call 16; (with_reducible refine (gates_Check.calls a0_0 _ _ l0_1 _ _ l0_2 _ _ l0_3 _ _ l0_4 e0 _ ?s1 ?s2 ?s3 ?s4 ?s5 ?s6 ?s7 ?s8 HE.out).mono ?_); (case s1 => exact Kd.C_below HR0_1.out (below_alloc (Below.refl _ _) _)); (case s2 => exact HC0_1.out); (case s3 => exact Kd.C_below HR0_2.out (below_alloc (Below.refl _ _) _)); (case s4 => exact HC0_2.out); (case s5 => exact Kd.C_below HR0_3.out (below_alloc (Below.refl _ _) _)); (case s6 => exact HC0_3.out); (case s7 => exact Kd.C_below HR0_4.out (below_alloc (Below.refl _ _) _)); (case s8 => exact HC0_4.out); rintro e w1 ⟨rfl, hb⟩; have HB := Aside0.mk (below_step (below_alloc (Below.refl _ _) _) hb); have BK := Aside0.mk (blk_below (blk_new w (.cells #[.int .i64 a0_0, .slice A0_1 l0_1.length c0_1, .slice A0_2 l0_2.length c0_2, .slice A0_3 l0_3.length c0_3, .slice A0_4 l0_4.length c0_4] 26)) hb); have k1 := blk_cell BK.out 1; have k2 := blk_cell BK.out 2; have k3 := blk_cell BK.out 3; have k4 := blk_cell BK.out 4; have k0 := blk_cell BK.out 0; simp only [List.getElem?_toArray, List.getElem?_cons_succ, List.getElem?_cons_zero] at k0 k1 k2 k3 k4; clear hb) | (go_at_call 29; (with_reducible refine (starts_calls a0_0 _ l0_1.length _ _ l0_2.length _ _ l0_3.length _ _ l0_4.length _ _).mono ?_); rintro e w2 ⟨rfl, hb⟩; have HB2 := Aside0.mk (below_step HB.out hb); clear hb))
    go_ret2
    exact ⟨by simp, HB.out⟩

/-! ### lits_check: function 44 -/
def lits_check.l0 : Nat → List Int → Int → Int → Option (Int)
  | 0, _, _, _ => none
  | k + 1, x5, x6, x7 => if x7 < x6 then (if 0 ≤ x7 then (if x7 < (x5.length : Int) then (if (rd x5 x7) < 0 then (some 2) else (if (rd x5 x7) > 2001 then (some 2) else (lits_check.l0 k x5 x6 (wrap64 (x7 + 1))))) else (none)) else (none)) else (some 0)
def lits_check.f (k : Nat) (l0 : List Int) : Option (Int) := lits_check.l0 k l0 (l0.length : Int) 0
theorem lits_check.mono_l : ∀ k, (∀ y0 y1 y2, LeO (lits_check.l0 k y0 y1 y2) (lits_check.l0 (k + 1) y0 y1 y2))
  | 0 => fun _ _ _ r h => by simp [lits_check.l0] at h
  | k + 1 => by
    have ih0 := lits_check.mono_l k
    · intro y0 y1 y2
      unfold lits_check.l0
      repeat' first
      | (with_reducible exact ih0 _ _ _)
      | (with_reducible exact LeO.refl _)
      | (with_reducible exact LeO.none _)
      | (with_reducible refine LeO.ite ?_ ?_)
      | (with_reducible refine LeO.bind ?_ (fun _ => ?_))
      | exact ih0 _ _ _
      | exact LeO.none _
      | refine LeO.ite ?_ ?_
      | refine LeO.bind ?_ (fun _ => ?_)
theorem lits_check.mono : ∀ a0 k, LeO (lits_check.f k a0) (lits_check.f (k + 1) a0) := by
  intro a0 k
  have ih0 := lits_check.mono_l k
  unfold lits_check.f
  repeat' first
      | (with_reducible exact ih0 _ _ _)
      | (with_reducible exact LeO.refl _)
      | (with_reducible exact LeO.none _)
      | (with_reducible refine LeO.ite ?_ ?_)
      | (with_reducible refine LeO.bind ?_ (fun _ => ?_))
      | exact ih0 _ _ _
      | exact LeO.none _
      | refine LeO.ite ?_ ?_
      | refine LeO.bind ?_ (fun _ => ?_)
set_option maxHeartbeats 8000000 in
set_option maxRecDepth 100000 in
theorem lits_check.calls (k : Nat) (A0 : Option Addr) (c0 : Nat) (l0 : List Int) (r : Int) (w : World) (hr0 : Kd.C (Kd.int .i64) w A0 l0.length l0) (hc0 : l0.length ≤ c0) (h : lits_check.f k l0 = some r) :
    Calls Try.prog 44 #[.slice A0 l0.length c0] w fun e w' => e = .returned (.int .i64 r) ∧ Drawn0 w w' := by
  have HR0 := Aside0.mk hr0
  have HC0 := Aside0.mk hc0
  clear hr0 hc0
  have H : (lits_check.l0 k l0 (l0.length : Int) 0) = some r := h
  clear h
  have H' := Aside0.mk H
  clear H
  go_enter Try.func44, Try.ntmps44
  go_wp2
  go_loopg [7] k (fun kq v7 w' => ∃ (x7_1 : Int), v7 = .int .i64 x7_1 ∧ Aside0 (lits_check.l0 kq l0 (l0.length : Int) x7_1 = some r) ∧ Aside0 (kq ≤ k) ∧ Drawn0 w w')
  case atStart => exact ⟨(0), (by first | rfl | (simp; done) | (simp [*]; done)), H', ⟨Nat.le_refl _⟩, by repeat (first | exact Drawn0.refl _ | apply Drawn0.step)⟩
  case round =>
    clear H'
    obtain ⟨x7_1, rfl, HA, HK1, ⟨m1, rfl⟩⟩ := hrel
    cases gk with
    | zero => exact absurd HA.out (by simp [lits_check.l0])
    | succ k1 =>
      have H := HA.out
      clear HA
      simp only [lits_check.l0] at H
      by_cases c2 : x7_1 < (l0.length : Int)
      · rw [if_pos c2] at H
        have c2b0 : decide (x7_1 < (l0.length : Int)) = true := decide_eq_true c2
        clear c2
        by_cases c3 : 0 ≤ x7_1
        · rw [if_pos c3] at H
          have c3b0 : decide (0 ≤ x7_1) = true := decide_eq_true c3
          clear c3
          by_cases c4 : x7_1 < (l0.length : Int)
          · rw [if_pos c4] at H
            have c4b0 : decide (x7_1 < (l0.length : Int)) = true := decide_eq_true c4
            clear c4
            by_cases c5 : (rd l0 x7_1) < 0
            · rw [if_pos c5] at H
              have c5b0 : decide ((rd l0 x7_1) < 0) = true := decide_eq_true c5
              clear c5
              obtain rfl := Option.some.inj H
              have p102 : 0 ≤ (x7_1 : Int) := of_decide_eq_true (by first | (with_reducible assumption) | assumption)
              have q102 : x7_1 < (l0.length : Int) := of_decide_eq_true (by first | (with_reducible assumption) | assumption)
              obtain ⟨ad102, e102, hx102_0⟩ := Kd.at_int HR0.out x7_1 p102 q102
              cases e102
              replace p102 := eq_true p102
              replace q102 := eq_true q102
              go_wp2
              go_ret
              exact ⟨by first | rfl | (simp; done) | (simp [*]; done), by repeat (first | exact Drawn0.refl _ | apply Drawn0.step)⟩
            · rw [if_neg c5] at H
              have c5b0 : decide ((rd l0 x7_1) < 0) = false := decide_eq_false c5
              clear c5
              by_cases c6 : (rd l0 x7_1) > 2001
              · rw [if_pos c6] at H
                have c6b0 : decide (2001 < (rd l0 x7_1)) = true := decide_eq_true c6
                clear c6
                obtain rfl := Option.some.inj H
                have p102 : 0 ≤ (x7_1 : Int) := of_decide_eq_true (by first | (with_reducible assumption) | assumption)
                have q102 : x7_1 < (l0.length : Int) := of_decide_eq_true (by first | (with_reducible assumption) | assumption)
                obtain ⟨ad102, e102, hx102_0⟩ := Kd.at_int HR0.out x7_1 p102 q102
                cases e102
                replace p102 := eq_true p102
                replace q102 := eq_true q102
                go_wp2
                go_ret
                exact ⟨by first | rfl | (simp; done) | (simp [*]; done), by repeat (first | exact Drawn0.refl _ | apply Drawn0.step)⟩
              · rw [if_neg c6] at H
                have c6b0 : decide (2001 < (rd l0 x7_1)) = false := decide_eq_false c6
                clear c6
                have H' := Aside0.mk H
                clear H
                have p102 : 0 ≤ (x7_1 : Int) := of_decide_eq_true (by first | (with_reducible assumption) | assumption)
                have q102 : x7_1 < (l0.length : Int) := of_decide_eq_true (by first | (with_reducible assumption) | assumption)
                obtain ⟨ad102, e102, hx102_0⟩ := Kd.at_int HR0.out x7_1 p102 q102
                cases e102
                replace p102 := eq_true p102
                replace q102 := eq_true q102
                go_wp2
                go_roundg k1
                case measure => have := HK1.out; omega
                case rel => exact ⟨(wrap64 (x7_1 + 1)), (by first | rfl | (simp; done) | (simp [*]; done)), H', ⟨by have := HK1.out; omega⟩, by repeat (first | exact Drawn0.refl _ | apply Drawn0.step)⟩
          · rw [if_neg c4] at H
            exact absurd H (by simp)
        · rw [if_neg c3] at H
          exact absurd H (by simp)
      · rw [if_neg c2] at H
        have c2b0 : decide (x7_1 < (l0.length : Int)) = false := decide_eq_false c2
        clear c2
        obtain rfl := Option.some.inj H
        go_wp2
        go_ret
        exact ⟨by first | rfl | (simp; done) | (simp [*]; done), by repeat (first | exact Drawn0.refl _ | apply Drawn0.step)⟩

/-! ### lits_Var: function 35 -/
def lits_Var.f (k : Nat) (a0 : Int) : Option (Int × Bool × Int) := (lits_check.f k (([a0] : List Int))).bind fun t106 => (if t106 = 0 then (some (a0 / 2, ((Go.bits .and .i64 a0 1) == 1), 0)) else (some (0, false, t106)))
theorem lits_Var.mono : ∀ a0 k, LeO (lits_Var.f k a0) (lits_Var.f (k + 1) a0) := by
  intro a0 k
  unfold lits_Var.f
  repeat' first
      | (with_reducible exact lits_check.mono _ _)
      | (with_reducible exact LeO.refl _)
      | (with_reducible exact LeO.none _)
      | (with_reducible refine LeO.ite ?_ ?_)
      | (with_reducible refine LeO.bind ?_ (fun _ => ?_))
      | exact lits_check.mono _ _
      | exact LeO.none _
      | refine LeO.ite ?_ ?_
      | refine LeO.bind ?_ (fun _ => ?_)
set_option maxHeartbeats 8000000 in
set_option maxRecDepth 100000 in
theorem lits_Var.calls (k : Nat) (a0 : Int) (r1 : Int) (r2 : Bool) (r3 : Int) (w : World) (h : lits_Var.f k a0 = some (r1, r2, r3)) :
    Calls Try.prog 35 #[.int .i64 a0] w fun e w' => e = .returned (.tuple #[.int .i64 r1, .bool r2, .int .i64 r3]) ∧ Below w.heap.size w w' := by
  have HB := Aside0.mk (Below.refl w.heap.size w)
  have H : ((lits_check.f k (([a0] : List Int))).bind fun t106 => (if t106 = 0 then (some (a0 / 2, ((Go.bits .and .i64 a0 1) == 1), 0)) else (some (0, false, t106)))) = some (r1, r2, r3) := h
  clear h
  obtain ⟨y103, hy103⟩ : ∃ y_ : List Int, y_ = (([a0] : List Int)) := ⟨_, rfl⟩
  replace H : ((lits_check.f k y103).bind fun t106 => (if t106 = 0 then (some (a0 / 2, ((Go.bits .and .i64 a0 1) == 1), 0)) else (some (0, false, t106)))) = some (r1, r2, r3) := by first | (rw [hy103]; with_reducible exact H) | (have H2_ := (Option.bind_some _ _).symm.trans H; rw [hy103]; with_reducible exact H2_) | (have H2_ := (Option.bind_some _ _).symm.trans H; with_reducible exact H2_) | with_reducible exact H | (rw [hy103]; exact H) | exact H
  have Ny103 := Aside0.mk hy103
  clear hy103
  replace H := Option.bind_eq_some_iff.mp H
  obtain ⟨t106, A20, H⟩ := H
  replace H : (if t106 = 0 then (some (a0 / 2, ((Go.bits .and .i64 a0 1) == 1), 0)) else (some (0, false, t106))) = some (r1, r2, r3) := H
  have A2 := Aside0.mk A20
  clear A20
  by_cases c3 : t106 = 0
  · rw [if_pos c3] at H
    have c3b0 : (t106 == 0) = true := beq_iff_eq.mpr c3
    have c3b1 : (t106 != 0) = false := bne_eq_false_iff_eq.mpr c3
    clear c3
    simp only [Option.some.injEq, Prod.mk.injEq] at H
    obtain ⟨rfl, rfl, rfl⟩ := H
    go_enter Try.func35, Try.ntmps35
    go_wp2_with (first | ((with_reducible refine gate_dst (N := 7) rfl ?_); refine Kd.R_lit (Kd.int .i64) _ 3 ?hg (N := 7) ?hd (xs := ([a0] : List Int)) (inner := [.int .i64 a0]) (ok := fun _ => True) (okp := fun _ => True) ?hr ?hp (fun _ hk => hk) trivial (Below.refl _ _) (Nat.le_refl _) (by simp) ?_; (case hd => rfl); (case hg => rfl); (case hr => first | (go_simp; done) | (go_simp; rfl)); (case hp => exact (Reps.one (show Kd.M (Kd.int .i64) _ _ _ a0 [.int .i64 a0] from rfl) (Reps.none _ _))); intro v104 w4 ho5 hb hg_ hnew_; clear hg_ hnew_; (first | rw [← Ny103.out] at ho5 | (simp only [Int.reduceToNat] at ho5; rw [← Ny103.out] at ho5)); have n0_ := Aside0.mk (Kd.R_lower ho5 (below_size (by repeat (first | (with_reducible first | exact HB.out | apply below_alloc | apply pw_below_drewN | apply below_drew1) | exact HB.out)))); have n1_ := Aside0.mk (below_step (by repeat (first | (with_reducible first | exact HB.out | apply below_alloc | apply pw_below_drewN | apply below_drew1) | exact HB.out)) hb); clear HB; have HO105 := n0_; have HB := n1_; clear n0_ n1_; clear hb ho5; obtain ⟨Ao6, co6, eo6⟩ := Kd.R_slice HO105.out; subst eo6) | ((with_reducible refine gate_callee (f := 44) rfl ?_); refine goesL_ (some 8) rfl rfl Try.func44 (by kernel_rfl) rfl #[.slice Ao6 y103.length co6] rfl (by (try simp only [List.map_toArray, List.map_cons, List.map_nil]); first | done | rfl | (simp only [List.length_drop, List.length_take]; rfl)) ?_; (with_reducible refine (lits_check.calls k _ _ y103 t106 _ ?side1 ?side2 A2.out).mono ?_); (case side1 => repeat (first | exact (Kd.R_reads' HO105.out).2.2 | (with_reducible refine Kd.C_alloc ?_ _) | (with_reducible refine Kd.C_drewN ?_ _) | (with_reducible refine Kd.C_drew ?_))); (case side2 => exact (Kd.R_reads' HO105.out).2.1); rintro e w' ⟨rfl, ⟨nd, rfl⟩⟩; refine ⟨_, rfl, ?_⟩))
    go_ret3
    exact ⟨by first | rfl | (simp [errW_none, errW_some] <;> rfl) | (simp [*, errW_none, errW_some] <;> rfl), by repeat (first | (with_reducible first | exact HB.out | apply below_alloc | apply pw_below_drewN | apply below_drew1) | exact HB.out)⟩
  · rw [if_neg c3] at H
    have c3b0 : (t106 == 0) = false := beq_eq_false_iff_ne.mpr c3
    have c3b1 : (t106 != 0) = true := bne_iff_ne.mpr c3
    simp only [Option.some.injEq, Prod.mk.injEq] at H
    obtain ⟨rfl, rfl, rfl⟩ := H
    go_enter Try.func35, Try.ntmps35
    go_wp2_with (first | ((with_reducible refine gate_dst (N := 7) rfl ?_); refine Kd.R_lit (Kd.int .i64) _ 3 ?hg (N := 7) ?hd (xs := ([a0] : List Int)) (inner := [.int .i64 a0]) (ok := fun _ => True) (okp := fun _ => True) ?hr ?hp (fun _ hk => hk) trivial (Below.refl _ _) (Nat.le_refl _) (by simp) ?_; (case hd => rfl); (case hg => rfl); (case hr => first | (go_simp; done) | (go_simp; rfl)); (case hp => exact (Reps.one (show Kd.M (Kd.int .i64) _ _ _ a0 [.int .i64 a0] from rfl) (Reps.none _ _))); intro v104 w7 ho8 hb hg_ hnew_; clear hg_ hnew_; (first | rw [← Ny103.out] at ho8 | (simp only [Int.reduceToNat] at ho8; rw [← Ny103.out] at ho8)); have n0_ := Aside0.mk (Kd.R_lower ho8 (below_size (by repeat (first | (with_reducible first | exact HB.out | apply below_alloc | apply pw_below_drewN | apply below_drew1) | exact HB.out)))); have n1_ := Aside0.mk (below_step (by repeat (first | (with_reducible first | exact HB.out | apply below_alloc | apply pw_below_drewN | apply below_drew1) | exact HB.out)) hb); clear HB; have HO105 := n0_; have HB := n1_; clear n0_ n1_; clear hb ho8; obtain ⟨Ao9, co9, eo9⟩ := Kd.R_slice HO105.out; subst eo9) | ((with_reducible refine gate_callee (f := 44) rfl ?_); refine goesL_ (some 8) rfl rfl Try.func44 (by kernel_rfl) rfl #[.slice Ao9 y103.length co9] rfl (by (try simp only [List.map_toArray, List.map_cons, List.map_nil]); first | done | rfl | (simp only [List.length_drop, List.length_take]; rfl)) ?_; (with_reducible refine (lits_check.calls k _ _ y103 t106 _ ?side1 ?side2 A2.out).mono ?_); (case side1 => repeat (first | exact (Kd.R_reads' HO105.out).2.2 | (with_reducible refine Kd.C_alloc ?_ _) | (with_reducible refine Kd.C_drewN ?_ _) | (with_reducible refine Kd.C_drew ?_))); (case side2 => exact (Kd.R_reads' HO105.out).2.1); rintro e w' ⟨rfl, ⟨nd, rfl⟩⟩; refine ⟨_, rfl, ?_⟩))
    go_ret3
    exact ⟨by first | rfl | (simp [errW_none, errW_some] <;> rfl) | (simp [*, errW_none, errW_some] <;> rfl), by repeat (first | (with_reducible first | exact HB.out | apply below_alloc | apply pw_below_drewN | apply below_drew1) | exact HB.out)⟩

/-! ### slices_Sort_int_int: function 38, by hand -/
/-- The numbers of a list in increasing order. -/
def sortI (l : List Int) : List Int := l.mergeSort fun x y => decide (x ≤ y)
theorem encs_map {α : Type} (enc : α → Value) (l : List α) : encs enc l = l.map enc := by simp [encs]
def slices_Sort_int_int.f (l0 : List Int) : Option (List Int) := if l0.length ≤ 1000000000 then some (sortI l0) else none
theorem slices_Sort_int_int.calls (P0_ : Nat → Prop) (u9000_ : Value) (l0 : List Int) (r : List Int) (w0 w : World) (hB : Below w0.heap.size w0 w) (ho0 : Kd.R (Kd.int .i64) 3 w w0.heap.size P0_ u9000_ l0) (h : slices_Sort_int_int.f l0 = some r) :
    Calls Try.prog 38 #[u9000_] w fun e w' => e = .returned (.tuple #[]) ∧ Kd.R (Kd.int .i64) 3 w' w0.heap.size (fun k_ => (P0_ k_ ∨ w.heap.size ≤ k_)) u9000_ r ∧ Below w0.heap.size w0 w' ∧ Kept w w' (fun k_ => P0_ k_) := by
  unfold slices_Sort_int_int.f at h
  split at h
  · rename_i hb
    obtain rfl := Option.some.inj h
    clear h
    have ho := Kd.own_of_R ho0
    rw [encs_map] at ho
    rcases ho.2 with ⟨rfl, hn⟩ | ⟨g, cap, cur, rfl, hg, hh, h1, h2, h3, h4⟩
    · have hn0 : l0.length = 0 := hn
      have hn := List.eq_nil_of_length_eq_zero hn0
      subst hn
      refine (Try.slices_Sort_int_none none 0 w).mono ?_
      rintro e w' ⟨rfl, rfl⟩
      exact ⟨rfl, Kd.R_mono (by simpa [sortI] using ho0) (fun _ hk => .inl hk), hB, Kept.refl _ _⟩
    · have hlt : g < w.heap.size := (Array.getElem?_eq_some_iff.1 hh).1
      rw [Nat.mul_one] at h4
      refine (Try.slices_Sort_int g 0 cap l0 w (holds_of_blockI hh h4) hlt (by omega)).mono ?_
      rintro e w' ⟨rfl, n, os, rfl⟩
      have hl : (sortI l0).length = l0.length := by simp [sortI]
      have hw := ownsRow_sortedI (n := n) (os := os) hl hg hh h1 h2 h3
      have hgr : w.grownBy (Sort.grow (Sort.putRow (Value.int .i64) (Sort.ahead w n) g 0 (sortI l0).toArray) os) (some g) := grownBy_sortedI (sortI l0).toArray
      refine ⟨rfl, Kd.R_of_own (by rw [encs_map, hl]; exact hw) (fun k hk => .inl (ho0.1 k hk)), pw_below_grown hB (some g) hB.size hgr (fun k e => by cases e; exact hg), Kept.of_grown hgr (Kept.refl _ _) (fun k e => by cases e; exact .inl (ho0.1 _ rfl))⟩
  · simp at h

end Go.Proofs.Ytnllcdihmpdhhaa.QGatesCones
