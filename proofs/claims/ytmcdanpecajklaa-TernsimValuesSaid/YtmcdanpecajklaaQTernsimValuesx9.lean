-- Made by wip/myprint.sh (a patched print): a text of this session's own.
import Derived.Test.YtmcdanpecajklaaLay
import Derived.Test.YtmcdanpecajklaaQTernsimValuesx0
import Derived.Test.YtmcdanpecajklaaQTernsimValuesx3
namespace Go.Proofs.Ytmcdanpecajklaa.QTernsimValues
open Go.RowKit Go.Proofs.YtmcdanpecajklaaW.PrintWords Go.Proofs.YtmcdanpecajklaaW.PrintLast Go.Proofs.YtmcdanpecajklaaW.PrintMore
attribute [local go_sem] max2_int min2_int max_two min_two max_three min_three max_four min_four
set_option linter.unusedVariables false
set_option linter.unusedSimpArgs false

mutual
def preds_Check.j0 : Nat → Int → Bool → List (S69) → Int → Option (Int)
 | 0, _, _, _, _ => none
 | k + 1, x0, x12, x201000, x201001 => if x12 = true then (some 2) else (if (wrap64 (x0 + (x201000.length : Int))) > 1000 then (some 4) else (preds_Check.l0 k x0 x201000 (x201000.length : Int) 0 x201000 x201001))
def preds_Check.l0 : Nat → Int → List (S69) → Int → Int → List (S69) → Int → Option (Int)
 | 0, _, _, _, _, _, _ => none
 | k + 1, x0, x20, x21, x22, x201000, x201001 => if x22 < x21 then (if 0 ≤ x22 then (if x22 < (x20.length : Int) then (if ((rd_T69 x20 x22).f1) < 0 then (some 8) else (if ((rd_T69 x20 x22).f0) < ((rd_T69 x20 x22).f1) then (some 8) else (if ((rd_T69 x20 x22).f0) ≥ (wrap64 (2 * (wrap64 ((wrap64 (x0 + 1)) + x22)))) then (some 8) else (preds_Check.l0 k x0 x20 x21 (wrap64 (x22 + 1)) x201000 x201001)))) else (none)) else (none)) else (if x201001 < 0 then (some 8) else (if (wrap64 (Int.tdiv x201001 2)) > (wrap64 (x0 + (x201000.length : Int))) then (some 8) else (some 0)))
end
def preds_Check.f (k : Nat) (a0 : Int) (l1_0 : List (S69)) (a1_1 : Int) : Option (Int) := if a0 < 0 then (preds_Check.j0 k a0 true l1_0 a1_1) else (preds_Check.j0 k a0 (decide (a0 > 1000)) l1_0 a1_1)
set_option maxHeartbeats 8000000 in
set_option maxRecDepth 100000 in
theorem preds_Check.calls (k : Nat) (a0 : Int) (A1_0 : Option Addr) (c1_0 : Nat) (l1_0 : List (S69)) (a1_1 : Int) (r : Int) (w : World) (hr1_0 : Kd.C k69 w A1_0 l1_0.length l1_0) (hc1_0 : l1_0.length ≤ c1_0) (h : preds_Check.f k a0 l1_0 a1_1 = some r) :
  Calls Try.prog 54 #[.int .i64 a0, .agg #[.slice A1_0 l1_0.length c1_0, .int .i64 a1_1]] w fun e w' => e = .returned (.int .i64 r) ∧ Below w.heap.size w w' := by
 have hu44 := Try.underlying44
 have hu69 := Try.underlying69
 have HR1_0 := M_ hr1_0
 have HC1_0 := M_ hc1_0
 clear hr1_0 hc1_0
 have HB := M_ (Below.refl w.heap.size w)
 have H : (if a0 < 0 then (preds_Check.j0 k a0 true l1_0 a1_1) else (preds_Check.j0 k a0 (decide (a0 > 1000)) l1_0 a1_1)) = some r := h
 clear h
 have HC3 := M_ H
 clear H
 go_enter Try.func54, Try.ntmps54
 go_upto_region 1 with (first | ((with_reducible refine gate_dst (N := 3) rfl ?_); (try (refine gate_guard (by rfl) ?_; dsimp only)); refine box_event ?hg (N := 3) ?hd (cs := #[.slice A1_0 l1_0.length c1_0, .int .i64 a1_1]) (t := 44) ?hr ?_; (case hd => rfl); (case hg => rfl); (case hr => first | (go_simp; done) | (go_simp; rfl)); intro gb200 hg w4 hbox hb; have n1_ := M_ (hbox); have n2_ := M_ ((by rw [hg]; exact (below_size (wl_ HB.out)) : w.heap.size ≤ gb200)); have n3_ := M_ ((by rw [hg]; exact (below_size (wl_ HB.out)) : w.heap.size ≤ gb200)); replace HB := wb_ HB hb; have BK200 := n1_; have GW200 := n2_; have GE200 := n3_; have gi200 : Ge _ _ := ⟨GE200.out⟩; clear n1_ n2_ n3_; clear hb hbox hg))
 (try simp only [Act.put, e1_, e2_, e3_])
 go_cut [12] (fun v12 wc => ∃ (kq : Nat) (x12_2 : Bool), v12 = .bool x12_2 ∧ Aside0 (preds_Check.j0 kq a0 x12_2 l1_0 a1_1 = some r) ∧ Aside0 (kq ≤ k) ∧ Aside0 (wc.heap[gb200]? = some (.cells #[(.slice A1_0 l1_0.length c1_0), .int .i64 a1_1] 44 (0, 0))) ∧ Aside0 (Below w.heap.size w wc))
 case first =>
  have H := HC3.out
  clear HC3
  by_cases c5 : a0 < 0
  ·rw [if_pos c5] at H
   have c5b0 : decide (a0 < 0) = true := decide_eq_true c5
   clear c5
   (first | rw [c5b0] | (simp only [i64_w, i32_w]; rw [c5b0]) | skip)
   have H' := M_ H
   clear H
   go_wp2
   go_meet
   case rel => exact ⟨_, (true), (by first | rfl | (simp; done) | (simp [*]; done)), H', ⟨by first | omega | exact Nat.le_refl _⟩, ⟨by (with_reducible repeat (first | refine k0_ ?_ _ | refine k1_ ?_ | refine k2_ ?_ _)); exact BK200.out⟩, ⟨by repeat (first | (with_reducible first | exact HB.out | apply b0_ | apply b1_ | apply b2_ | refine below_set ?_ GE200.out) | exact HB.out)⟩⟩
  ·rw [if_neg c5] at H
   have c5b0 : decide (a0 < 0) = false := decide_eq_false c5
   clear c5
   (first | rw [c5b0] | (simp only [i64_w, i32_w]; rw [c5b0]) | skip)
   have H' := M_ H
   clear H
   go_wp2
   go_meet
   case rel => exact ⟨_, (decide (a0 > 1000)), (by first | rfl | (simp; done) | (simp [*]; done)), H', ⟨by first | omega | exact Nat.le_refl _⟩, ⟨by (with_reducible repeat (first | refine k0_ ?_ _ | refine k1_ ?_ | refine k2_ ?_ _)); exact BK200.out⟩, ⟨by repeat (first | (with_reducible first | exact HB.out | apply b0_ | apply b1_ | apply b2_ | refine below_set ?_ GE200.out) | exact HB.out)⟩⟩
 case rest =>
  clear HC3
  try clear c1; try clear p2; try clear c5; try clear c5b0
  obtain ⟨kq, x12_2, rfl, HA, HJ2, BK200, HB⟩ := hcut
  cases kq with
  | zero => exact absurd HA.out (by simp [preds_Check.j0])
  | succ kj2 =>
   have H := HA.out
   clear HA
   simp only [preds_Check.j0] at H
   by_cases c6 : x12_2 = true
   ·subst c6
    have H1 : (some 2) = some r := by rw [if_pos rfl] at H; exact H
    clear H
    have H := H1
    clear H1
    obtain rfl := Option.some.inj H
    go_wp2
    go_ret
    exact ⟨by first | rfl | (simp [errW_none, errW_some] <;> rfl) | (simp [*, errW_none, errW_some] <;> rfl), by repeat (first | (with_reducible first | exact HB.out | apply b0_ | apply b1_ | apply b2_ | refine below_set ?_ GE200.out) | exact HB.out)⟩
   ·replace c6 := Bool.eq_false_iff.mpr c6
    subst c6
    have H1 : (if (wrap64 (a0 + (l1_0.length : Int))) > 1000 then (some 4) else (preds_Check.l0 kj2 a0 l1_0 (l1_0.length : Int) 0 l1_0 a1_1)) = some r := by rw [if_neg (show ¬ (false = true) by decide)] at H; exact H
    clear H
    have H := H1
    clear H1
    by_cases c7 : (wrap64 (a0 + (l1_0.length : Int))) > 1000
    ·rw [if_pos c7] at H
     have c7b0 : decide (1000 < (wrap64 (a0 + (l1_0.length : Int)))) = true := decide_eq_true c7
     clear c7
     obtain rfl := Option.some.inj H
     obtain ⟨hcz8_0, hcz8_1⟩ := cz2_ BK200.out
     obtain ⟨hfz8_0, hfz8_1⟩ := fz2_ BK200.out
     go_wp2
     go_ret
     exact ⟨by first | rfl | (simp [errW_none, errW_some] <;> rfl) | (simp [*, errW_none, errW_some] <;> rfl), by repeat (first | (with_reducible first | exact HB.out | apply b0_ | apply b1_ | apply b2_ | refine below_set ?_ GE200.out) | exact HB.out)⟩
    ·rw [if_neg c7] at H
     have c7b0 : decide (1000 < (wrap64 (a0 + (l1_0.length : Int)))) = false := decide_eq_false c7
     clear c7
     have H' := M_ H
     clear H
     obtain ⟨hcz9_0, hcz9_1⟩ := cz2_ BK200.out
     obtain ⟨hfz9_0, hfz9_1⟩ := fz2_ BK200.out
     go_wp2
     go_loopg [22] kj2 (fun kq v22 w' => ∃ (x22_2 : Int), v22 = .int .i64 x22_2 ∧ Aside0 (preds_Check.l0 kq a0 l1_0 (l1_0.length : Int) x22_2 l1_0 a1_1 = some r) ∧ Aside0 (kq ≤ kj2) ∧ Aside0 (w'.heap[gb200]? = some (.cells #[(.slice A1_0 l1_0.length c1_0), .int .i64 a1_1] 44 (0, 0))) ∧ Aside0 (Below w.heap.size w w'))
     case atStart => exact ⟨(0), (by first | rfl | (simp; done) | (simp [*]; done)), H', ⟨Nat.le_refl _⟩, ⟨by (with_reducible repeat (first | refine k0_ ?_ _ | refine k1_ ?_ | refine k2_ ?_ _)); exact BK200.out⟩, ⟨by repeat (first | (with_reducible first | exact HB.out | apply b0_ | apply b1_ | apply b2_ | refine below_set ?_ GE200.out) | exact HB.out)⟩⟩
     case round =>
      clear H'
      try clear c1; try clear p2; try clear c5; try clear c5b0; try clear c6; try clear p6; try clear c7; try clear c7b0; try clear hcz8_0 hcz8_1; try clear hcz9_0 hcz9_1; try clear hfz8_0 hfz8_1; try clear hfz9_0 hfz9_1; try clear p2
      obtain ⟨x22_2, rfl, HA, HK2, BK200, HB⟩ := hrel
      cases gk with
      | zero => exact absurd HA.out (by simp [preds_Check.l0])
      | succ k2 =>
       have H := HA.out
       clear HA
       simp only [preds_Check.l0] at H
       by_cases c10 : x22_2 < (l1_0.length : Int)
       ·rw [if_pos c10] at H
        have c10b0 : decide (x22_2 < (l1_0.length : Int)) = true := decide_eq_true c10
        clear c10
        by_cases c11 : 0 ≤ x22_2
        ·rw [if_pos c11] at H
         have c11b0 : decide (0 ≤ x22_2) = true := decide_eq_true c11
         clear c11
         by_cases c12 : x22_2 < (l1_0.length : Int)
         ·rw [if_pos c12] at H
          have c12b0 : decide (x22_2 < (l1_0.length : Int)) = true := decide_eq_true c12
          clear c12
          by_cases c13 : ((rd_T69 l1_0 x22_2).f1) < 0
          ·rw [if_pos c13] at H
           have c13b0 : decide (((rd_T69 l1_0 x22_2).f1) < 0) = true := decide_eq_true c13
           clear c13
           obtain rfl := Option.some.inj H
           have p201 : 0 ≤ (x22_2 : Int) := of_decide_eq_true (by first | (with_reducible assumption) | assumption)
           have q201 : x22_2 < (l1_0.length : Int) := of_decide_eq_true (by first | (with_reducible assumption) | assumption)
           obtain ⟨ad201, e201, hx201_0, hx201_1⟩ := at_T69 HR1_0.out x22_2 p201 q201
           cases e201
           replace hx201_0 := (HB.out.cell (World.block_lt_of_cell? w _ hx201_0)).trans hx201_0
           replace hx201_1 := (HB.out.cell (World.block_lt_of_cell? w _ hx201_1)).trans hx201_1
           replace p201 := eq_true p201
           replace q201 := eq_true q201
           go_wp2_with (first | ((with_reducible refine gate_dst (N := 6) rfl ?_); (try (refine gate_guard (by rfl) ?_; dsimp only)); refine box_event ?hg (N := 6) ?hd (cs := #[.int .i64 0, .int .i64 0]) (t := 69) ?hr ?_; (case hd => rfl); (case hg => rfl); (case hr => first | (go_simp; done) | (go_simp; rfl)); intro gb202 hg w14 hbox hb; have n2_ := M_ (hbox); have n3_ := M_ ((by rw [hg]; exact (below_size (ws_ HB.out)) : w.heap.size ≤ gb202)); have n4_ := M_ ((by rw [hg]; exact (below_size (ws_ HB.out)) : w.heap.size ≤ gb202)); have n5_ := M_ ((by rw [hg]; exact Nat.ne_of_lt (blk_lt (bl_ BK200.out)) : gb200 ≠ gb202)); have n6_ := M_ ((by rw [hg]; exact Nat.ne_of_gt (blk_lt (bl_ BK200.out)) : gb202 ≠ gb200)); replace BK200 := bb_ BK200 hb; replace HB := wb_ HB hb; have BK202 := n2_; have GW202 := n3_; have GE202 := n4_; have gi202 : Ge _ _ := ⟨GE202.out⟩; have NB200_202 := n5_; have NB202_200 := n6_; clear n2_ n3_ n4_ n5_ n6_; clear hb hbox hg; have hnb15 := NB202_200.out; have hnc15 := NB200_202.out; obtain ⟨hcz16_0, hcz16_1⟩ := cz2_ BK202.out; have hfz16_0 := blk_frozen BK202.out 0; have hfz16_1 := blk_frozen BK202.out 1))
           go_ret
           exact ⟨by first | rfl | (simp [errW_none, errW_some] <;> rfl) | (simp [*, errW_none, errW_some] <;> rfl), by repeat (first | (with_reducible first | exact HB.out | apply b0_ | apply b1_ | apply b2_ | refine below_set ?_ GE200.out | refine below_set ?_ GE202.out) | exact HB.out)⟩
          ·rw [if_neg c13] at H
           have c13b0 : decide (((rd_T69 l1_0 x22_2).f1) < 0) = false := decide_eq_false c13
           clear c13
           by_cases c17 : ((rd_T69 l1_0 x22_2).f0) < ((rd_T69 l1_0 x22_2).f1)
           ·rw [if_pos c17] at H
            have c17b0 : decide (((rd_T69 l1_0 x22_2).f0) < ((rd_T69 l1_0 x22_2).f1)) = true := decide_eq_true c17
            clear c17
            obtain rfl := Option.some.inj H
            have p201 : 0 ≤ (x22_2 : Int) := of_decide_eq_true (by first | (with_reducible assumption) | assumption)
            have q201 : x22_2 < (l1_0.length : Int) := of_decide_eq_true (by first | (with_reducible assumption) | assumption)
            obtain ⟨ad201, e201, hx201_0, hx201_1⟩ := at_T69 HR1_0.out x22_2 p201 q201
            cases e201
            replace hx201_0 := (HB.out.cell (World.block_lt_of_cell? w _ hx201_0)).trans hx201_0
            replace hx201_1 := (HB.out.cell (World.block_lt_of_cell? w _ hx201_1)).trans hx201_1
            replace p201 := eq_true p201
            replace q201 := eq_true q201
            go_wp2_with (first | ((with_reducible refine gate_dst (N := 6) rfl ?_); (try (refine gate_guard (by rfl) ?_; dsimp only)); refine box_event ?hg (N := 6) ?hd (cs := #[.int .i64 0, .int .i64 0]) (t := 69) ?hr ?_; (case hd => rfl); (case hg => rfl); (case hr => first | (go_simp; done) | (go_simp; rfl)); intro gb202 hg w18 hbox hb; have n2_ := M_ (hbox); have n3_ := M_ ((by rw [hg]; exact (below_size (ws_ HB.out)) : w.heap.size ≤ gb202)); have n4_ := M_ ((by rw [hg]; exact (below_size (ws_ HB.out)) : w.heap.size ≤ gb202)); have n5_ := M_ ((by rw [hg]; exact Nat.ne_of_lt (blk_lt (bl_ BK200.out)) : gb200 ≠ gb202)); have n6_ := M_ ((by rw [hg]; exact Nat.ne_of_gt (blk_lt (bl_ BK200.out)) : gb202 ≠ gb200)); replace BK200 := bb_ BK200 hb; replace HB := wb_ HB hb; have BK202 := n2_; have GW202 := n3_; have GE202 := n4_; have gi202 : Ge _ _ := ⟨GE202.out⟩; have NB200_202 := n5_; have NB202_200 := n6_; clear n2_ n3_ n4_ n5_ n6_; clear hb hbox hg; have hnb19 := NB202_200.out; have hnc19 := NB200_202.out; obtain ⟨hcz20_0, hcz20_1⟩ := cz2_ BK202.out; have hfz20_0 := blk_frozen BK202.out 0; have hfz20_1 := blk_frozen BK202.out 1))
            go_ret
            exact ⟨by first | rfl | (simp [errW_none, errW_some] <;> rfl) | (simp [*, errW_none, errW_some] <;> rfl), by repeat (first | (with_reducible first | exact HB.out | apply b0_ | apply b1_ | apply b2_ | refine below_set ?_ GE200.out | refine below_set ?_ GE202.out) | exact HB.out)⟩
           ·rw [if_neg c17] at H
            have c17b0 : decide (((rd_T69 l1_0 x22_2).f0) < ((rd_T69 l1_0 x22_2).f1)) = false := decide_eq_false c17
            clear c17
            by_cases c21 : ((rd_T69 l1_0 x22_2).f0) ≥ (wrap64 (2 * (wrap64 ((wrap64 (a0 + 1)) + x22_2))))
            ·rw [if_pos c21] at H
             have c21b0 : decide ((wrap64 (2 * (wrap64 ((wrap64 (a0 + 1)) + x22_2)))) ≤ ((rd_T69 l1_0 x22_2).f0)) = true := decide_eq_true c21
             clear c21
             obtain rfl := Option.some.inj H
             have p201 : 0 ≤ (x22_2 : Int) := of_decide_eq_true (by first | (with_reducible assumption) | assumption)
             have q201 : x22_2 < (l1_0.length : Int) := of_decide_eq_true (by first | (with_reducible assumption) | assumption)
             obtain ⟨ad201, e201, hx201_0, hx201_1⟩ := at_T69 HR1_0.out x22_2 p201 q201
             cases e201
             replace hx201_0 := (HB.out.cell (World.block_lt_of_cell? w _ hx201_0)).trans hx201_0
             replace hx201_1 := (HB.out.cell (World.block_lt_of_cell? w _ hx201_1)).trans hx201_1
             replace p201 := eq_true p201
             replace q201 := eq_true q201
             go_wp2_with (first | ((with_reducible refine gate_dst (N := 6) rfl ?_); (try (refine gate_guard (by rfl) ?_; dsimp only)); refine box_event ?hg (N := 6) ?hd (cs := #[.int .i64 0, .int .i64 0]) (t := 69) ?hr ?_; (case hd => rfl); (case hg => rfl); (case hr => first | (go_simp; done) | (go_simp; rfl)); intro gb202 hg w22 hbox hb; have n2_ := M_ (hbox); have n3_ := M_ ((by rw [hg]; exact (below_size (ws_ HB.out)) : w.heap.size ≤ gb202)); have n4_ := M_ ((by rw [hg]; exact (below_size (ws_ HB.out)) : w.heap.size ≤ gb202)); have n5_ := M_ ((by rw [hg]; exact Nat.ne_of_lt (blk_lt (bl_ BK200.out)) : gb200 ≠ gb202)); have n6_ := M_ ((by rw [hg]; exact Nat.ne_of_gt (blk_lt (bl_ BK200.out)) : gb202 ≠ gb200)); replace BK200 := bb_ BK200 hb; replace HB := wb_ HB hb; have BK202 := n2_; have GW202 := n3_; have GE202 := n4_; have gi202 : Ge _ _ := ⟨GE202.out⟩; have NB200_202 := n5_; have NB202_200 := n6_; clear n2_ n3_ n4_ n5_ n6_; clear hb hbox hg; have hnb23 := NB202_200.out; have hnc23 := NB200_202.out; obtain ⟨hcz24_0, hcz24_1⟩ := cz2_ BK202.out; have hfz24_0 := blk_frozen BK202.out 0; have hfz24_1 := blk_frozen BK202.out 1))
             go_ret
             exact ⟨by first | rfl | (simp [errW_none, errW_some] <;> rfl) | (simp [*, errW_none, errW_some] <;> rfl), by repeat (first | (with_reducible first | exact HB.out | apply b0_ | apply b1_ | apply b2_ | refine below_set ?_ GE200.out | refine below_set ?_ GE202.out) | exact HB.out)⟩
            ·rw [if_neg c21] at H
             have c21b0 : decide ((wrap64 (2 * (wrap64 ((wrap64 (a0 + 1)) + x22_2)))) ≤ ((rd_T69 l1_0 x22_2).f0)) = false := decide_eq_false c21
             clear c21
             have H' := M_ H
             clear H
             have p201 : 0 ≤ (x22_2 : Int) := of_decide_eq_true (by first | (with_reducible assumption) | assumption)
             have q201 : x22_2 < (l1_0.length : Int) := of_decide_eq_true (by first | (with_reducible assumption) | assumption)
             obtain ⟨ad201, e201, hx201_0, hx201_1⟩ := at_T69 HR1_0.out x22_2 p201 q201
             cases e201
             replace hx201_0 := (HB.out.cell (World.block_lt_of_cell? w _ hx201_0)).trans hx201_0
             replace hx201_1 := (HB.out.cell (World.block_lt_of_cell? w _ hx201_1)).trans hx201_1
             replace p201 := eq_true p201
             replace q201 := eq_true q201
             go_wp2_with (first | ((with_reducible refine gate_dst (N := 6) rfl ?_); (try (refine gate_guard (by rfl) ?_; dsimp only)); refine box_event ?hg (N := 6) ?hd (cs := #[.int .i64 0, .int .i64 0]) (t := 69) ?hr ?_; (case hd => rfl); (case hg => rfl); (case hr => first | (go_simp; done) | (go_simp; rfl)); intro gb202 hg w25 hbox hb; have n2_ := M_ (hbox); have n3_ := M_ ((by rw [hg]; exact (below_size (ws_ HB.out)) : w.heap.size ≤ gb202)); have n4_ := M_ ((by rw [hg]; exact (below_size (ws_ HB.out)) : w.heap.size ≤ gb202)); have n5_ := M_ ((by rw [hg]; exact Nat.ne_of_lt (blk_lt (bl_ BK200.out)) : gb200 ≠ gb202)); have n6_ := M_ ((by rw [hg]; exact Nat.ne_of_gt (blk_lt (bl_ BK200.out)) : gb202 ≠ gb200)); replace BK200 := bb_ BK200 hb; replace HB := wb_ HB hb; have BK202 := n2_; have GW202 := n3_; have GE202 := n4_; have gi202 : Ge _ _ := ⟨GE202.out⟩; have NB200_202 := n5_; have NB202_200 := n6_; clear n2_ n3_ n4_ n5_ n6_; clear hb hbox hg; have hnb26 := NB202_200.out; have hnc26 := NB200_202.out; obtain ⟨hcz27_0, hcz27_1⟩ := cz2_ BK202.out; have hfz27_0 := blk_frozen BK202.out 0; have hfz27_1 := blk_frozen BK202.out 1))
             go_roundg k2
             case measure => have := HJ2.out; have := HK2.out; omega
             case rel => exact ⟨(wrap64 (x22_2 + 1)), (by first | rfl | (simp; done) | (simp [*]; done)), H', ⟨by have := HJ2.out; have := HK2.out; omega⟩, ⟨by (with_reducible repeat (first | refine k0_ ?_ _ | refine k1_ ?_ | refine k2_ ?_ _)); refine blk_far ?_ NB200_202.out _; (with_reducible repeat (first | refine k0_ ?_ _ | refine k1_ ?_ | refine k2_ ?_ _)); refine blk_far ?_ NB200_202.out _; (with_reducible repeat (first | refine k0_ ?_ _ | refine k1_ ?_ | refine k2_ ?_ _)); exact BK200.out⟩, ⟨by repeat (first | (with_reducible first | exact HB.out | apply b0_ | apply b1_ | apply b2_ | refine below_set ?_ GE200.out | refine below_set ?_ GE202.out) | exact HB.out)⟩⟩
         ·rw [if_neg c12] at H
          exact absurd H (by simp)
        ·rw [if_neg c11] at H
         exact absurd H (by simp)
       ·rw [if_neg c10] at H
        have c10b0 : decide (x22_2 < (l1_0.length : Int)) = false := decide_eq_false c10
        clear c10
        by_cases c28 : a1_1 < 0
        ·rw [if_pos c28] at H
         have c28b0 : decide (a1_1 < 0) = true := decide_eq_true c28
         clear c28
         obtain rfl := Option.some.inj H
         obtain ⟨hcz29_0, hcz29_1⟩ := cz2_ BK200.out
         obtain ⟨hfz29_0, hfz29_1⟩ := fz2_ BK200.out
         go_wp2
         go_ret
         exact ⟨by first | rfl | (simp [errW_none, errW_some] <;> rfl) | (simp [*, errW_none, errW_some] <;> rfl), by repeat (first | (with_reducible first | exact HB.out | apply b0_ | apply b1_ | apply b2_ | refine below_set ?_ GE200.out) | exact HB.out)⟩
        ·rw [if_neg c28] at H
         have c28b0 : decide (a1_1 < 0) = false := decide_eq_false c28
         clear c28
         by_cases c30 : (wrap64 (Int.tdiv a1_1 2)) > (wrap64 (a0 + (l1_0.length : Int)))
         ·rw [if_pos c30] at H
          have c30b0 : decide ((wrap64 (a0 + (l1_0.length : Int))) < (wrap64 (Int.tdiv a1_1 2))) = true := decide_eq_true c30
          clear c30
          obtain rfl := Option.some.inj H
          obtain ⟨hcz31_0, hcz31_1⟩ := cz2_ BK200.out
          obtain ⟨hfz31_0, hfz31_1⟩ := fz2_ BK200.out
          go_wp2
          go_ret
          exact ⟨by first | rfl | (simp [errW_none, errW_some] <;> rfl) | (simp [*, errW_none, errW_some] <;> rfl), by repeat (first | (with_reducible first | exact HB.out | apply b0_ | apply b1_ | apply b2_ | refine below_set ?_ GE200.out) | exact HB.out)⟩
         ·rw [if_neg c30] at H
          have c30b0 : decide ((wrap64 (a0 + (l1_0.length : Int))) < (wrap64 (Int.tdiv a1_1 2))) = false := decide_eq_false c30
          clear c30
          obtain rfl := Option.some.inj H
          obtain ⟨hcz32_0, hcz32_1⟩ := cz2_ BK200.out
          obtain ⟨hfz32_0, hfz32_1⟩ := fz2_ BK200.out
          go_wp2
          go_ret
          exact ⟨by first | rfl | (simp [errW_none, errW_some] <;> rfl) | (simp [*, errW_none, errW_some] <;> rfl), by repeat (first | (with_reducible first | exact HB.out | apply b0_ | apply b1_ | apply b2_ | refine below_set ?_ GE200.out) | exact HB.out)⟩

-- bits_Mul.f bits_Mul64.f
theorem mul1 (a : Int) (h0 : 0 ≤ a) (h1 : a ≤ 60000) : bits_Mul.f 1 a = some (0, a) := by
 have hk : ∀ n : Int, 0 ≤ n → n < 2 ^ 32 → IntKind.u64.wrap n = n := fun n h0 h1 => by rw [IntKind.wrap_u64]; omega
 have m0 : ∀ x : Int, 0 ≤ x → x < 2 ^ 32 → Go.bits .and .u64 x 4294967295 = x := fun x h0 h1 => by
  have := bits_mask .u64 32 (by decide) hk 32 (by decide) x h0 h1
  rw [show (2 : Int) ^ 32 - 1 = 4294967295 from rfl] at this
  rw [this]; omega
 have d0 : a / 4294967296 = 0 := by omega
 have d1 : (1 : Int) / 4294967296 = 0 := by decide
 unfold bits_Mul.f bits_Mul64.f
 rw [m0 1 (by decide) (by decide), m0 a h0 (by omega), d0, d1]
 simp only [Int.zero_mul, Int.mul_zero, Int.one_mul, Int.zero_add, Int.add_zero]
 rw [hk 0 (by decide) (by decide), hk a h0 (by omega), d0]
 simp only [Int.add_zero, Int.zero_add]
 rw [hk 0 (by decide) (by decide), m0 0 (by decide) (by decide)]
 simp only [Option.bind_some]
 rfl
theorem madeI (n : Nat) : madeCells #[Value.int .i64 0] n = (encs (Value.int .i64) (List.replicate n 0)).toArray := by
 apply Array.ext
 ·simp [madeCells, encs]
 ·intro i h1 h2
  simp only [madeCells, encs, Array.getElem_map, List.getElem_toArray, List.getElem_map, List.getElem_replicate]
  simp [Nat.mod_one]
theorem encsI_one (X : List Int) : ∀ v ∈ encs (Value.int .i64) X, v.oneCell' = true := by
 intro v hv
 simp only [encs, List.mem_map] at hv
 obtain ⟨x, _, rfl⟩ := hv
 rfl
theorem rep_splice (x : Int) (N k m : Nat) (h : k + m ≤ N) : splice (encs (Value.int .i64) (List.replicate k x ++ List.replicate (N - k) 0)) k (encs (Value.int .i64) (List.replicate m x)) = encs (Value.int .i64) (List.replicate (k + m) x ++ List.replicate (N - (k + m)) 0) := by
 unfold splice encs
 simp only [List.map_append, List.map_replicate, List.length_replicate]
 rw [List.take_append_of_le_length (by simp), List.take_of_length_le (by simp), List.drop_append, List.drop_of_length_le (by simp), List.drop_replicate, List.length_replicate, List.nil_append, ← List.append_assoc, List.replicate_append_replicate]
 congr 2
 omega
theorem rep_src {W : World} {g N k : Nat} {x : Int} (h : W.heap[g]? = some (.cells (encs (Value.int .i64) (List.replicate k x ++ List.replicate (N - k) 0)).toArray 3 (0, 0))) (m : Nat) (hm : m ≤ k) : ∀ j v, (encs (Value.int .i64) (List.replicate m x))[j]? = some v → W.cell? ((⟨g, 0, none⟩ : Addr).add j) = some v := by
 intro j v hv
 have hj : j < m := by
  obtain ⟨h1, _⟩ := List.getElem?_eq_some_iff.1 hv
  simpa [encs] using h1
 have e : v = .int .i64 x := by
  obtain ⟨h1, e⟩ := List.getElem?_eq_some_iff.1 hv
  rw [← e]
  simp [encs]
 have := blk_cell h j
 have e2 : (⟨g, 0, none⟩ : Addr).add j = ⟨g, j, none⟩ := by simp [Addr.add]; omega
 rw [e2, this, e]
 have h3 : j < k := by omega
 simp only [encs, List.map_append, List.map_replicate, List.getElem?_toArray]
 rw [List.getElem?_append_left (by simpa using h3), List.getElem?_replicate, if_pos h3]
theorem row_own {w : World} {g base : Nat} {cur : List Int} (h : w.heap[g]? = some (.cells (encs (Value.int .i64) cur).toArray 3 (0, 0))) (hb : base ≤ g) (hl : cur.length ≤ 2000000) : Kd.R (Kd.int .i64) 3 w base (fun _ => True) (.slice (some ⟨g, 0, none⟩) cur.length cur.length) cur := by
 refine Kd.R_of_own (h1 := fun _ => rfl) ?_ (fun _ _ => trivial)
 refine ⟨by simp [encs], Or.inr ⟨g, cur.length, _, rfl, hb, h, Nat.le_refl _, by unfold maxLen; omega, by simp [encs], ?_⟩⟩
 simp only [encs, Nat.mul_one]
 exact List.take_of_length_le (by simp)
theorem infoR : (Try.prog.info? 3).map (fun i => (i.zero, i.size, i.bytes)) = some (some (.int .i64 0), 1, 8) := by kernel_rfl
theorem cutA (g N k : Nat) (h : k < N) (W : World) : (Instr.slice 24 (.slice (some ⟨g, 0, none⟩) N N) (some (.int .i64 (k : Int))) none none).run Try.prog W = .ok (.slice (some ⟨g, k, none⟩) (N - k) (N - k)) W := by
 obtain ⟨i0, hi, hzz⟩ := Option.map_eq_some_iff.1 infoR
 simp only [Prod.mk.injEq] at hzz
 have hel : Try.prog.elem 24 = 3 := by simp [Program.elem, Try.underlying24]
 have hu : Try.prog.underlying 24 = some (.slice (Try.prog.elem 24)) := by rw [hel]; exact Try.underlying24
 rw [run_slice_l W 24 _ _ _ hu .i64 _ (by omega) (by omega), hel]
 simp [sizeOf, typeInfo, hi, hzz.2.1, sliced, Result.andThen, Addr.add]
 rw [if_neg (by omega)]
 split <;> simp_all
theorem cutB (g N k : Nat) (h0 : 0 < N) (h : k ≤ N) (W : World) : (Instr.slice 24 (.slice (some ⟨g, 0, none⟩) N N) none (some (.int .i64 (k : Int))) none).run Try.prog W = .ok (.slice (some ⟨g, 0, none⟩) k N) W := by
 obtain ⟨i0, hi, hzz⟩ := Option.map_eq_some_iff.1 infoR
 simp only [Prod.mk.injEq] at hzz
 have hel : Try.prog.elem 24 = 3 := by simp [Program.elem, Try.underlying24]
 have hu : Try.prog.underlying 24 = some (.slice (Try.prog.elem 24)) := by rw [hel]; exact Try.underlying24
 rw [run_slice_h W 24 _ _ _ hu .i64 _ (by omega) (by omega), hel]
 simp [sizeOf, typeInfo, hi, hzz.2.1, sliced, Result.andThen, Addr.add]
def slices_Repeat_int_int.f (l0 : List Int) (a1 : Int) : Option (List Int) := if l0.length = 1 ∧ 1 ≤ a1 ∧ a1 ≤ 60000 then some (List.replicate a1.toNat (rd l0 0)) else none
set_option maxHeartbeats 8000000 in
set_option maxRecDepth 100000 in
theorem slices_Repeat_int_int.calls (A0 : Option Addr) (c0 : Nat) (l0 : List Int) (a1 : Int) (r : List Int) (w : World) (hr0 : Kd.C (Kd.int .i64) w A0 l0.length l0) (hc0 : l0.length ≤ c0) (h : slices_Repeat_int_int.f l0 a1 = some r) :
  Calls Try.prog 55 #[.slice A0 l0.length c0, .int .i64 a1] w fun e w' => ∃ v0_ : Value, e = .returned (v0_) ∧ Kd.R (Kd.int .i64) 3 w' w.heap.size (fun _ => True) v0_ r ∧ Below w.heap.size w w' := by
 have hu24 := Try.underlying24
 have hsI : (Try.prog.info? 3).map (·.size) = some 1 := by kernel_rfl
 unfold slices_Repeat_int_int.f at h
 split at h
 case isFalse => simp at h
 case isTrue hb =>
 obtain ⟨h1, h2, h3⟩ := hb
 obtain rfl := Option.some.inj h
 obtain ⟨N, rfl⟩ : ∃ N : Nat, a1 = (N : Int) := ⟨a1.toNat, by omega⟩
 obtain ⟨ad, rfl, hx⟩ := Kd.at_int hr0 0 (by omega) (by omega)
 obtain ⟨x, hx'⟩ : ∃ x, x = rd l0 0 := ⟨_, rfl⟩
 rw [← hx'] at hx ⊢
 rw [h1]
 have HX := M_ hx
 have HN := M_ (show 1 ≤ N ∧ N ≤ 60000 by omega)
 have HM := M_ (mul1 (N : Int) (by omega) (by omega))
 have q1 : IntKind.u64.wrap (N : Int) = (N : Int) := by rw [IntKind.wrap_u64]; omega
 have q2 : wrap64 (N : Int) = (N : Int) := by unfold wrap64; omega
 have b0 : decide ((N : Int) < 0) = false := decide_eq_false (by omega)
 have b1 : decide (9223372036854775807 < (N : Int)) = false := decide_eq_false (by omega)
 have hmk := run_make_row' (P := Try.prog) 24 3 (.int .i64 0) 8 hu24 infoR rfl .i64 .i64 N (by omega) (by omega)
 clear hr0 h1 h2 h3 hx hx' h
 go_enter Try.func55, Try.ntmps55
 have HA := M_ (show Aside0 True from ⟨trivial⟩)
 have e0 : ∀ n : Nat, (encs (Value.int .i64) (List.replicate n (0 : Int))).length = n := by simp [encs]
 have HE := M_ e0
 clear e0
 go_wp2_with (first
  | (go_at_call 78; (with_reducible refine (bits_Mul.calls 1 (N : Int) 0 (N : Int) _ HM.out).mono ?_); rintro e w1 ⟨rfl, hd⟩; have HB := M_ hd.below; clear hd)
  | ((with_reducible refine gate_builtin (b := .copy) (xs := #[.tmp 31, .tmp 32]) rfl ?_); (refine wpList_copy_splice rfl (.tmp 31) (.tmp 32) 24 24 rfl 3 hu24 hsI _ _ _ _ _ _ rfl rfl w1.heap.size 0 (encs (Value.int .i64) (List.replicate 0 x ++ List.replicate (N - 0) 0)) 3 ?g1 (encs (Value.int .i64) (List.replicate 1 x)) ?g2 ?g3 ?g4 (encsI_one _) w1.heap.size w1 ?g5 (Nat.le_refl _) ?_; (case g1 => rw [List.replicate_zero, List.nil_append, Nat.sub_zero, ← madeI]; exact blk_new _ _); (case g2 => have := HN.out; have hm1 : Nat.min 1 N = 1 := Nat.min_eq_left this.1; simp [encs, hm1]); (case g3 => intro _; refine ⟨rfl, ad, rfl, fun j v hv => ?_⟩; have hj : j = 0 := (by obtain ⟨h1, _⟩ := List.getElem?_eq_some_iff.1 hv; simpa [encs] using h1); subst hj; have hv2 : v = .int .i64 x := (by simpa [encs] using hv.symm); rw [hv2]; exact pw_cell_below (below_alloc HB.out _) HX.out); (case g4 => have := HN.out; simp [encs]; omega); (case g5 => exact below_alloc (Below.refl _ _) _); intro w2 hG2 hB2; have HB2 := M_ (below_step HB.out hB2); have HG2 := M_ ((congrArg (fun l_ => w2.heap[w1.heap.size]? = some (.cells (List.toArray l_) 3 (0, 0))) (rep_splice x N 0 1 (by have := HN.out; omega))).mp hG2.out); have HGE := M_ (HB.out.size); clear hB2 hG2)))
 go_loopg [8] N (fun kq v8 w' => ∃ (k : Nat), v8 = .int .i64 (k : Int) ∧ Aside0 (1 ≤ k ∧ k ≤ N ∧ N ≤ kq + k) ∧ Aside0 (w'.heap[w1.heap.size]? = some (.cells (encs (Value.int .i64) (List.replicate k x ++ List.replicate (N - k) 0)).toArray 3 (0, 0))) ∧ Aside0 (Below w.heap.size w w'))
 case atStart => exact ⟨1, rfl, ⟨by have := HN.out; omega⟩, HG2, HB2⟩
 case round =>
  clear HG2 HB2
  obtain ⟨k, rfl, HI, HG, HBK⟩ := hrel
  by_cases c : k < N
  ·have cb : decide (k < N) = true := decide_eq_true c
   have hA := cutA w1.heap.size N k c
   have hB := cutB w1.heap.size N k (by omega) (by omega)
   obtain ⟨m, hm⟩ : ∃ m, m = (if k ≤ N - k then k else N - k) := ⟨_, rfl⟩
   have HMI := M_ (show Nat.min k (N - k) = m ∧ 1 ≤ m ∧ m ≤ k ∧ k + m ≤ N by
    have h1 := HI.out
    refine ⟨hm ▸ Nat.min_def, ?_, ?_, ?_⟩ <;> (rw [hm]; split <;> omega))
   have HL := M_ (show (encs (Value.int .i64) (List.replicate m x)).length = m ∧ (encs (Value.int .i64) (List.replicate k x ++ List.replicate (N - k) (0 : Int))).length = N by
    have := HI.out
    simp [encs]; omega)
   clear hm c
   go_upto_region 9 with fail
   have HGd := M_ (blk_drew HG.out)
   go_region_law (go_loud (refine step_copy_splice rfl (.tmp 41) (.tmp 44) 24 24 rfl 3 hu24 hsI (some ⟨w1.heap.size, k, none⟩) (some ⟨w1.heap.size, 0, none⟩) (N - k) (N - k) k N ?d1 ?d2 w1.heap.size k (encs (Value.int .i64) (List.replicate k x ++ List.replicate (N - k) 0)) 3 HGd.out (encs (Value.int .i64) (List.replicate m x)) ?g2 ?g3 ?g4 ?g7 w.heap.size w ?g5 ?g6 ?_; (case d1 => first | (go_simp; done) | (go_simp; rfl)); (case d2 => first | (go_simp; done) | (go_simp; rfl)); (case g2 => rw [HL.out.1, HMI.out.1]); (case g3 => intro _; exact ⟨rfl, ⟨w1.heap.size, 0, none⟩, rfl, rep_src HGd.out m HMI.out.2.2.1⟩); (case g4 => rw [HL.out.1, HL.out.2]; exact HMI.out.2.2.2); (case g5 => exact below_step HBK.out (below_drew (Below.refl _ _))); (case g6 => exact HGE.out); (case g7 => exact encsI_one _); intro w3 hg3 hb3; have HB3 := M_ hb3; have HG3 := M_ ((congrArg (fun l_ => w3.heap[w1.heap.size]? = some (.cells (List.toArray l_) 3 (0, 0))) (rep_splice x N k m HMI.out.2.2.2)).mp hg3.out); clear hg3 hb3))
   go_wp2
   go_roundg (gk - 1)
   case rel => exact ⟨k + m, congrArg (Value.int .i64) (show IntKind.i64.wrap ((k : Int) + ((encs (Value.int .i64) (List.replicate m x)).length : Int)) = ((k + m : Nat) : Int) by have h1 := HL.out.1; have h2 := HMI.out; have h3 := HN.out; rw [h1, IntKind.wrap_i64]; omega), ⟨by have h2 := HMI.out; have h1 := HI.out; omega⟩, HG3, ⟨HB3.out⟩⟩
   case measure => have h2 := HMI.out; have h1 := HI.out; omega
  ·have cb : decide (k < N) = false := decide_eq_false c
   have hk : k = N := by have := HI.out; omega
   have HRR := M_ (show Kd.R (Kd.int .i64) 3 wr w.heap.size (fun _ => True) (.slice (some ⟨w1.heap.size, 0, none⟩) N N) (List.replicate N x) by
    have h1 := HG.out
    rw [hk, Nat.sub_self, List.replicate_zero, List.append_nil] at h1
    have h2 := row_own h1 HGE.out (by have := HN.out; rw [List.length_replicate]; omega)
    rw [List.length_replicate] at h2
    exact h2)
   clear hk
   go_wp2
   go_ret
   exact ⟨_, rfl, HRR.out, HBK.out⟩

end Go.Proofs.Ytmcdanpecajklaa.QTernsimValues
