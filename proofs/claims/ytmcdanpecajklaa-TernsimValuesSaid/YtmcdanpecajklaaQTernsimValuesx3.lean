-- Made by wip/myprint.sh (a patched print): a text of this session's own.
import Derived.Test.YtmcdanpecajklaaLay
import Derived.Test.YtmcdanpecajklaaQTernsimValuesx0
import Derived.Test.YtmcdanpecajklaaQTernsimValuesx1
import Derived.Test.YtmcdanpecajklaaQTernsimValuesx2
namespace Go.Proofs.Ytmcdanpecajklaa.QTernsimValues
open Go.RowKit Go.Proofs.YtmcdanpecajklaaW.PrintWords Go.Proofs.YtmcdanpecajklaaW.PrintLast Go.Proofs.YtmcdanpecajklaaW.PrintMore
attribute [local go_sem] max2_int min2_int max_two min_two max_three min_three max_four min_four
set_option linter.unusedVariables false
set_option linter.unusedSimpArgs false

def ternary_Next.l0 : Nat → List Int → List Int → List (S36) → Int → Int → Option (List Int × Int)
 | 0, _, _, _, _, _ => none
 | k + 1, x8, x10, x24, x25, x26 => if x26 < x25 then (if 0 ≤ x26 then (if x26 < (x24.length : Int) then ((ternary_of.f x8 ((rd_T36 x24 x26).f0)).bind fun t144 => (if x10.length < 140737488355328 then (ternary_Next.l0 k x8 (x10 ++ [t144]) x24 x25 (wrap64 (x26 + 1))) else (none))) else (none)) else (none)) else (some (x10, 0))
def ternary_Next.f (k : Nat) (a0_0 : Int) (l0_1 : List (S36)) (l0_2 : List (S69)) (l0_3 : List Int) (l0_4 : List Int) (l1 : List Int) (l2 : List Int) : Option (List Int × Int) := (ternary_All.f k a0_0 l0_1 l0_2 l0_3 l0_4 l1 l2).bind fun bt138 => (if bt138.2 = 0 then (ternary_Next.l0 k bt138.1 ([] : List Int) l0_1 (l0_1.length : Int) 0) else (some (([] : List Int), bt138.2)))
set_option maxHeartbeats 8000000 in
set_option maxRecDepth 100000 in
theorem ternary_Next.calls (k : Nat) (a0_0 : Int) (A0_1 : Option Addr) (c0_1 : Nat) (l0_1 : List (S36)) (A0_2 : Option Addr) (c0_2 : Nat) (l0_2 : List (S69)) (A0_3 : Option Addr) (c0_3 : Nat) (l0_3 : List Int) (A0_4 : Option Addr) (c0_4 : Nat) (l0_4 : List Int) (A1 : Option Addr) (c1 : Nat) (l1 : List Int) (A2 : Option Addr) (c2 : Nat) (l2 : List Int) (r1 : List Int) (r2 : Int) (w : World) (hr0_1 : Kd.C k36 w A0_1 l0_1.length l0_1) (hc0_1 : l0_1.length ≤ c0_1) (hr0_2 : Kd.C k69 w A0_2 l0_2.length l0_2) (hc0_2 : l0_2.length ≤ c0_2) (hr0_3 : Kd.C (Kd.int .i64) w A0_3 l0_3.length l0_3) (hc0_3 : l0_3.length ≤ c0_3) (hr0_4 : Kd.C (Kd.int .i64) w A0_4 l0_4.length l0_4) (hc0_4 : l0_4.length ≤ c0_4) (hr1 : Kd.C (Kd.int .u8) w A1 l1.length l1) (hc1 : l1.length ≤ c1) (hr2 : Kd.C (Kd.int .u8) w A2 l2.length l2) (hc2 : l2.length ≤ c2) (h : ternary_Next.f k a0_0 l0_1 l0_2 l0_3 l0_4 l1 l2 = some (r1, r2)) :
  Calls Try.prog 34 #[.agg #[.int .i64 a0_0, .slice A0_1 l0_1.length c0_1, .slice A0_2 l0_2.length c0_2, .slice A0_3 l0_3.length c0_3, .slice A0_4 l0_4.length c0_4], .slice A1 l1.length c1, .slice A2 l2.length c2] w fun e w' => ∃ v0_ : Value, e = .returned (.tuple #[v0_, .int .i64 r2]) ∧ Kd.R (Kd.int .u8) 5 w' w.heap.size (fun _ => True) v0_ r1 ∧ Below w.heap.size w w' := by
 have hu26 := Try.underlying26
 have hu36 := Try.underlying36
 have HR0_1 := M_ hr0_1
 have HC0_1 := M_ hc0_1
 clear hr0_1 hc0_1
 have HR0_2 := M_ hr0_2
 have HC0_2 := M_ hc0_2
 clear hr0_2 hc0_2
 have HR0_3 := M_ hr0_3
 have HC0_3 := M_ hc0_3
 clear hr0_3 hc0_3
 have HR0_4 := M_ hr0_4
 have HC0_4 := M_ hc0_4
 clear hr0_4 hc0_4
 have HR1 := M_ hr1
 have HC1 := M_ hc1
 clear hr1 hc1
 have HR2 := M_ hr2
 have HC2 := M_ hc2
 clear hr2 hc2
 have HB := M_ (Below.refl w.heap.size w)
 have H : ((ternary_All.f k a0_0 l0_1 l0_2 l0_3 l0_4 l1 l2).bind fun bt138 => (if bt138.2 = 0 then (ternary_Next.l0 k bt138.1 ([] : List Int) l0_1 (l0_1.length : Int) 0) else (some (([] : List Int), bt138.2)))) = some (r1, r2) := h
 clear h
 replace H := Option.bind_eq_some_iff.mp H
 obtain ⟨⟨t138, t141⟩, A40, H⟩ := H
 replace H : (if t141 = 0 then (ternary_Next.l0 k t138 ([] : List Int) l0_1 (l0_1.length : Int) 0) else (some (([] : List Int), t141))) = some (r1, r2) := H
 have A4 := M_ A40
 clear A40
 by_cases c5 : t141 = 0
 ·rw [if_pos c5] at H
  have c5b0 : (t141 == 0) = true := beq_iff_eq.mpr c5
  have c5b1 : (t141 != 0) = false := bne_eq_false_iff_eq.mpr c5
  clear c5
  have H' := M_ H
  clear H
  go_enter Try.func34, Try.ntmps34
  go_wp2_with (first | ((with_reducible refine gate_dst (N := 3) rfl ?_); refine box_event ?hg (N := 3) ?hd (cs := #[.int .i64 a0_0, .slice A0_1 l0_1.length c0_1, .slice A0_2 l0_2.length c0_2, .slice A0_3 l0_3.length c0_3, .slice A0_4 l0_4.length c0_4]) (t := 26) ?hr ?_; (case hd => rfl); (case hg => rfl); (case hr => first | (go_simp; done) | (go_simp; rfl)); intro gb137 hg w6 hbox hb; have n1_ := M_ (hbox); have n2_ := M_ ((by rw [hg]; exact (below_size (wl_ HB.out)) : w.heap.size ≤ gb137)); have n3_ := M_ ((by rw [hg]; exact (below_size (wl_ HB.out)) : w.heap.size ≤ gb137)); replace HB := wb_ HB hb; have BK137 := n1_; have GW137 := n2_; have GE137 := n3_; have gi137 : Ge _ _ := ⟨GE137.out⟩; clear n1_ n2_ n3_; clear hb hbox hg; obtain ⟨hcz7_0, hcz7_1, hcz7_2, hcz7_3, hcz7_4⟩ := cz5_ BK137.out; have hfz7_0 := blk_frozen BK137.out 0; have hfz7_1 := blk_frozen BK137.out 1; have hfz7_2 := blk_frozen BK137.out 2; have hfz7_3 := blk_frozen BK137.out 3; have hfz7_4 := blk_frozen BK137.out 4) | ((with_reducible refine gate_callee (f := 70) rfl ?_); refine goesL_ (some 17) rfl rfl Try.func70 (by kernel_rfl) rfl #[.agg #[.int .i64 a0_0, .slice A0_1 l0_1.length c0_1, .slice A0_2 l0_2.length c0_2, .slice A0_3 l0_3.length c0_3, .slice A0_4 l0_4.length c0_4], .slice A1 l1.length c1, .slice A2 l2.length c2] rfl (by (try simp only [List.map_toArray, List.map_cons, List.map_nil]); first | done | rfl) ?_; (with_reducible refine (ternary_All.calls k a0_0 _ _ l0_1 _ _ l0_2 _ _ l0_3 _ _ l0_4 (fun k_ => k_ < w.heap.size) _ _ l1 (fun k_ => k_ < w.heap.size) _ _ l2 t138 t141 _ ?side1 ?side2 ?side3 ?side4 ?side5 ?side6 ?side7 ?side8 ?side9 ?side10 A4.out).mono ?_); (case side1 => exact cl_ (Kd.C_below HR0_1.out HB.out)); (case side2 => exact HC0_1.out); (case side3 => exact cl_ (Kd.C_below HR0_2.out HB.out)); (case side4 => exact HC0_2.out); (case side5 => exact cl_ (Kd.C_below HR0_3.out HB.out)); (case side6 => exact HC0_3.out); (case side7 => exact cl_ (Kd.C_below HR0_4.out HB.out)); (case side8 => exact HC0_4.out); (case side9 => exact Kd.V_mk HC1.out (Kd.F_below (Kd.C_F (Kd.heap_int .u8) HR1.out) (ws_ HB.out))); (case side10 => exact Kd.V_mk HC2.out (Kd.F_below (Kd.C_F (Kd.heap_int .u8) HR2.out) (ws_ HB.out))); rintro e w8 ⟨v139, rfl, ho0, hb⟩; refine ⟨_, rfl, ?_⟩; have n0_ := M_ (Kd.R_lower (Kd.R_mono (ok' := fun k_ => True) ho0 (fun _ hk_ => trivial)) (below_size (ws_ HB.out))); have HO140 := n0_; replace BK137 := bb_ BK137 hb; replace HB := wb_ HB hb; clear n0_; (try clear hb); (try clear hb2); (try clear hk); (try clear hi); (try clear ho0); obtain ⟨hcz9_0, hcz9_1, hcz9_2, hcz9_3, hcz9_4⟩ := cz5_ BK137.out; have hfz9_0 := blk_frozen BK137.out 0; have hfz9_1 := blk_frozen BK137.out 1; have hfz9_2 := blk_frozen BK137.out 2; have hfz9_3 := blk_frozen BK137.out 3; have hfz9_4 := blk_frozen BK137.out 4))
  go_loopg [10, 26] k (fun kq v10 v26 w' => ∃ (x10_1 : List Int) (x26_1 : Int), v26 = .int .i64 x26_1 ∧ Aside0 (ternary_Next.l0 kq t138 x10_1 l0_1 (l0_1.length : Int) x26_1 = some (r1, r2)) ∧ Aside0 (kq ≤ k) ∧ Aside0 (Kd.R (Kd.int .u8) 5 w' w.heap.size (fun k_ => some k_ ≠ (v10 : Value).ownBlock) v139 t138) ∧ Aside0 (Kd.R (Kd.int .u8) 5 w' w.heap.size (fun k_ => some k_ ≠ (v139 : Value).ownBlock) v10 x10_1) ∧ Aside0 (w'.heap[gb137]? = some (.cells #[.int .i64 a0_0, (.slice A0_1 l0_1.length c0_1), (.slice A0_2 l0_2.length c0_2), (.slice A0_3 l0_3.length c0_3), (.slice A0_4 l0_4.length c0_4)] 26 (0, 0))) ∧ Aside0 (Below w.heap.size w w'))
  case atStart => exact ⟨(([] : List Int)), (0), (by first | rfl | (simp; done) | (simp [*]; done)), H', ⟨Nat.le_refl _⟩, ⟨by (with_reducible repeat (first | apply a0_ | apply a1_ | apply a2_)); exact Kd.R_mono HO140.out (fun _ hk => (by simp [Value.ownBlock]))⟩, ⟨by first | exact Kd.R_nil _ _ _ _ _ | exact Kd.N_nil _ _ _ _ _ | exact Kd.V_nil _ _ _ _ _ | exact Kd.Q_nil _ _ _ _ _ | exact Kd.S_nil _ _ _ _ _⟩, ⟨by (with_reducible repeat (first | refine k0_ ?_ _ | refine k1_ ?_ | refine k2_ ?_ _)); exact BK137.out⟩, ⟨by repeat (first | (with_reducible first | exact HB.out | apply b0_ | apply b1_ | apply b2_ | refine below_set ?_ GE137.out) | exact HB.out)⟩⟩
  case round =>
   clear H'
   try clear c1; try clear c2; try clear p2; try clear c3; try clear c5; try clear c5b0; try clear c5b1; try clear c7; try clear hcz7_0 hcz7_1 hcz7_2 hcz7_3 hcz7_4; try clear hcz9_0 hcz9_1 hcz9_2 hcz9_3 hcz9_4; try clear hfz7_0 hfz7_1 hfz7_2 hfz7_3 hfz7_4; try clear hfz9_0 hfz9_1 hfz9_2 hfz9_3 hfz9_4
   obtain ⟨x10_1, x26_1, rfl, HA, HK1, HO_8, HO_10, BK137, HB⟩ := hrel
   cases gk with
   | zero => exact absurd HA.out (by simp [ternary_Next.l0])
   | succ k1 =>
    have H := HA.out
    clear HA
    simp only [ternary_Next.l0] at H
    by_cases c10 : x26_1 < (l0_1.length : Int)
    ·rw [if_pos c10] at H
     have c10b0 : decide (x26_1 < (l0_1.length : Int)) = true := decide_eq_true c10
     clear c10
     by_cases c11 : 0 ≤ x26_1
     ·rw [if_pos c11] at H
      have c11b0 : decide (0 ≤ x26_1) = true := decide_eq_true c11
      clear c11
      by_cases c12 : x26_1 < (l0_1.length : Int)
      ·rw [if_pos c12] at H
       have c12b0 : decide (x26_1 < (l0_1.length : Int)) = true := decide_eq_true c12
       clear c12
       replace H := Option.bind_eq_some_iff.mp H
       obtain ⟨t144, A130, H⟩ := H
       replace H : (if x10_1.length < 140737488355328 then (ternary_Next.l0 k1 t138 (x10_1 ++ [t144]) l0_1 (l0_1.length : Int) (wrap64 (x26_1 + 1))) else (none)) = some (r1, r2) := H
       have A13 := M_ A130
       clear A130
       by_cases c14 : x10_1.length < 140737488355328
       ·rw [if_pos c14] at H
        have LMc14 := M_ c14
        clear c14
        obtain ⟨y145, hy145⟩ : ∃ y_ : List Int, y_ = (x10_1 ++ [t144]) := ⟨_, rfl⟩
        replace H : (ternary_Next.l0 k1 t138 y145 l0_1 (l0_1.length : Int) (wrap64 (x26_1 + 1))) = some (r1, r2) := by first | (rw [hy145]; with_reducible exact H) | (have H2_ := (Option.bind_some _ _).symm.trans H; rw [hy145]; with_reducible exact H2_) | (have H2_ := (Option.bind_some _ _).symm.trans H; with_reducible exact H2_) | with_reducible exact H | (rw [hy145]; exact H) | exact H
        have Ny145 := M_ hy145
        clear hy145
        have H' := M_ H
        clear H
        have p142 : 0 ≤ (x26_1 : Int) := of_decide_eq_true (by first | (with_reducible assumption) | assumption)
        have q142 : x26_1 < (l0_1.length : Int) := of_decide_eq_true (by first | (with_reducible assumption) | assumption)
        obtain ⟨ad142, e142, hx142_0, hx142_1⟩ := at_T36 HR0_1.out x26_1 p142 q142
        cases e142
        replace hx142_0 := (HB.out.cell (World.block_lt_of_cell? w _ hx142_0)).trans hx142_0
        replace hx142_1 := (HB.out.cell (World.block_lt_of_cell? w _ hx142_1)).trans hx142_1
        replace p142 := eq_true p142
        replace q142 := eq_true q142
        go_wp2_with (first | ((with_reducible refine gate_dst (N := 12) rfl ?_); refine box_event ?hg (N := 12) ?hd (cs := #[.int .i64 0, .int .i64 0]) (t := 36) ?hr ?_; (case hd => rfl); (case hg => rfl); (case hr => first | (go_simp; done) | (go_simp; rfl)); intro gb143 hg w15 hbox hb; have n4_ := M_ (hbox); have n5_ := M_ ((by rw [hg]; exact (below_size (ws_ HB.out)) : w.heap.size ≤ gb143)); have n6_ := M_ ((by rw [hg]; exact (below_size (ws_ HB.out)) : w.heap.size ≤ gb143)); have n7_ := M_ ((by rw [hg]; exact Nat.ne_of_lt (blk_lt (bl_ BK137.out)) : gb137 ≠ gb143)); have n8_ := M_ ((by rw [hg]; exact Nat.ne_of_gt (blk_lt (bl_ BK137.out)) : gb143 ≠ gb137)); replace HO_8 := rb_ HO_8 hb; replace HO_10 := rb_ HO_10 hb; replace BK137 := bb_ BK137 hb; replace HB := wb_ HB hb; have BK143 := n4_; have GW143 := n5_; have GE143 := n6_; have gi143 : Ge _ _ := ⟨GE143.out⟩; have NB137_143 := n7_; have NB143_137 := n8_; clear n4_ n5_ n6_ n7_ n8_; clear hb hbox hg; have hnb16 := NB143_137.out; have hnc16 := NB137_143.out; obtain ⟨hcz17_0, hcz17_1⟩ := cz2_ BK143.out; obtain ⟨hfz17_0, hfz17_1⟩ := fz2_ BK143.out; obtain ⟨Ao18, co18, eo18⟩ := Kd.R_slice HO_8.out; subst eo18) | ((with_reducible refine gate_callee (f := 71) rfl ?_); refine goesL_ (some 34) rfl rfl Try.func71 (by kernel_rfl) rfl #[.slice Ao18 t138.length co18, .int .i64 ((rd_T36 l0_1 x26_1).f0)] rfl (by (try simp only [List.map_toArray, List.map_cons, List.map_nil]); first | done | rfl) ?_; (with_reducible refine (ternary_of.calls _ _ t138 ((rd_T36 l0_1 x26_1).f0) t144 _ ?side1 ?side2 A13.out).mono ?_); (case side1 => refine (Kd.R_reads' (e := 5) (base := w.heap.size) (ok := fun k_ => some k_ ≠ (u10 : Value).ownBlock) (n := t138.length) (c := co18) ?_).2.2; exact (rl_ (Kd.R_mono (Kd.R_far (p := ⟨gb143, 1, none⟩) (Kd.R_far (p := ⟨gb143, 0, none⟩) (Kd.R_types HO_8.out BK143.out (by decide)) (fun _ hk => hk.2) (.int .i64 ((rd_T36 l0_1 x26_1).f0))) (fun _ hk => hk.2) (.int .i64 ((rd_T36 l0_1 x26_1).f1))) (fun _ h_ => h_.1)))); (case side2 => exact (Kd.R_reads' HO_8.out).2.1); rintro e w' ⟨rfl, ⟨nd, rfl⟩⟩; refine ⟨_, rfl, ?_⟩) | ((with_reducible refine gate_builtin (b := .append) (xs := #[.tmp 30, .tmp 35]) rfl ?_); have q1_ := M_ (Kd.R_far (p := ⟨gb143, 1, none⟩) (Kd.R_far (p := ⟨gb143, 0, none⟩) (Kd.R_types HO_8.out BK143.out (by decide)) (fun _ hk => hk.2) (.int .i64 ((rd_T36 l0_1 x26_1).f0))) (fun _ hk => hk.2) (.int .i64 ((rd_T36 l0_1 x26_1).f1))); at_builtin; refine Kd.R_append (Kd.int .u8) (w0 := w) w.heap.size rfl (.tmp 30) (.tmp 35) 70 5 (.int .u8 0) 1 rfl Try.underlying70 info5 rfl (by decide) (by omega) u10 x10_1 t144 [.int .u8 t144] (fun k_ => some k_ ≠ (.slice Ao18 t138.length co18 : Value).ownBlock) (fun _ => False) rfl (by first | (go_simp; done) | (go_simp; rfl)) ?aP (fun _ hk => hk.elim) ?aF ?aO ?aB ?aS ?aL ?_; (case aP => exact rfl); (case aB => exact (ws_ HB.out)); (case aF => exact (fun k_ hk => Kd.fresh' (Kd.R_lt (rl_ (Kd.R_mono q1_.out (fun _ h_ => h_.1)))) k_ hk)); (case aO => exact (rl_ (Kd.R_mono (Kd.R_far (p := ⟨gb143, 1, none⟩) (Kd.R_far (p := ⟨gb143, 0, none⟩) (Kd.R_types HO_10.out BK143.out (by decide)) (fun _ hk => hk.2) (.int .i64 ((rd_T36 l0_1 x26_1).f0))) (fun _ hk => hk.2) (.int .i64 ((rd_T36 l0_1 x26_1).f1))) (fun _ hk => hk.1)))); (case aS => exact (below_size (ws_ HB.out))); (case aL => have := LMc14.out; omega); intro v146 w19 ho hb hg hat; rw [← Ny145.out] at ho; have n0_ := M_ (Kd.R_after (ok := (fun _ => True)) (rl_ (Kd.R_mono q1_.out (fun _ hk => ⟨trivial, hk.1⟩))) hg hat); have n1_ := M_ (blk_grown (g := gb137) (o := .cells #[.int .i64 a0_0, .slice (some ad142) l0_1.length c0_1, .slice A0_2 l0_2.length c0_2, .slice A0_3 l0_3.length c0_3, .slice A0_4 l0_4.length c0_4] 26 (0, 0)) (by (with_reducible repeat (first | refine k0_ ?_ _ | refine k1_ ?_ | refine k2_ ?_ _)); refine blk_far ?_ NB137_143.out _; (with_reducible repeat (first | refine k0_ ?_ _ | refine k1_ ?_ | refine k2_ ?_ _)); refine blk_far ?_ NB137_143.out _; (with_reducible repeat (first | refine k0_ ?_ _ | refine k1_ ?_ | refine k2_ ?_ _)); exact BK137.out) hg (Kd.R_ne HO_10.out BK137.out (by decide))); have n2_ := M_ (blk_grown (g := gb143) (o := .cells #[.int .i64 ((rd_T36 l0_1 x26_1).f0), .int .i64 ((rd_T36 l0_1 x26_1).f1)] 36 (0, 0)) (by (with_reducible repeat (first | refine k0_ ?_ _ | refine k1_ ?_ | refine k2_ ?_ _)); refine blk_put (cs := #[.int .i64 ((rd_T36 l0_1 x26_1).f0), .int .i64 0]) ?_ 1 _ rfl; (with_reducible repeat (first | refine k0_ ?_ _ | refine k1_ ?_ | refine k2_ ?_ _)); refine blk_put (cs := #[.int .i64 0, .int .i64 0]) ?_ 0 _ rfl; (with_reducible repeat (first | refine k0_ ?_ _ | refine k1_ ?_ | refine k2_ ?_ _)); exact BK143.out) hg (Kd.R_ne HO_10.out BK143.out (by decide))); have n3_ := M_ (hb); have n4_ := M_ (ho); clear HO_8; clear BK137; clear BK143; clear HB; clear HO_10; have HO_8 := n0_; have BK137 := n1_; have BK143 := n2_; have HB := n3_; have HO147 := n4_; clear n0_ n1_ n2_ n3_ n4_; clear ho hb hg hat))
        go_roundg k1
        case measure => have := HK1.out; omega
        case rel => exact ⟨(y145), (wrap64 (x26_1 + 1)), (by first | rfl | (simp; done) | (simp [*]; done)), H', ⟨by have := HK1.out; omega⟩, ⟨by (with_reducible repeat (first | apply a0_ | apply a1_ | apply a2_)); exact Kd.R_mono HO_8.out (fun _ hk => hk.2)⟩, ⟨by (with_reducible repeat (first | apply a0_ | apply a1_ | apply a2_)); exact HO147.out⟩, ⟨by (with_reducible repeat (first | refine k0_ ?_ _ | refine k1_ ?_ | refine k2_ ?_ _)); exact BK137.out⟩, ⟨by repeat (first | (with_reducible first | exact HB.out | apply b0_ | apply b1_ | apply b2_ | refine below_set ?_ GE137.out | refine below_set ?_ GE143.out) | exact HB.out)⟩⟩
       ·rw [if_neg c14] at H
        exact absurd H (by simp)
      ·rw [if_neg c12] at H
       exact absurd H (by simp)
     ·rw [if_neg c11] at H
      exact absurd H (by simp)
    ·rw [if_neg c10] at H
     have c10b0 : decide (x26_1 < (l0_1.length : Int)) = false := decide_eq_false c10
     clear c10
     simp only [Option.some.injEq, Prod.mk.injEq] at H
     obtain ⟨rfl, rfl⟩ := H
     go_wp2
     go_ret2
     exact ⟨_, by first | rfl | (simp [errW_none, errW_some] <;> rfl) | (simp [*, errW_none, errW_some] <;> rfl), by (with_reducible repeat (first | apply a0_ | apply a1_ | apply a2_)); exact Kd.R_mono HO_10.out (fun _ hk => trivial), by repeat (first | (with_reducible first | exact HB.out | apply b0_ | apply b1_ | apply b2_ | refine below_set ?_ GE137.out) | exact HB.out)⟩
 ·rw [if_neg c5] at H
  have c5b0 : (t141 == 0) = false := beq_eq_false_iff_ne.mpr c5
  have c5b1 : (t141 != 0) = true := bne_iff_ne.mpr c5
  simp only [Option.some.injEq, Prod.mk.injEq] at H
  obtain ⟨rfl, rfl⟩ := H
  go_enter Try.func34, Try.ntmps34
  go_wp2_with (first | ((with_reducible refine gate_dst (N := 3) rfl ?_); refine box_event ?hg (N := 3) ?hd (cs := #[.int .i64 a0_0, .slice A0_1 l0_1.length c0_1, .slice A0_2 l0_2.length c0_2, .slice A0_3 l0_3.length c0_3, .slice A0_4 l0_4.length c0_4]) (t := 26) ?hr ?_; (case hd => rfl); (case hg => rfl); (case hr => first | (go_simp; done) | (go_simp; rfl)); intro gb137 hg w20 hbox hb; have n1_ := M_ (hbox); have n2_ := M_ ((by rw [hg]; exact (below_size (wl_ HB.out)) : w.heap.size ≤ gb137)); have n3_ := M_ ((by rw [hg]; exact (below_size (wl_ HB.out)) : w.heap.size ≤ gb137)); replace HB := wb_ HB hb; have BK137 := n1_; have GW137 := n2_; have GE137 := n3_; have gi137 : Ge _ _ := ⟨GE137.out⟩; clear n1_ n2_ n3_; clear hb hbox hg; obtain ⟨hcz21_0, hcz21_1, hcz21_2, hcz21_3, hcz21_4⟩ := cz5_ BK137.out; have hfz21_0 := blk_frozen BK137.out 0; have hfz21_1 := blk_frozen BK137.out 1; have hfz21_2 := blk_frozen BK137.out 2; have hfz21_3 := blk_frozen BK137.out 3; have hfz21_4 := blk_frozen BK137.out 4) | ((with_reducible refine gate_callee (f := 70) rfl ?_); refine goesL_ (some 17) rfl rfl Try.func70 (by kernel_rfl) rfl #[.agg #[.int .i64 a0_0, .slice A0_1 l0_1.length c0_1, .slice A0_2 l0_2.length c0_2, .slice A0_3 l0_3.length c0_3, .slice A0_4 l0_4.length c0_4], .slice A1 l1.length c1, .slice A2 l2.length c2] rfl (by (try simp only [List.map_toArray, List.map_cons, List.map_nil]); first | done | rfl) ?_; (with_reducible refine (ternary_All.calls k a0_0 _ _ l0_1 _ _ l0_2 _ _ l0_3 _ _ l0_4 (fun k_ => k_ < w.heap.size) _ _ l1 (fun k_ => k_ < w.heap.size) _ _ l2 t138 t141 _ ?side1 ?side2 ?side3 ?side4 ?side5 ?side6 ?side7 ?side8 ?side9 ?side10 A4.out).mono ?_); (case side1 => exact cl_ (Kd.C_below HR0_1.out HB.out)); (case side2 => exact HC0_1.out); (case side3 => exact cl_ (Kd.C_below HR0_2.out HB.out)); (case side4 => exact HC0_2.out); (case side5 => exact cl_ (Kd.C_below HR0_3.out HB.out)); (case side6 => exact HC0_3.out); (case side7 => exact cl_ (Kd.C_below HR0_4.out HB.out)); (case side8 => exact HC0_4.out); (case side9 => exact Kd.V_mk HC1.out (Kd.F_below (Kd.C_F (Kd.heap_int .u8) HR1.out) (ws_ HB.out))); (case side10 => exact Kd.V_mk HC2.out (Kd.F_below (Kd.C_F (Kd.heap_int .u8) HR2.out) (ws_ HB.out))); rintro e w22 ⟨v139, rfl, ho0, hb⟩; refine ⟨_, rfl, ?_⟩; have n0_ := M_ (Kd.R_lower (Kd.R_mono (ok' := fun k_ => True) ho0 (fun _ hk_ => trivial)) (below_size (ws_ HB.out))); have HO140 := n0_; replace BK137 := bb_ BK137 hb; replace HB := wb_ HB hb; clear n0_; (try clear hb); (try clear hb2); (try clear hk); (try clear hi); (try clear ho0)))
  go_ret2
  exact ⟨_, by first | rfl | (simp [errW_none, errW_some] <;> rfl) | (simp [*, errW_none, errW_some] <;> rfl), by first | exact Kd.R_nil _ _ _ _ _ | exact Kd.N_nil _ _ _ _ _ | exact Kd.V_nil _ _ _ _ _ | exact Kd.Q_nil _ _ _ _ _ | exact Kd.S_nil _ _ _ _ _, by repeat (first | (with_reducible first | exact HB.out | apply b0_ | apply b1_ | apply b2_ | refine below_set ?_ GE137.out) | exact HB.out)⟩

def bits_Mul64.f (a0 : Int) (a1 : Int) : Option (Int × Int) := some (IntKind.u64.wrap ((IntKind.u64.wrap ((IntKind.u64.wrap ((a0 / 4294967296) * (a1 / 4294967296))) + ((IntKind.u64.wrap ((IntKind.u64.wrap ((a0 / 4294967296) * (Go.bits .and .u64 a1 4294967295))) + ((IntKind.u64.wrap ((Go.bits .and .u64 a0 4294967295) * (Go.bits .and .u64 a1 4294967295))) / 4294967296))) / 4294967296))) + ((IntKind.u64.wrap ((Go.bits .and .u64 (IntKind.u64.wrap ((IntKind.u64.wrap ((a0 / 4294967296) * (Go.bits .and .u64 a1 4294967295))) + ((IntKind.u64.wrap ((Go.bits .and .u64 a0 4294967295) * (Go.bits .and .u64 a1 4294967295))) / 4294967296))) 4294967295) + (IntKind.u64.wrap ((Go.bits .and .u64 a0 4294967295) * (a1 / 4294967296))))) / 4294967296)), IntKind.u64.wrap (a0 * a1))
set_option maxHeartbeats 8000000 in
set_option maxRecDepth 100000 in
theorem bits_Mul64.calls (a0 : Int) (a1 : Int) (r1 : Int) (r2 : Int) (w : World) (h : bits_Mul64.f a0 a1 = some (r1, r2)) :
  Calls Try.prog 109 #[.int .u64 a0, .int .u64 a1] w fun e w' => e = .returned (.tuple #[.int .u64 r1, .int .u64 r2]) ∧ Drawn0 w w' := by
 have H : (some (IntKind.u64.wrap ((IntKind.u64.wrap ((IntKind.u64.wrap ((a0 / 4294967296) * (a1 / 4294967296))) + ((IntKind.u64.wrap ((IntKind.u64.wrap ((a0 / 4294967296) * (Go.bits .and .u64 a1 4294967295))) + ((IntKind.u64.wrap ((Go.bits .and .u64 a0 4294967295) * (Go.bits .and .u64 a1 4294967295))) / 4294967296))) / 4294967296))) + ((IntKind.u64.wrap ((Go.bits .and .u64 (IntKind.u64.wrap ((IntKind.u64.wrap ((a0 / 4294967296) * (Go.bits .and .u64 a1 4294967295))) + ((IntKind.u64.wrap ((Go.bits .and .u64 a0 4294967295) * (Go.bits .and .u64 a1 4294967295))) / 4294967296))) 4294967295) + (IntKind.u64.wrap ((Go.bits .and .u64 a0 4294967295) * (a1 / 4294967296))))) / 4294967296)), IntKind.u64.wrap (a0 * a1))) = some (r1, r2) := h
 clear h
 simp only [Option.some.injEq, Prod.mk.injEq] at H
 obtain ⟨rfl, rfl⟩ := H
 go_enter Try.func109, Try.ntmps109
 go_wp2
 go_ret2
 exact ⟨by first | rfl | (simp; done) | (simp [*]; done), by repeat (first | exact Drawn0.refl _ | apply Drawn0.step)⟩

def bits_Mul.f (a0 : Int) (a1 : Int) : Option (Int × Int) := (bits_Mul64.f a0 a1).bind fun bt148 => (some (bt148.1, bt148.2))
set_option maxHeartbeats 8000000 in
set_option maxRecDepth 100000 in
theorem bits_Mul.calls (a0 : Int) (a1 : Int) (r1 : Int) (r2 : Int) (w : World) (h : bits_Mul.f a0 a1 = some (r1, r2)) :
  Calls Try.prog 78 #[.int .u64 a0, .int .u64 a1] w fun e w' => e = .returned (.tuple #[.int .u64 r1, .int .u64 r2]) ∧ Drawn0 w w' := by
 have H : ((bits_Mul64.f a0 a1).bind fun bt148 => (some (bt148.1, bt148.2))) = some (r1, r2) := h
 clear h
 replace H := Option.bind_eq_some_iff.mp H
 obtain ⟨⟨t148, t149⟩, A30, H⟩ := H
 replace H : (some (t148, t149)) = some (r1, r2) := H
 have A3 := M_ A30
 clear A30
 simp only [Option.some.injEq, Prod.mk.injEq] at H
 obtain ⟨rfl, rfl⟩ := H
 go_enter Try.func78, Try.ntmps78
 go_wp2_with (first | ((with_reducible refine gate_callee (f := 109) rfl ?_); refine goesL_ (some 25) rfl rfl Try.func109 (by kernel_rfl) rfl #[.int .u64 a0, .int .u64 a1] rfl (by (try simp only [List.map_toArray, List.map_cons, List.map_nil]); first | done | rfl) ?_; (with_reducible refine (bits_Mul64.calls a0 a1 t148 t149 _ A3.out).mono ?_); rintro e w' ⟨rfl, ⟨nd, rfl⟩⟩; refine ⟨_, rfl, ?_⟩))
 go_ret2
 exact ⟨by first | rfl | (simp; done) | (simp [*]; done), by repeat (first | exact Drawn0.refl _ | apply Drawn0.step)⟩

-- bits_Mul.f bits_Mul64.f
theorem mul18 (a : Int) (h0 : 0 ≤ a) (h1 : a ≤ 60000) : bits_Mul.f 1 a = some (0, a) := by
 have hk : ∀ n : Int, 0 ≤ n → n < 2 ^ 32 → IntKind.u64.wrap n = n := fun n h0 h1 => by rw [IntKind.wrap_u64]; omega
 have m0 : ∀ x : Int, 0 ≤ x → x < 2 ^ 32 → Go.bits .and .u64 x 4294967295 = x := fun x h0 h1 => by
  have := bits_mask .u64 32 (by decide) hk 32 (by decide) x h0 h1
  rw [show (2 : Int) ^ 32 - 1 = 4294967295 from rfl] at this
  rw [this]; omega
 have d0 : a / 4294967296 = 0 := by omega
 have d1 : (1 : Int) / 4294967296 = 0 := by decide
 unfold bits_Mul.f bits_Mul64.f
 rw [m0 1 (by decide) (by decide), m0 a h0 (by omega), d0, d1]
 simp only [Int.zero_mul, Int.mul_zero, Int.one_mul, Int.zero_add, Int.add_zero]
 rw [hk 0 (by decide) (by decide), hk a h0 (by omega), d0]
 simp only [Int.add_zero, Int.zero_add]
 rw [hk 0 (by decide) (by decide), m0 0 (by decide) (by decide)]
 simp only [Option.bind_some]
 rfl
theorem madeI8 (n : Nat) : madeCells #[Value.int .u8 0] n = (encs (Value.int .u8) (List.replicate n 0)).toArray := by
 apply Array.ext
 ·simp [madeCells, encs]
 ·intro i h1 h2
  simp only [madeCells, encs, Array.getElem_map, List.getElem_toArray, List.getElem_map, List.getElem_replicate]
  simp [Nat.mod_one]
theorem encsI_one8 (X : List Int) : ∀ v ∈ encs (Value.int .u8) X, v.oneCell' = true := by
 intro v hv
 simp only [encs, List.mem_map] at hv
 obtain ⟨x, _, rfl⟩ := hv
 rfl
theorem rep_splice8 (x : Int) (N k m : Nat) (h : k + m ≤ N) : splice (encs (Value.int .u8) (List.replicate k x ++ List.replicate (N - k) 0)) k (encs (Value.int .u8) (List.replicate m x)) = encs (Value.int .u8) (List.replicate (k + m) x ++ List.replicate (N - (k + m)) 0) := by
 unfold splice encs
 simp only [List.map_append, List.map_replicate, List.length_replicate]
 rw [List.take_append_of_le_length (by simp), List.take_of_length_le (by simp), List.drop_append, List.drop_of_length_le (by simp), List.drop_replicate, List.length_replicate, List.nil_append, ← List.append_assoc, List.replicate_append_replicate]
 congr 2
 omega
theorem rep_src8 {W : World} {g N k : Nat} {x : Int} (h : W.heap[g]? = some (.cells (encs (Value.int .u8) (List.replicate k x ++ List.replicate (N - k) 0)).toArray 5 (0, 0))) (m : Nat) (hm : m ≤ k) : ∀ j v, (encs (Value.int .u8) (List.replicate m x))[j]? = some v → W.cell? ((⟨g, 0, none⟩ : Addr).add j) = some v := by
 intro j v hv
 have hj : j < m := by
  obtain ⟨h1, _⟩ := List.getElem?_eq_some_iff.1 hv
  simpa [encs] using h1
 have e : v = .int .u8 x := by
  obtain ⟨h1, e⟩ := List.getElem?_eq_some_iff.1 hv
  rw [← e]
  simp [encs]
 have := blk_cell h j
 have e2 : (⟨g, 0, none⟩ : Addr).add j = ⟨g, j, none⟩ := by simp [Addr.add]; omega
 rw [e2, this, e]
 have h3 : j < k := by omega
 simp only [encs, List.map_append, List.map_replicate, List.getElem?_toArray]
 rw [List.getElem?_append_left (by simpa using h3), List.getElem?_replicate, if_pos h3]
theorem row_own8 {w : World} {g base : Nat} {cur : List Int} (h : w.heap[g]? = some (.cells (encs (Value.int .u8) cur).toArray 5 (0, 0))) (hb : base ≤ g) (hl : cur.length ≤ 2000000) : Kd.R (Kd.int .u8) 5 w base (fun _ => True) (.slice (some ⟨g, 0, none⟩) cur.length cur.length) cur := by
 refine Kd.R_of_own (h1 := fun _ => rfl) ?_ (fun _ _ => trivial)
 refine ⟨by simp [encs], Or.inr ⟨g, cur.length, _, rfl, hb, h, Nat.le_refl _, by unfold maxLen; omega, by simp [encs], ?_⟩⟩
 simp only [encs, Nat.mul_one]
 exact List.take_of_length_le (by simp)
theorem infoR8 : (Try.prog.info? 5).map (fun i => (i.zero, i.size, i.bytes)) = some (some (.int .u8 0), 1, 1) := by kernel_rfl
theorem cutA8 (g N k : Nat) (h : k < N) (W : World) : (Instr.slice 70 (.slice (some ⟨g, 0, none⟩) N N) (some (.int .i64 (k : Int))) none none).run Try.prog W = .ok (.slice (some ⟨g, k, none⟩) (N - k) (N - k)) W := by
 obtain ⟨i0, hi, hzz⟩ := Option.map_eq_some_iff.1 infoR8
 simp only [Prod.mk.injEq] at hzz
 have hel : Try.prog.elem 70 = 5 := by simp [Program.elem, Try.underlying70]
 have hu : Try.prog.underlying 70 = some (.slice (Try.prog.elem 70)) := by rw [hel]; exact Try.underlying70
 rw [run_slice_l W 70 _ _ _ hu .i64 _ (by omega) (by omega), hel]
 simp [sizeOf, typeInfo, hi, hzz.2.1, sliced, Result.andThen, Addr.add]
 rw [if_neg (by omega)]
 split <;> simp_all
theorem cutB8 (g N k : Nat) (h0 : 0 < N) (h : k ≤ N) (W : World) : (Instr.slice 70 (.slice (some ⟨g, 0, none⟩) N N) none (some (.int .i64 (k : Int))) none).run Try.prog W = .ok (.slice (some ⟨g, 0, none⟩) k N) W := by
 obtain ⟨i0, hi, hzz⟩ := Option.map_eq_some_iff.1 infoR8
 simp only [Prod.mk.injEq] at hzz
 have hel : Try.prog.elem 70 = 5 := by simp [Program.elem, Try.underlying70]
 have hu : Try.prog.underlying 70 = some (.slice (Try.prog.elem 70)) := by rw [hel]; exact Try.underlying70
 rw [run_slice_h W 70 _ _ _ hu .i64 _ (by omega) (by omega), hel]
 simp [sizeOf, typeInfo, hi, hzz.2.1, sliced, Result.andThen, Addr.add]
def slices_Repeat_uint8_uint8.f (l0 : List Int) (a1 : Int) : Option (List Int) := if l0.length = 1 ∧ 0 ≤ a1 ∧ a1 ≤ 60000 then some (List.replicate a1.toNat (rd l0 0)) else none
set_option maxHeartbeats 8000000 in
set_option maxRecDepth 100000 in
theorem slices_Repeat_uint8_uint8.calls (A0 : Option Addr) (c0 : Nat) (l0 : List Int) (a1 : Int) (r : List Int) (w : World) (hr0 : Kd.C (Kd.int .u8) w A0 l0.length l0) (hc0 : l0.length ≤ c0) (h : slices_Repeat_uint8_uint8.f l0 a1 = some r) :
  Calls Try.prog 41 #[.slice A0 l0.length c0, .int .i64 a1] w fun e w' => ∃ v0_ : Value, e = .returned (v0_) ∧ Kd.R (Kd.int .u8) 5 w' w.heap.size (fun _ => True) v0_ r ∧ Below w.heap.size w w' := by
 have hu70 := Try.underlying70
 have hsI : (Try.prog.info? 5).map (·.size) = some 1 := by kernel_rfl
 unfold slices_Repeat_uint8_uint8.f at h
 split at h
 case isFalse => simp at h
 case isTrue hb =>
 obtain ⟨h1, h2, h3⟩ := hb
 obtain rfl := Option.some.inj h
 obtain ⟨N, rfl⟩ : ∃ N : Nat, a1 = (N : Int) := ⟨a1.toNat, by omega⟩
 obtain ⟨ad, rfl, hx⟩ := Kd.at_int hr0 0 (by omega) (by omega)
 obtain ⟨x, hx'⟩ : ∃ x, x = rd l0 0 := ⟨_, rfl⟩
 rw [← hx'] at hx ⊢
 rw [h1]
 have HX := M_ hx
 obtain ⟨m0, hm0⟩ : ∃ m, m = (if N = 0 then 0 else 1) := ⟨_, rfl⟩
 have HN := M_ (show N ≤ 60000 ∧ m0 ≤ 1 ∧ m0 ≤ N ∧ (1 ≤ N → m0 = 1) ∧ Nat.min 1 N = m0 by
  refine ⟨by omega, ?_, ?_, ?_, ?_⟩
  ·rw [hm0]; split <;> omega
  ·rw [hm0]; split <;> omega
  ·intro h; rw [hm0, if_neg (by omega)]
  ·show min 1 N = m0
   rw [hm0]; split <;> omega)
 clear hm0
 have HM := M_ (mul18 (N : Int) (by omega) (by omega))
 have q1 : IntKind.u64.wrap (N : Int) = (N : Int) := by rw [IntKind.wrap_u64]; omega
 have q2 : wrap64 (N : Int) = (N : Int) := by unfold wrap64; omega
 have b0 : decide ((N : Int) < 0) = false := decide_eq_false (by omega)
 have b1 : decide (9223372036854775807 < (N : Int)) = false := decide_eq_false (by omega)
 have hmk := run_make_row' (P := Try.prog) 70 5 (.int .u8 0) 1 hu70 infoR8 rfl .i64 .i64 N (by omega) (by omega)
 clear hr0 h1 h2 h3 hx hx' h
 go_enter Try.func41, Try.ntmps41
 have HA := M_ (show Aside0 True from ⟨trivial⟩)
 have e0 : ∀ n : Nat, (encs (Value.int .u8) (List.replicate n (0 : Int))).length = n := by simp [encs]
 have HE := M_ e0
 clear e0
 go_wp2_with (first
  | (go_at_call 78; (with_reducible refine (bits_Mul.calls 1 (N : Int) 0 (N : Int) _ HM.out).mono ?_); rintro e w1 ⟨rfl, hd⟩; have HB := M_ hd.below; clear hd)
  | ((with_reducible refine gate_builtin (b := .copy) (xs := #[.tmp 31, .tmp 32]) rfl ?_); (refine wpList_copy_splice rfl (.tmp 31) (.tmp 32) 70 70 rfl 5 hu70 hsI _ _ _ _ _ _ rfl rfl w1.heap.size 0 (encs (Value.int .u8) (List.replicate 0 x ++ List.replicate (N - 0) 0)) 5 ?g1 (encs (Value.int .u8) (List.replicate m0 x)) ?g2 ?g3 ?g4 (encsI_one8 _) w1.heap.size w1 ?g5 (Nat.le_refl _) ?_; (case g1 => rw [List.replicate_zero, List.nil_append, Nat.sub_zero, ← madeI8]; exact blk_new _ _); (case g2 => have h_ := HN.out.2.2.2.2; simp [encs]; exact h_.symm); (case g3 => intro _; refine ⟨rfl, ad, rfl, fun j v hv => ?_⟩; have hj2 : j < m0 := (by obtain ⟨h1, _⟩ := List.getElem?_eq_some_iff.1 hv; simpa [encs] using h1); have hj : j = 0 := (by have := HN.out; omega); subst hj; have hv2 : v = .int .u8 x := (by obtain ⟨h1, e_⟩ := List.getElem?_eq_some_iff.1 hv; rw [← e_]; simp [encs]); rw [hv2]; exact pw_cell_below (below_alloc HB.out _) HX.out); (case g4 => have h_ := HN.out; simp [encs]; omega); (case g5 => exact below_alloc (Below.refl _ _) _); intro w2 hG2 hB2; have HB2 := M_ (below_step HB.out hB2); have HG2 := M_ ((congrArg (fun l_ => w2.heap[w1.heap.size]? = some (.cells (List.toArray l_) 5 (0, 0))) (rep_splice8 x N 0 m0 (by have := HN.out; omega))).mp hG2.out); have HGE := M_ (HB.out.size); clear hB2 hG2)))
 go_loopg [8] N (fun kq v8 w' => ∃ (k : Nat), v8 = .int .i64 (k : Int) ∧ Aside0 (m0 ≤ k ∧ k ≤ N ∧ N ≤ kq + k) ∧ Aside0 (w'.heap[w1.heap.size]? = some (.cells (encs (Value.int .u8) (List.replicate k x ++ List.replicate (N - k) 0)).toArray 5 (0, 0))) ∧ Aside0 (Below w.heap.size w w'))
 case atStart => exact ⟨m0, by simp [encs], ⟨by have := HN.out; omega⟩, ⟨by have := HG2.out; rwa [Nat.zero_add] at this⟩, HB2⟩
 case round =>
  clear HG2 HB2
  obtain ⟨k, rfl, HI, HG, HBK⟩ := hrel
  by_cases c : k < N
  ·have cb : decide (k < N) = true := decide_eq_true c
   have hA := cutA8 w1.heap.size N k c
   have hB := cutB8 w1.heap.size N k (by omega) (by omega)
   obtain ⟨m, hm⟩ : ∃ m, m = (if k ≤ N - k then k else N - k) := ⟨_, rfl⟩
   have HMI := M_ (show Nat.min k (N - k) = m ∧ 1 ≤ m ∧ m ≤ k ∧ k + m ≤ N by
    have h1 := HI.out
    have h0 := HN.out
    refine ⟨hm ▸ Nat.min_def, ?_, ?_, ?_⟩ <;> (rw [hm]; split <;> omega))
   have HL := M_ (show (encs (Value.int .u8) (List.replicate m x)).length = m ∧ (encs (Value.int .u8) (List.replicate k x ++ List.replicate (N - k) (0 : Int))).length = N by
    have := HI.out
    simp [encs]; omega)
   clear hm c
   go_upto_region 9 with fail
   have HGd := M_ (blk_drew HG.out)
   go_region_law (go_loud (refine step_copy_splice rfl (.tmp 41) (.tmp 44) 70 70 rfl 5 hu70 hsI (some ⟨w1.heap.size, k, none⟩) (some ⟨w1.heap.size, 0, none⟩) (N - k) (N - k) k N ?d1 ?d2 w1.heap.size k (encs (Value.int .u8) (List.replicate k x ++ List.replicate (N - k) 0)) 5 HGd.out (encs (Value.int .u8) (List.replicate m x)) ?g2 ?g3 ?g4 ?g7 w.heap.size w ?g5 ?g6 ?_; (case d1 => first | (go_simp; done) | (go_simp; rfl)); (case d2 => first | (go_simp; done) | (go_simp; rfl)); (case g2 => rw [HL.out.1, HMI.out.1]); (case g3 => intro _; exact ⟨rfl, ⟨w1.heap.size, 0, none⟩, rfl, rep_src8 HGd.out m HMI.out.2.2.1⟩); (case g4 => rw [HL.out.1, HL.out.2]; exact HMI.out.2.2.2); (case g5 => exact below_step HBK.out (below_drew (Below.refl _ _))); (case g6 => exact HGE.out); (case g7 => exact encsI_one8 _); intro w3 hg3 hb3; have HB3 := M_ hb3; have HG3 := M_ ((congrArg (fun l_ => w3.heap[w1.heap.size]? = some (.cells (List.toArray l_) 5 (0, 0))) (rep_splice8 x N k m HMI.out.2.2.2)).mp hg3.out); clear hg3 hb3))
   go_wp2
   go_roundg (gk - 1)
   case rel => exact ⟨k + m, congrArg (Value.int .i64) (show IntKind.i64.wrap ((k : Int) + ((encs (Value.int .u8) (List.replicate m x)).length : Int)) = ((k + m : Nat) : Int) by have h1 := HL.out.1; have h2 := HMI.out; have h3 := HN.out; rw [h1, IntKind.wrap_i64]; omega), ⟨by have h2 := HMI.out; have h1 := HI.out; omega⟩, HG3, ⟨HB3.out⟩⟩
   case measure => have h2 := HMI.out; have h1 := HI.out; omega
  ·have cb : decide (k < N) = false := decide_eq_false c
   have hk : k = N := by have := HI.out; omega
   have HRR := M_ (show Kd.R (Kd.int .u8) 5 wr w.heap.size (fun _ => True) (.slice (some ⟨w1.heap.size, 0, none⟩) N N) (List.replicate N x) by
    have h1 := HG.out
    rw [hk, Nat.sub_self, List.replicate_zero, List.append_nil] at h1
    have h2 := row_own8 h1 HGE.out (by have := HN.out; rw [List.length_replicate]; omega)
    rw [List.length_replicate] at h2
    exact h2)
   clear hk
   go_wp2
   go_ret
   exact ⟨_, rfl, HRR.out, HBK.out⟩

/-! the map of the states that are known -/
theorem keySt : Go.Maps.Keyed Try.prog 9 := Go.Maps.string_keyed Try.underlying9
theorem zeroSt (w : World) : (zeroValue 4).run Try.prog w = .ok (.bool false) w := by kernel_rfl
def okU (s : List Int) : Bool := decide (s.length ≤ 100000) && s.all (fun x => decide (0 ≤ x ∧ x < 256))
def kst (s : List Int) : Lit := .string (strOfNums s).data.toList
theorem kst_of {s : List Int} (h : okU s = true) : keyOf Try.prog 9 (.string (strOfNums s)) = some (kst s) := by
 unfold okU at h
 rw [Bool.and_eq_true, decide_eq_true_eq] at h
 have hs : (strOfNums s).size ≤ maxLen := by
  have : (strOfNums s).size = s.length := by simp [strOfNums, ByteArray.size]
  rw [this]; unfold maxLen; omega
 simp [keyOf, mapKey, Try.underlying9, hs, kst]
theorem kst_inj {s t : List Int} (hs : okU s = true) (ht : okU t = true) (h : kst s = kst t) : s = t := by
 unfold okU at hs ht
 rw [Bool.and_eq_true, List.all_eq_true] at hs ht
 have h1 : (strOfNums s).data.toList = (strOfNums t).data.toList := by
  unfold kst at h; injection h
 have e : ∀ l : List Int, (strOfNums l).data.toList = l.map fun n => UInt8.ofNat n.toNat := fun l => by simp [strOfNums]
 rw [e, e] at h1
 have hl : s.length = t.length := by have := congrArg List.length h1; simpa using this
 refine List.ext_getElem hl (fun i h1' h2' => ?_)
 have hi := congrArg (fun l => l[i]?) h1
 simp only [List.getElem?_map, List.getElem?_eq_getElem h1', List.getElem?_eq_getElem h2', Option.map_some, Option.some.injEq] at hi
 have a := of_decide_eq_true (hs.2 _ (List.getElem_mem h1'))
 have b := of_decide_eq_true (ht.2 _ (List.getElem_mem h2'))
 have hn := congrArg UInt8.toNat hi
 simp only [UInt8.toNat_ofNat'] at hn
 rw [Nat.mod_eq_of_lt (by omega), Nat.mod_eq_of_lt (by omega)] at hn
 omega
theorem plain_bool_inv {e : TypeId} (he : Try.prog.underlying e = some .bool) {v : Value} {z : DataW Unit × List MemPlace} (h : plainElem Try.prog e v = some z) : ∃ x, v = .bool x ∧ z = (.lit (.bool x), []) := by
 unfold plainElem at h
 rw [he] at h
 cases v <;> simp at h
 exact ⟨_, rfl, h.symm⟩
def KnownT (W : World) (b n : Nat) (f : List Int → Bool) : Prop :=
 ∃ D : DataW Unit, W.ownsMap Try.prog 9 (plainElem Try.prog 4) b n D ∧ ∀ s, okU s = true → D.atKey (kst s) (.lit (.bool false)) = .lit (.bool (f s))
theorem KnownT.made (W : World) : KnownT (W.alloc (.map #[] 0)) W.heap.size 0 (fun _ => false) :=
 ⟨.map [], World.ownsMap_made _ _ _ _, fun _ _ => rfl⟩
theorem KnownT.kept {W W' : World} {b n : Nat} {f : List Int → Bool} {row : Option Nat} (h : KnownT W b n f) (hg : W.grownBy W' row) (hne : some b ≠ row) : KnownT W' b n f := by
 obtain ⟨D, h1, h2⟩ := h
 exact ⟨D, h1.kept hg hne, h2⟩
theorem KnownT.keep {W W' : World} {b n : Nat} {f : List Int → Bool} (h : KnownT W b n f) (hk : W'.heap[b]? = W.heap[b]?) : KnownT W' b n f := by
 obtain ⟨D, ⟨es, cl, h1, h3⟩, h2⟩ := h
 exact ⟨D, ⟨es, cl, hk.trans h1, h3⟩, h2⟩
theorem KnownT.lt {W : World} {b n : Nat} {f : List Int → Bool} (h : KnownT W b n f) : b < W.heap.size := by
 obtain ⟨D, h1, -⟩ := h
 exact h1.lt
theorem KnownT.below {W W' : World} {b n : Nat} {f : List Int → Bool} (h : KnownT W b n f) (hb : Below W.heap.size W W') : KnownT W' b n f := h.keep (hb.block b h.lt)
theorem KnownT.blk {W : World} {b n : Nat} {f : List Int → Bool} (h : KnownT W b n f) : ∃ es cl, W.heap[b]? = some (.map es cl) := by
 obtain ⟨D, ⟨es, cl, h1, -⟩, -⟩ := h
 exact ⟨es, cl, h1⟩
theorem KnownT.look {W : World} {b n : Nat} {f : List Int → Bool} (h : KnownT W b n f) {s : List Int} (hs : okU s = true) :
  (Instr.lookup 85 (.map (some b)) (.string (strOfNums s)) false).run Try.prog W = .ok (.bool (f s)) W := by
 obtain ⟨D, h1, h2⟩ := h
 obtain ⟨v, ps, hrun, hv⟩ := h1.lookup (e := 4) keySt Try.underlying85 (zeroSt W) (plainElem_bool (H := Unit) Try.underlying4 false) (kst_of hs)
 obtain ⟨x, rfl, hx⟩ := plain_bool_inv Try.underlying4 hv
 have hc : D.atKey (kst s) (.lit (.bool false)) = .lit (.bool x) := congrArg Prod.fst hx
 rw [h2 s hs] at hc
 have h3 : Lit.bool (f s) = Lit.bool x := by injection hc
 have h4 : f s = x := by injection h3
 rw [hrun, h4]
theorem KnownT.store {W : World} {b n : Nat} {f : List Int → Bool} (h : KnownT W b n f) (hn : n < 1000000000) {s : List Int} (hs : okU s = true) :
  ∃ es cl, (Instr.mapUpdate 85 (.map (some b)) (.string (strOfNums s)) (.bool true)).run Try.prog W = .ok () (Go.ChangeMaps.setBlock W b (.map es cl)) ∧ W.grownBy (Go.ChangeMaps.setBlock W b (.map es cl)) (some b) ∧ KnownT (Go.ChangeMaps.setBlock W b (.map es cl)) b (n + 1) (fun t => t == s || f t) := by
 obtain ⟨D, h1, h2⟩ := h
 obtain ⟨w', hrun, h3, ht⟩ := h1.store (e := 4) keySt Try.underlying85 (by unfold maxLen; omega) (kst_of hs) (plainElem_bool (H := Unit) Try.underlying4 true)
 have hg := ht.grown
 obtain ⟨es0, c0, es, cl, hb0, rfl⟩ := ht
 refine ⟨es, cl, hrun, hg, _, h3, fun t ht => ?_⟩
 by_cases c : t = s
 ·subst c
  dsimp only
  rw [beq_self_eq_true, Bool.true_or]
  exact Go.Maps.atKey_put_same h1.isMap (keySt.key (kst_of ht)) _ _
 ·dsimp only
  rw [beq_eq_false_iff_ne.2 c, Bool.false_or, ← h2 t ht]
  exact Go.Maps.atKey_put_other (fun e => c (kst_inj ht hs e)) _ _
def statesL (k : Nat) (a0_0 : Int) (l0_1 : List (S36)) (l0_2 : List (S69)) (l0_3 : List Int) (l0_4 : List Int) (inp : List Int) : Nat → List (List Int) → List Int → Option (List (List Int) × Int)
 | 0, _, _ => none
 | n + 1, l, s => if okU s = true then (if l.contains s = true then some (l, 0) else if l.length = 64 then some ([], 6) else (ternary_Next.f k a0_0 l0_1 l0_2 l0_3 l0_4 s inp).bind fun r => statesL k a0_0 l0_1 l0_2 l0_3 l0_4 inp n (l ++ [s]) r.1) else none
def ternsim_States.f (k : Nat) (a0_0 : Int) (l0_1 : List (S36)) (l0_2 : List (S69)) (l0_3 : List Int) (l0_4 : List Int) : Option ((List (List Int)) × Int) :=
 (ternary_First.f k a0_0 l0_1 l0_2 l0_3 l0_4).bind fun s => if s.2 = 0 then ((slices_Repeat_uint8_uint8.f [2] a0_0).bind fun inp => statesL k a0_0 l0_1 l0_2 l0_3 l0_4 inp 66 [] s.1) else some ([], s.2)
theorem lit1_U (W : World) (x : Int) : Kd.C (Kd.int .u8) (W.alloc (.cells #[.int .u8 x] 5)) (some ⟨W.heap.size, 0, none⟩) ([x] : List Int).length [x] := by
 refine ⟨rfl, by simp, fun _ => ⟨_, rfl, ?_⟩⟩
 intro j p hj
 rcases j with _ | j
 ·simp at hj
  subst hj
  refine ⟨[.int .u8 x], rfl, rfl, fun i u hu => ?_⟩
  rcases i with _ | i
  ·simp at hu
   subst hu
   exact (blk_cell (heap_alloc_new W _) 0).trans rfl
  ·simp at hu
 ·simp at hj
theorem rep1U_calls (W : World) (n : Int) (inp : List Int) (h : slices_Repeat_uint8_uint8.f [2] n = some inp) :
  Calls Try.prog 41 #[.slice (some ⟨W.heap.size, 0, none⟩) 1 1, .int .i64 n] (W.alloc (.cells #[.int .u8 2] 5)) fun e w' => ∃ v : Value, e = .returned v ∧ Kd.R (Kd.int .u8) 5 w' W.heap.size (fun _ => True) v inp ∧ Below W.heap.size W w' := by
 refine (slices_Repeat_uint8_uint8.calls (some ⟨W.heap.size, 0, none⟩) 1 [2] n inp _ (lit1_U W 2) (Nat.le_refl _) h).mono ?_
 rintro e w2 ⟨v, rfl, ho, hb⟩
 have hs : W.heap.size ≤ (W.alloc (.cells #[.int .u8 2] 5)).heap.size := by rw [World.size_alloc]; exact Nat.le_succ _
 exact ⟨v, rfl, Kd.R_lower ho hs, below_step (below_alloc (Below.refl _ _) _) hb⟩
def lenOf : Value → Nat | .slice _ n _ => n | _ => 0
theorem R_map {α : Type} {d : Kd α} {e base : Nat} {ok : Nat → Prop} {W W' : World} {v : Value} {xs : List α} {b : Nat} (h : d.R e W base ok v xs) (hm : ∃ es cl, W.heap[b]? = some (.map es cl)) (hg : W.grownBy W' (some b)) : d.R e W' base ok v xs :=
 Kd.R_mono (Kd.R_grown (Kd.R_bound h) hg (fun k hk e => by
  cases e
  obtain ⟨es, cl, hm⟩ := hm
  obtain ⟨_, _, _, q, _, cells, hc⟩ := hk
  rw [hm] at hc; cases hc)) (fun _ hk => hk.1)
structure StW (w W : World) (CC : Array Value) (gb bm nk : Nat) (f : List Int → Bool) (L : List (List Int)) (s inp : List Int) (vL vS vI : Value) : Prop where
 hb : Below w.heap.size w W
 bk : W.heap[gb]? = some (.cells CC 26 (0, 0))
 lm : w.heap.size ≤ bm
 km : KnownT W bm nk f
 rl : Kd.N (Kd.slice 5 (Kd.int .u8)) 70 W w.heap.size (fun k_ => w.heap.size ≤ k_ ∧ k_ ≠ bm ∧ k_ ≠ gb) vL L
 rs : Kd.R (Kd.int .u8) 5 W w.heap.size (fun _ => True) vS s
 ri : Kd.R (Kd.int .u8) 5 W w.heap.size (fun _ => True) vI inp
section
variable {w W W' : World} {CC : Array Value} {gb bm nk : Nat} {f : List Int → Bool} {L : List (List Int)} {s inp : List Int} {vL vS vI : Value}
theorem StW.below (h : StW w W CC gb bm nk f L s inp vL vS vI) (hb : Below W.heap.size W W') : StW w W' CC gb bm nk f L s inp vL vS vI :=
 ⟨below_step h.hb hb, blk_below h.bk hb, h.lm, h.km.below hb, Kd.N_below h.rl hb, Kd.R_below h.rs hb, Kd.R_below h.ri hb⟩
theorem StW.next {s' : List Int} {vS' : Value} (h : StW w W CC gb bm nk f L s inp vL vS vI) (hb : Below W.heap.size W W') (hr : Kd.R (Kd.int .u8) 5 W' W.heap.size (fun _ => True) vS' s') : StW w W' CC gb bm nk f L s' inp vL vS' vI :=
 ⟨below_step h.hb hb, blk_below h.bk hb, h.lm, h.km.below hb, Kd.N_below h.rl hb, Kd.R_lower hr (below_size h.hb), Kd.R_below h.ri hb⟩
theorem StW.store (h : StW w W CC gb bm nk f L s inp vL vS vI) (hn : nk < 1000000000) (hs : okU s = true) :
  ∃ es cl, (Instr.mapUpdate 85 (.map (some bm)) (.string (strOfNums s)) (.bool true)).run Try.prog W = .ok () (Go.ChangeMaps.setBlock W bm (.map es cl)) ∧ StW w (Go.ChangeMaps.setBlock W bm (.map es cl)) CC gb bm (nk + 1) (fun t => t == s || f t) L s inp vL vS vI := by
 obtain ⟨es, cl, hrun, hg, hk⟩ := h.km.store hn hs
 obtain ⟨es0, cl0, hm⟩ := h.km.blk
 refine ⟨es, cl, hrun, ⟨?_, blk_grown h.bk hg ?_, h.lm, hk, Kd.N_grown h.rl hg (fun k hk e => by cases e; exact hk.2.1 rfl), R_map h.rs h.km.blk hg, R_map h.ri h.km.blk hg⟩⟩
 ·exact pw_below_grown h.hb _ h.hb.size hg (fun k e => by cases e; exact h.lm)
 ·intro e; cases e; rw [h.bk] at hm; cases hm
theorem StW.push {L' : List (List Int)} {vL' : Value} (h : StW w W CC gb bm nk f L s inp vL vS vI) (hg : W.grownBy W' vL.ownBlock) (hb : Below w.heap.size w W') (hr : Kd.N (Kd.slice 5 (Kd.int .u8)) 70 W' w.heap.size (fun k_ => w.heap.size ≤ k_ ∧ k_ ≠ bm ∧ k_ ≠ gb) vL' L') : StW w W' CC gb bm nk f L' s inp vL' vS vI :=
 ⟨hb, blk_grown h.bk hg (Kd.N_ne h.rl h.bk (by decide)), h.lm, h.km.kept hg (fun e => by
  obtain ⟨cs, hc⟩ := Kd.N_typed h.rl bm e.symm
  obtain ⟨es, cl, hm⟩ := h.km.blk
  rw [hc] at hm; cases hm), hr, Kd.R_over' h.rs (Kd.N_typed h.rl) (by decide) hg, Kd.R_over' h.ri (Kd.N_typed h.rl) (by decide) hg⟩
theorem StW.row {As : Option Addr} {cs : Nat} (h : StW w W CC gb bm nk f L s inp vL (.slice As s.length cs) vI) (hcc : 26 ≠ 5) : Kd.R (Kd.int .u8) 5 W w.heap.size (fun k_ => (w.heap.size ≤ k_ ∧ k_ ≠ bm ∧ k_ ≠ gb) ∧ some k_ ≠ vL.ownBlock) (.slice As s.length cs) s :=
 Kd.R_mono (Kd.R_types (Kd.R_apart' (Kd.R_bound h.rs) (Kd.N_typed h.rl) (by decide)) h.bk (by decide)) (fun k hk => by
  obtain ⟨⟨⟨_, h1, _, q, _, cells, hc⟩, h2⟩, h3⟩ := hk
  refine ⟨⟨h1, fun e => ?_, h3⟩, h2⟩
  obtain ⟨es, cl, hm⟩ := h.km.blk
  rw [e] at hc; rw [hc] at hm; cases hm)
end
set_option maxHeartbeats 40000000 in
set_option maxRecDepth 100000 in
theorem ternsim_States.calls (k : Nat) (a0_0 : Int) (A0_1 : Option Addr) (c0_1 : Nat) (l0_1 : List (S36)) (A0_2 : Option Addr) (c0_2 : Nat) (l0_2 : List (S69)) (A0_3 : Option Addr) (c0_3 : Nat) (l0_3 : List Int) (A0_4 : Option Addr) (c0_4 : Nat) (l0_4 : List Int) (r1 : List (List Int)) (r2 : Int) (w : World) (hr0_1 : Kd.C k36 w A0_1 l0_1.length l0_1) (hc0_1 : l0_1.length ≤ c0_1) (hr0_2 : Kd.C k69 w A0_2 l0_2.length l0_2) (hc0_2 : l0_2.length ≤ c0_2) (hr0_3 : Kd.C (Kd.int .i64) w A0_3 l0_3.length l0_3) (hc0_3 : l0_3.length ≤ c0_3) (hr0_4 : Kd.C (Kd.int .i64) w A0_4 l0_4.length l0_4) (hc0_4 : l0_4.length ≤ c0_4) (h : ternsim_States.f k a0_0 l0_1 l0_2 l0_3 l0_4 = some (r1, r2)) :
  Calls Try.prog 12 #[.agg #[.int .i64 a0_0, .slice A0_1 l0_1.length c0_1, .slice A0_2 l0_2.length c0_2, .slice A0_3 l0_3.length c0_3, .slice A0_4 l0_4.length c0_4]] w fun e w' => ∃ v0_ : Value, e = .returned (.tuple #[v0_, .int .i64 r2]) ∧ Kd.N (Kd.slice 5 (Kd.int .u8)) 70 w' w.heap.size (fun k_ => (w.heap.size ≤ k_)) v0_ r1 ∧ Below w.heap.size w w' := by
 have hu26 := Try.underlying26
 obtain ⟨⟨s0, e0⟩, hf, h⟩ := Option.bind_eq_some_iff.1 h
 dsimp only at h
 have HR0_1 := M_ hr0_1
 have HC0_1 := M_ hc0_1
 have HR0_2 := M_ hr0_2
 have HC0_2 := M_ hc0_2
 have HR0_3 := M_ hr0_3
 have HC0_3 := M_ hc0_3
 have HR0_4 := M_ hr0_4
 have HC0_4 := M_ hc0_4
 have HB0 := M_ (below_alloc (Below.refl w.heap.size w) (.cells #[.int .i64 a0_0, .slice A0_1 l0_1.length c0_1, .slice A0_2 l0_2.length c0_2, .slice A0_3 l0_3.length c0_3, .slice A0_4 l0_4.length c0_4] 26))
 have BK0 := M_ (heap_alloc_new w (.cells #[.int .i64 a0_0, .slice A0_1 l0_1.length c0_1, .slice A0_2 l0_2.length c0_2, .slice A0_3 l0_3.length c0_3, .slice A0_4 l0_4.length c0_4] 26))
 have HF := M_ hf
 have H := M_ h
 clear hr0_1 hr0_2 hr0_3 hr0_4 hc0_1 hc0_2 hc0_3 hc0_4 hf h
 go_enter Try.func12, Try.ntmps12
 go_wp2
 refine (fun pass => wp_scope_jumps 0 (fun a' w' => ∃ (L : List (List Int)) (s inp : List Int) (n bm : Nat) (An : Option Addr) (cn : Nat) (As : Option Addr) (cs : Nat) (Ai : Option Addr) (ci : Nat) (u9 u10 u11 u12 u13 u14 u15 u16 u17 u18 u19 u20 u21 u22 u23 u24 u25 u26 u27 u28 u29 u30 u31 u32 u33 u34 u35 u36 u37 u38 u39 u40 u41 u42 u43 : Value), a' = { tmps := #[.agg #[.int .i64 a0_0, .slice A0_1 l0_1.length c0_1, .slice A0_2 l0_2.length c0_2, .slice A0_3 l0_3.length c0_3, .slice A0_4 l0_4.length c0_4], .pointer (some ⟨w.heap.size, 0, none⟩), .slice none 0 0, .int .i64 0, .slice As s.length cs, .int .i64 0, .slice Ai inp.length ci, .map (some bm), .slice An L.length cn, u9, u10, u11, u12, u13, u14, u15, u16, u17, u18, u19, u20, u21, u22, u23, u24, u25, u26, u27, u28, u29, u30, u31, u32, u33, u34, u35, u36, u37, u38, u39, u40, u41, u42, u43], defers := [] } ∧ L.length + n = 66 ∧ statesL k a0_0 l0_1 l0_2 l0_3 l0_4 inp n L s = some (r1, r2) ∧ StW w w' #[.int .i64 a0_0, .slice A0_1 l0_1.length c0_1, .slice A0_2 l0_2.length c0_2, .slice A0_3 l0_3.length c0_3, .slice A0_4 l0_4.length c0_4] w.heap.size bm L.length (fun t => L.contains t) L s inp (.slice An L.length cn) (.slice As s.length cs) (.slice Ai inp.length ci)) (fun a' _ => 100 - lenOf (a'.tmps.getD 8 undef)) rfl ?first pass) ?pass
 case first =>
  clear pass
  go_upto_region 2 with (go_at_call 32; (with_reducible refine (ternary_First.calls k a0_0 A0_1 c0_1 l0_1 A0_2 c0_2 l0_2 A0_3 c0_3 l0_3 A0_4 c0_4 l0_4 s0 e0 _ (Kd.C_below HR0_1.out HB0.out) HC0_1.out (Kd.C_below HR0_2.out HB0.out) HC0_2.out (Kd.C_below HR0_3.out HB0.out) HC0_3.out (Kd.C_below HR0_4.out HB0.out) HC0_4.out HF.out).mono ?_); rintro e w5 ⟨v0, rfl, o0, hb⟩; obtain ⟨As, cs, rfl⟩ := Kd.R_slice o0; have OS := M_ (Kd.R_lower o0 (below_size HB0.out)); have HB5 := M_ (below_step HB0.out hb); have BK5 := M_ (blk_below BK0.out hb); clear o0 hb)
  by_cases c0 : e0 = 0
  ·subst c0
   have H1 := M_ (show ((slices_Repeat_uint8_uint8.f [2] a0_0).bind fun inp => statesL k a0_0 l0_1 l0_2 l0_3 l0_4 inp 66 [] s0) = some (r1, r2) by have := H.out; rwa [if_pos rfl] at this)
   clear H
   obtain ⟨inp, hi, hs⟩ := Option.bind_eq_some_iff.1 H1.out
   have HI := M_ hi
   clear H1 hi
   have hmm := @run_makeMap Try.prog
   have y0 := (blk_cell (blk_alloc BK5.out (.cells #[.int .u8 2] 5)) 0).trans (show _ = some (.int .i64 a0_0) from rfl)
   go_upto_region 5 with (go_at_call 41; (with_reducible refine (rep1U_calls w5 a0_0 inp HI.out).mono ?_); rintro e w6 ⟨v6, rfl, o6, hb⟩; obtain ⟨Ai, ci, rfl⟩ := Kd.R_slice o6; have HB6 := M_ (below_step HB5.out hb); have BK6 := M_ (blk_below BK5.out hb); have RI := M_ (Kd.R_lower o6 (below_size HB5.out)); have RS := M_ (Kd.R_below OS.out hb); clear o6 hb)
   clear y0
   have HT0 : StW w (w6.alloc (.map #[] 0)) #[.int .i64 a0_0, .slice A0_1 l0_1.length c0_1, .slice A0_2 l0_2.length c0_2, .slice A0_3 l0_3.length c0_3, .slice A0_4 l0_4.length c0_4] w.heap.size w6.heap.size 0 (fun t => ([] : List (List Int)).contains t) [] s0 inp (.slice none 0 0) (.slice As s0.length cs) (.slice Ai inp.length ci) :=
    ⟨below_alloc HB6.out _, blk_alloc BK6.out _, below_size HB6.out, KnownT.made w6, Kd.N_nil _ _ _ _ _, Kd.R_alloc RS.out _, Kd.R_alloc RI.out _⟩
   have HT := M_ HT0
   clear HT0
   obtain ⟨bm, hbm⟩ : ∃ b, b = w6.heap.size := ⟨_, rfl⟩
   rw [← hbm] at HT
   go_wp2
   go_step3
   clear hmm
   rw [← hbm]
   generalize w6.alloc (.map #[] 0) = w7 at HT ⊢
   unfold statesL at hs
   by_cases cu : okU s0 = true
   ·rw [if_pos cu] at hs
    have CU := M_ cu
    clear cu hbm
    have hcv := Kd.C_string (c := cs) Try.underlying70 Try.underlying5 (Try.underlying9 : Try.prog.underlying 9 = some .string) (Kd.R_reads' HT.out.rs).2.2
    have hlk := HT.out.km.look CU.out
    cases hm : ([] : List (List Int)).contains s0 with
    | true =>
     exact absurd hm (by simp)
    | false =>
     rw [hm] at hlk
     rw [if_neg (show ¬ ([] : List (List Int)).contains s0 = true by rw [hm]; decide)] at hs
     rw [if_neg (by decide)] at hs
     obtain ⟨⟨s', e'⟩, hx, hs⟩ := Option.bind_eq_some_iff.1 hs
     dsimp only at hs
     have HX := M_ hx
     have HS := M_ hs
     clear hx hs hm
     obtain ⟨es, cl, hrun, HP⟩ := HT.out.store (by decide) CU.out
     have HP := M_ HP
     go_upto_region 12 with fail
     generalize Go.ChangeMaps.setBlock w7 bm (.map es cl) = w2 at HP ⊢
     clear hrun hlk hcv
     go_upto_region 13 with ((with_reducible refine gate_builtin (b := .append) (xs := #[.tmp 33, .tmp 35]) rfl ?_); at_builtin; refine Kd.N_append (Kd.slice 5 (Kd.int .u8)) (w0 := w) w.heap.size rfl (.tmp 33) (.tmp 35) 31 70 (.slice none 0 0) 24 rfl Try.underlying31 info70 rfl (by decide) (by omega) (.slice none 0 0) ([] : List (List Int)) s0 [.slice As s0.length cs] (fun k_ => w.heap.size ≤ k_ ∧ k_ ≠ bm ∧ k_ ≠ w.heap.size) (fun k_ => (fun k_ => w.heap.size ≤ k_ ∧ k_ ≠ bm ∧ k_ ≠ w.heap.size) k_ ∧ some k_ ≠ ((.slice none 0 0) : Value).ownBlock) rfl rfl ?aP (fun _ hk => hk) ?aF ?aO ?aB ?aS ?aL ?_; (case aP => exact Kd.FK_slice_mk (Kd.R_reads' HT.out.rs).2.1 (Kd.R_F (HP.out.row (by decide)))); (case aF => exact (fun k_ hk => ⟨Nat.le_trans (below_size HP.out.hb) hk, fun e => by have := HP.out.km.lt; omega, fun e => by have := blk_lt HP.out.bk; omega⟩)); (case aO => exact HP.out.rl); (case aB => exact HP.out.hb); (case aS => exact below_size HP.out.hb); (case aL => decide); intro v3 w3 ho hb hg hat; clear hat; have HT3 := M_ (HP.out.push hg hb ho); obtain ⟨A3, c3, rfl⟩ := Kd.N_slice ho; clear ho hb hg; have y0 := (blk_cell HT3.out.bk 0).trans (show _ = some (.int .i64 a0_0) from rfl); have y1 := (blk_cell HT3.out.bk 1).trans (show _ = some (.slice A0_1 l0_1.length c0_1) from rfl); have y2 := (blk_cell HT3.out.bk 2).trans (show _ = some (.slice A0_2 l0_2.length c0_2) from rfl); have y3 := (blk_cell HT3.out.bk 3).trans (show _ = some (.slice A0_3 l0_3.length c0_3) from rfl); have y4 := (blk_cell HT3.out.bk 4).trans (show _ = some (.slice A0_4 l0_4.length c0_4) from rfl))
     go_wp2_with (go_at_call 34; (with_reducible refine (ternary_Next.calls k a0_0 A0_1 c0_1 l0_1 A0_2 c0_2 l0_2 A0_3 c0_3 l0_3 A0_4 c0_4 l0_4 As cs s0 Ai ci inp s' e' _ (Kd.C_below HR0_1.out HT3.out.hb) HC0_1.out (Kd.C_below HR0_2.out HT3.out.hb) HC0_2.out (Kd.C_below HR0_3.out HT3.out.hb) HC0_3.out (Kd.C_below HR0_4.out HT3.out.hb) HC0_4.out (Kd.R_reads' HT3.out.rs).2.2 (Kd.R_reads' HT3.out.rs).2.1 (Kd.R_reads' HT3.out.ri).2.2 (Kd.R_reads' HT3.out.ri).2.1 HX.out).mono ?_); rintro e w4 ⟨v4, rfl, o4, hb⟩; have HT4 := M_ (HT3.out.next hb o4); obtain ⟨A4, c4, rfl⟩ := Kd.R_slice o4; clear o4 hb y0 y1 y2 y3 y4)
     go_step3
     have HJ : StW w w4 #[.int .i64 a0_0, .slice A0_1 l0_1.length c0_1, .slice A0_2 l0_2.length c0_2, .slice A0_3 l0_3.length c0_3, .slice A0_4 l0_4.length c0_4] w.heap.size bm (([] : List (List Int)) ++ [s0]).length (fun t => (([] : List (List Int)) ++ [s0]).contains t) (([] : List (List Int)) ++ [s0]) s' inp (.slice A3 (([] : List (List Int)) ++ [s0]).length c3) (.slice A4 s'.length c4) (.slice Ai inp.length ci) := by
      have e1 : (([] : List (List Int)) ++ [s0] : List (List Int)).length = 0 + 1 := by simp
      have e2 : (fun t => (([] : List (List Int)) ++ [s0]).contains t) = (fun t => t == s0 || ([] : List (List Int)).contains t) := by funext t; rw [Bool.eq_iff_iff]; simp [or_comm]
      have h4 := HT4.out
      rw [e2]
      show StW w w4 _ _ bm ((([] : List (List Int)) ++ [s0] : List (List Int)).length) _ _ _ _ _ _ _
      exact e1 ▸ h4
     refine ⟨rfl, ?_⟩
     refine ⟨([] : List (List Int)) ++ [s0], s', inp, 65, bm, A3, c3, A4, c4, Ai, ci, _, _, _, _, _, _, _, _, _, _, _, _, _, _, _, _, _, _, _, _, _, _, _, _, _, _, _, _, _, _, _, _, _, _, _, rfl, ?_, HS.out, ?_⟩
     ·simp
     ·exact HJ
   ·rw [if_neg cu] at hs
    exact absurd hs (by simp)
  ·have hn : (e0 != 0) = true := bne_iff_ne.mpr c0
   have HR := M_ (show some (([] : List (List Int)), e0) = some (r1, r2) by have := H.out; rwa [if_neg c0] at this)
   clear H c0
   go_wp2
   simp only [Exit.jump]
   go_ret2
   have h_ := Option.some.inj HR.out
   rw [Prod.mk.injEq] at h_
   obtain ⟨rfl, rfl⟩ := h_
   exact ⟨_, rfl, Kd.N_nil _ _ _ _ _, HB5.out⟩
 case pass =>
  rintro a w' ⟨L, s, inp, n, bm, An, cn, As, cs, Ai, ci, u9, u10, u11, u12, u13, u14, u15, u16, u17, u18, u19, u20, u21, u22, u23, u24, u25, u26, u27, u28, u29, u30, u31, u32, u33, u34, u35, u36, u37, u38, u39, u40, u41, u42, u43, rfl, hn, hs, HT⟩
  cases n with
  | zero => exact absurd hs (by simp [statesL])
  | succ n =>
   unfold statesL at hs
   by_cases cu : okU s = true
   ·rw [if_pos cu] at hs
    have HT := M_ HT
    have HN := M_ hn
    have CU := M_ cu
    clear hn cu
    have hcv := Kd.C_string (c := cs) Try.underlying70 Try.underlying5 (Try.underlying9 : Try.prog.underlying 9 = some .string) (Kd.R_reads' HT.out.rs).2.2
    have hlk := HT.out.km.look CU.out
    cases hm : L.contains s with
    | true =>
     rw [hm] at hlk
     rw [if_pos hm] at hs
     have HS := M_ hs
     clear hs hm
     go_wp2
     simp only [Exit.jump]
     go_ret2
     have h_ := Option.some.inj HS.out
     rw [Prod.mk.injEq] at h_
     obtain ⟨rfl, rfl⟩ := h_
     exact ⟨_, rfl, Kd.N_mono HT.out.rl (fun k hk => hk.1), HT.out.hb⟩
    | false =>
     rw [hm] at hlk
     rw [if_neg (show ¬ L.contains s = true by rw [hm]; decide)] at hs
     by_cases c64 : L.length = 64
     ·rw [if_pos c64] at hs
      have c64b : ((L.length : Int) == 64) = true := beq_iff_eq.2 (by omega)
      have HS := M_ hs
      clear hs hm c64
      go_wp2
      simp only [Exit.jump]
      go_ret2
      have h_ := Option.some.inj HS.out
      rw [Prod.mk.injEq] at h_
      obtain ⟨rfl, rfl⟩ := h_
      exact ⟨_, rfl, Kd.N_nil _ _ _ _ _, HT.out.hb⟩
     rw [if_neg c64] at hs
     have c64b : ((L.length : Int) == 64) = false := beq_eq_false_iff_ne.2 (by omega)
     have C64 := M_ c64
     clear c64
     obtain ⟨⟨s', e'⟩, hx, hs⟩ := Option.bind_eq_some_iff.1 hs
     dsimp only at hs
     have HX := M_ hx
     have HS := M_ hs
     clear hx hs hm
     obtain ⟨es, cl, hrun, HP⟩ := HT.out.store (by have := HN.out; omega) CU.out
     have HP := M_ HP
     go_upto_region 12 with fail
     generalize Go.ChangeMaps.setBlock w' bm (.map es cl) = w2 at HP ⊢
     clear hrun hlk hcv
     go_upto_region 13 with ((with_reducible refine gate_builtin (b := .append) (xs := #[.tmp 33, .tmp 35]) rfl ?_); at_builtin; refine Kd.N_append (Kd.slice 5 (Kd.int .u8)) (w0 := w) w.heap.size rfl (.tmp 33) (.tmp 35) 31 70 (.slice none 0 0) 24 rfl Try.underlying31 info70 rfl (by decide) (by omega) (.slice An L.length cn) L s [.slice As s.length cs] (fun k_ => w.heap.size ≤ k_ ∧ k_ ≠ bm ∧ k_ ≠ w.heap.size) (fun k_ => (fun k_ => w.heap.size ≤ k_ ∧ k_ ≠ bm ∧ k_ ≠ w.heap.size) k_ ∧ some k_ ≠ ((.slice An L.length cn) : Value).ownBlock) rfl rfl ?aP (fun _ hk => hk) ?aF ?aO ?aB ?aS ?aL ?_; (case aP => exact Kd.FK_slice_mk (Kd.R_reads' HT.out.rs).2.1 (Kd.R_F (HP.out.row (by decide)))); (case aF => exact (fun k_ hk => ⟨Nat.le_trans (below_size HP.out.hb) hk, fun e => by have := HP.out.km.lt; omega, fun e => by have := blk_lt HP.out.bk; omega⟩)); (case aO => exact HP.out.rl); (case aB => exact HP.out.hb); (case aS => exact below_size HP.out.hb); (case aL => have := HN.out; omega); intro v3 w3 ho hb hg hat; clear hat; have HT3 := M_ (HP.out.push hg hb ho); obtain ⟨A3, c3, rfl⟩ := Kd.N_slice ho; clear ho hb hg; have y0 := (blk_cell HT3.out.bk 0).trans (show _ = some (.int .i64 a0_0) from rfl); have y1 := (blk_cell HT3.out.bk 1).trans (show _ = some (.slice A0_1 l0_1.length c0_1) from rfl); have y2 := (blk_cell HT3.out.bk 2).trans (show _ = some (.slice A0_2 l0_2.length c0_2) from rfl); have y3 := (blk_cell HT3.out.bk 3).trans (show _ = some (.slice A0_3 l0_3.length c0_3) from rfl); have y4 := (blk_cell HT3.out.bk 4).trans (show _ = some (.slice A0_4 l0_4.length c0_4) from rfl))
     go_wp2_with (go_at_call 34; (with_reducible refine (ternary_Next.calls k a0_0 A0_1 c0_1 l0_1 A0_2 c0_2 l0_2 A0_3 c0_3 l0_3 A0_4 c0_4 l0_4 As cs s Ai ci inp s' e' _ (Kd.C_below HR0_1.out HT3.out.hb) HC0_1.out (Kd.C_below HR0_2.out HT3.out.hb) HC0_2.out (Kd.C_below HR0_3.out HT3.out.hb) HC0_3.out (Kd.C_below HR0_4.out HT3.out.hb) HC0_4.out (Kd.R_reads' HT3.out.rs).2.2 (Kd.R_reads' HT3.out.rs).2.1 (Kd.R_reads' HT3.out.ri).2.2 (Kd.R_reads' HT3.out.ri).2.1 HX.out).mono ?_); rintro e w4 ⟨v4, rfl, o4, hb⟩; have HT4 := M_ (HT3.out.next hb o4); obtain ⟨A4, c4, rfl⟩ := Kd.R_slice o4; clear o4 hb y0 y1 y2 y3 y4)
     go_step3
     have HJ : StW w w4 #[.int .i64 a0_0, .slice A0_1 l0_1.length c0_1, .slice A0_2 l0_2.length c0_2, .slice A0_3 l0_3.length c0_3, .slice A0_4 l0_4.length c0_4] w.heap.size bm (L ++ [s]).length (fun t => (L ++ [s]).contains t) (L ++ [s]) s' inp (.slice A3 (L ++ [s]).length c3) (.slice A4 s'.length c4) (.slice Ai inp.length ci) := by
      have e1 : (L ++ [s] : List (List Int)).length = L.length + 1 := by simp
      have e2 : (fun t => (L ++ [s]).contains t) = (fun t => t == s || L.contains t) := by funext t; rw [Bool.eq_iff_iff]; simp [or_comm]
      have h4 := HT4.out
      rw [e2]
      show StW w w4 _ _ bm ((L ++ [s] : List (List Int)).length) _ _ _ _ _ _ _
      exact e1 ▸ h4
     refine ⟨rfl, ?_⟩
     rw [show L.length + 1 = (L ++ [s]).length by simp]
     refine ⟨⟨L ++ [s], s', inp, n, bm, A3, c3, A4, c4, Ai, ci, _, _, _, _, _, _, _, _, _, _, _, _, _, _, _, _, _, _, _, _, _, _, _, _, _, _, _, _, _, _, _, _, _, _, _, rfl, ?_, HS.out, ?_⟩, ?_⟩
     ·have := HN.out; simp; omega
     ·exact HJ
     ·have := HN.out; simp [lenOf]; omega
   ·rw [if_neg cu] at hs
    exact absurd hs (by simp)


end Go.Proofs.Ytmcdanpecajklaa.QTernsimValues
