-- Made by wip/myprint.sh (a patched print): a text of this session's own.
import Derived.Test.YtmcdanpecajklaaLay
import Derived.Test.YtmcdanpecajklaaQTernsimValuesx0
import Derived.Test.YtmcdanpecajklaaQTernsimValuesx1
import Derived.Test.YtmcdanpecajklaaQTernsimValuesx5
namespace Go.Proofs.Ytmcdanpecajklaa.QTernsimValues
open Go.RowKit Go.Proofs.YtmcdanpecajklaaW.PrintWords Go.Proofs.YtmcdanpecajklaaW.PrintLast Go.Proofs.YtmcdanpecajklaaW.PrintMore
attribute [local go_sem] max2_int min2_int max_two min_two max_three min_three max_four min_four
set_option linter.unusedVariables false
set_option linter.unusedSimpArgs false

mutual
def lift_Identity.l0 : Nat → Int → Int → List (S36) → List (S69) → List Int → List Int → Int → Int → List (List Int) → Int → Option (Int × Int × List Int × (List (List Int)) × List Int × (List (S69)) × Int × Int)
 | 0, _, _, _, _, _, _, _, _, _, _ => none
 | k + 1, x6, x181000, x181001, x181002, x181003, x181004, x187000, x187001, x187003, x187006 => if x6 ≤ x181000 then (if 0 < (x187003.length : Int) then (if (rd_L5 x187003 0).length < 17592186044416 then (lift_Identity.l0 k (wrap64 (x6 + 1)) x181000 x181001 x181002 x181003 x181004 x187000 x187001 (x187003.set (0 : Int).toNat ((rd_L5 x187003 0) ++ [wrap64 (2 * x6)])) x187006) else (none)) else (none)) else (lift_Identity.l1 k (x181001.length : Int) 0 x181000 x181001 x181002 x181003 x181004 x187000 x187001 ([] : List Int) x187003 x187006)
def lift_Identity.l1 : Nat → Int → Int → Int → List (S36) → List (S69) → List Int → List Int → Int → Int → List Int → List (List Int) → Int → Option (Int × Int × List Int × (List (List Int)) × List Int × (List (S69)) × Int × Int)
 | 0, _, _, _, _, _, _, _, _, _, _, _, _ => none
 | k + 1, x36, x37, x181000, x181001, x181002, x181003, x181004, x187000, x187001, x187002, x187003, x187006 => if x37 < x36 then (if x187002.length < 17592186044416 then (lift_Identity.l1 k x36 (wrap64 (x37 + 1)) x181000 x181001 x181002 x181003 x181004 x187000 x187001 (x187002 ++ [wrap64 (2 * (wrap64 ((wrap64 (x181000 + 1)) + x37)))]) x187003 x187006) else (none)) else ((slices_Clone_int_int.f x187002).bind fun t195 => (some (x187000, x187001, x187002, x187003, t195, ([] : List (S69)), x187006, 0)))
end
def lift_Identity.f (k : Nat) (a0_0 : Int) (l0_1 : List (S36)) (l0_2 : List (S69)) (l0_3 : List Int) (l0_4 : List Int) : Option (Int × Int × List Int × (List (List Int)) × List Int × (List (S69)) × Int × Int) := (gates_Check.f a0_0 l0_1 l0_2 l0_3 l0_4).bind fun t182 => (if t182 = 0 then (if 1 ≤ 11728124029610 then (lift_Identity.l0 k 1 a0_0 l0_1 l0_2 l0_3 l0_4 0 1 (List.replicate 1 []) 1) else (none)) else (some (0, 0, ([] : List Int), ([] : List (List Int)), ([] : List Int), ([] : List (S69)), 0, t182)))
def lift_Identity.T8 : Bool × List (List Nat × List Nat) := (true, [([], []), ([0], [0]), ([], []), ([2], [2]), ([3], [3]), ([4], [4]), ([], []), ([6], [6]), ([7], [7]), ([5, 8], [5, 8]), ([1, 0, 1, 2, 3, 4, 5, 6, 7, 8, 9], [1]), ([10, 9, 9, 0, 1, 2, 3, 4, 5, 6, 7, 8, 9], [9, 10])])
def lift_Identity.B8 : List Nat := [0, 1, 0, 4, 12, 28, 0, 64, 192, 508, 1023, 2047]
theorem lift_Identity.tab8 : rtab .any (opsOf Try.f48 8) = lift_Identity.T8 := by kernel_rfl
theorem lift_Identity.bits8 : waitsOk lift_Identity.T8.2 lift_Identity.B8 = true := by kernel_rfl
set_option maxHeartbeats 8000000 in
set_option maxRecDepth 100000 in
theorem lift_Identity.calls (k : Nat) (a0_0 : Int) (A0_1 : Option Addr) (c0_1 : Nat) (l0_1 : List (S36)) (A0_2 : Option Addr) (c0_2 : Nat) (l0_2 : List (S69)) (A0_3 : Option Addr) (c0_3 : Nat) (l0_3 : List Int) (A0_4 : Option Addr) (c0_4 : Nat) (l0_4 : List Int) (r1 : Int) (r2 : Int) (r3 : List Int) (r4 : List (List Int)) (r5 : List Int) (r6 : List (S69)) (r7 : Int) (r8 : Int) (w : World) (hr0_1 : Kd.C k36 w A0_1 l0_1.length l0_1) (hc0_1 : l0_1.length ≤ c0_1) (hr0_2 : Kd.C k69 w A0_2 l0_2.length l0_2) (hc0_2 : l0_2.length ≤ c0_2) (hr0_3 : Kd.C (Kd.int .i64) w A0_3 l0_3.length l0_3) (hc0_3 : l0_3.length ≤ c0_3) (hr0_4 : Kd.C (Kd.int .i64) w A0_4 l0_4.length l0_4) (hc0_4 : l0_4.length ≤ c0_4) (h : lift_Identity.f k a0_0 l0_1 l0_2 l0_3 l0_4 = some (r1, r2, r3, r4, r5, r6, r7, r8)) :
  Calls Try.prog 48 #[.agg #[.int .i64 a0_0, .slice A0_1 l0_1.length c0_1, .slice A0_2 l0_2.length c0_2, .slice A0_3 l0_3.length c0_3, .slice A0_4 l0_4.length c0_4]] w fun e w' => ∃ v2_ v3_ v4_ v5_ : Value, e = .returned (.tuple #[.agg #[.int .i64 r1, .int .i64 r2, v2_, v3_, v4_, v5_, .int .i64 r7], .int .i64 r8]) ∧ Kd.R (Kd.int .i64) 3 w' w.heap.size (fun k_ => some k_ ≠ (v4_ : Value).ownBlock) v2_ r3 ∧ Kd.S (Kd.slice 3 (Kd.int .i64)) 24 w' w.heap.size (fun k_ => some k_ ≠ (v2_ : Value).ownBlock ∧ some k_ ≠ (v4_ : Value).ownBlock) v3_ r4 ∧ Kd.R (Kd.int .i64) 3 w' w.heap.size (fun k_ => some k_ ≠ (v2_ : Value).ownBlock) v4_ r5 ∧ Kd.R k69 69 w' w.heap.size (fun _ => True) v5_ r6 ∧ Below w.heap.size w w' := by
 have hu26 := Try.underlying26
 have hu46 := Try.underlying46
 have hu44 := Try.underlying44
 have HR0_1 := M_ hr0_1
 have HC0_1 := M_ hc0_1
 clear hr0_1 hc0_1
 have HR0_2 := M_ hr0_2
 have HC0_2 := M_ hc0_2
 clear hr0_2 hc0_2
 have HR0_3 := M_ hr0_3
 have HC0_3 := M_ hc0_3
 clear hr0_3 hc0_3
 have HR0_4 := M_ hr0_4
 have HC0_4 := M_ hc0_4
 clear hr0_4 hc0_4
 have HB := M_ (Below.refl w.heap.size w)
 have H : ((gates_Check.f a0_0 l0_1 l0_2 l0_3 l0_4).bind fun t182 => (if t182 = 0 then (if 1 ≤ 11728124029610 then (lift_Identity.l0 k 1 a0_0 l0_1 l0_2 l0_3 l0_4 0 1 (List.replicate 1 []) 1) else (none)) else (some (0, 0, ([] : List Int), ([] : List (List Int)), ([] : List Int), ([] : List (S69)), 0, t182)))) = some (r1, r2, r3, r4, r5, r6, r7, r8) := h
 clear h
 replace H := Option.bind_eq_some_iff.mp H
 obtain ⟨t182, A20, H⟩ := H
 replace H : (if t182 = 0 then (if 1 ≤ 11728124029610 then (lift_Identity.l0 k 1 a0_0 l0_1 l0_2 l0_3 l0_4 0 1 (List.replicate 1 []) 1) else (none)) else (some (0, 0, ([] : List Int), ([] : List (List Int)), ([] : List Int), ([] : List (S69)), 0, t182))) = some (r1, r2, r3, r4, r5, r6, r7, r8) := H
 have A2 := M_ A20
 clear A20
 by_cases c3 : t182 = 0
 ·rw [if_pos c3] at H
  have c3b0 : (t182 == 0) = true := beq_iff_eq.mpr c3
  have c3b1 : (t182 != 0) = false := bne_eq_false_iff_eq.mpr c3
  clear c3
  by_cases c4 : 1 ≤ 11728124029610
  ·rw [if_pos c4] at H
   have c4b0 := eq_true c4
   have c4b1 : decide (1 ≤ 11728124029610) = true := decide_eq_true c4
   clear c4
   obtain ⟨y183, hy183⟩ : ∃ y_ : List (List Int), y_ = (List.replicate 1 []) := ⟨_, rfl⟩
   replace H : (lift_Identity.l0 k 1 a0_0 l0_1 l0_2 l0_3 l0_4 0 1 y183 1) = some (r1, r2, r3, r4, r5, r6, r7, r8) := by first | (rw [hy183]; with_reducible exact H) | (have H2_ := (Option.bind_some _ _).symm.trans H; rw [hy183]; with_reducible exact H2_) | (have H2_ := (Option.bind_some _ _).symm.trans H; with_reducible exact H2_) | with_reducible exact H | (rw [hy183]; exact H) | exact H
   have Ny183 := M_ hy183
   clear hy183
   have H' := M_ H
   clear H
   go_enter Try.func48, Try.ntmps48
   go_wp2_with (first | ((with_reducible refine gate_dst (N := 1) rfl ?_); refine box_event ?hg (N := 1) ?hd (cs := #[.int .i64 a0_0, .slice A0_1 l0_1.length c0_1, .slice A0_2 l0_2.length c0_2, .slice A0_3 l0_3.length c0_3, .slice A0_4 l0_4.length c0_4]) (t := 26) ?hr ?_; (case hd => rfl); (case hg => rfl); (case hr => first | (go_simp; done) | (go_simp; rfl)); intro gb180 hg w5 hbox hb; have n1_ := M_ (hbox); have n2_ := M_ ((by rw [hg]; exact (below_size (wl_ HB.out)) : w.heap.size ≤ gb180)); have n3_ := M_ ((by rw [hg]; exact (below_size (wl_ HB.out)) : w.heap.size ≤ gb180)); replace HB := wb_ HB hb; have BK180 := n1_; have GW180 := n2_; have GE180 := n3_; have gi180 : Ge _ _ := ⟨GE180.out⟩; clear n1_ n2_ n3_; clear hb hbox hg) | ((with_reducible refine gate_dst (N := 2) rfl ?_); refine box_event ?hg (N := 2) ?hd (cs := #[.int .i64 0, .int .i64 0, .slice none 0 0, .slice none 0 0, .slice none 0 0, .slice none 0 0, .int .i64 0]) (t := 46) ?hr ?_; (case hd => rfl); (case hg => rfl); (case hr => first | (go_simp; done) | (go_simp; rfl)); intro gb181 hg w6 hbox hb; have n2_ := M_ (hbox); have n3_ := M_ ((by rw [hg]; exact (below_size (ws_ HB.out)) : w.heap.size ≤ gb181)); have n4_ := M_ ((by rw [hg]; exact (below_size (ws_ HB.out)) : w.heap.size ≤ gb181)); have n5_ := M_ ((by rw [hg]; exact Nat.ne_of_lt (blk_lt (bl_ BK180.out)) : gb180 ≠ gb181)); have n6_ := M_ ((by rw [hg]; exact Nat.ne_of_gt (blk_lt (bl_ BK180.out)) : gb181 ≠ gb180)); replace BK180 := bb_ BK180 hb; replace HB := wb_ HB hb; have BK181 := n2_; have GW181 := n3_; have GE181 := n4_; have gi181 : Ge _ _ := ⟨GE181.out⟩; have NB180_181 := n5_; have NB181_180 := n6_; clear n2_ n3_ n4_ n5_ n6_; clear hb hbox hg; have hnb7 := NB180_181.out; have hnc7 := NB181_180.out; obtain ⟨hcz8_0, hcz8_1, hcz8_2, hcz8_3, hcz8_4⟩ := cz5_ BK180.out; have hfz8_0 := blk_frozen BK180.out 0; have hfz8_1 := blk_frozen BK180.out 1; have hfz8_2 := blk_frozen BK180.out 2; have hfz8_3 := blk_frozen BK180.out 3; have hfz8_4 := blk_frozen BK180.out 4) | ((with_reducible refine gate_callee (f := 59) rfl ?_); refine goesL_ (some 9) rfl rfl Try.func59 (by kernel_rfl) rfl #[.agg #[.int .i64 a0_0, .slice A0_1 l0_1.length c0_1, .slice A0_2 l0_2.length c0_2, .slice A0_3 l0_3.length c0_3, .slice A0_4 l0_4.length c0_4]] rfl (by (try simp only [List.map_toArray, List.map_cons, List.map_nil]); first | done | rfl) ?_; (with_reducible refine (gates_Check.calls a0_0 _ _ l0_1 _ _ l0_2 _ _ l0_3 _ _ l0_4 t182 _ ?side1 ?side2 ?side3 ?side4 ?side5 ?side6 ?side7 ?side8 A2.out).mono ?_); (case side1 => exact cl_ (Kd.C_below HR0_1.out HB.out)); (case side2 => exact HC0_1.out); (case side3 => exact cl_ (Kd.C_below HR0_2.out HB.out)); (case side4 => exact HC0_2.out); (case side5 => exact cl_ (Kd.C_below HR0_3.out HB.out)); (case side6 => exact HC0_3.out); (case side7 => exact cl_ (Kd.C_below HR0_4.out HB.out)); (case side8 => exact HC0_4.out); rintro e w9 ⟨rfl, hb⟩; refine ⟨_, rfl, ?_⟩; replace BK180 := bb_ BK180 hb; replace BK181 := bb_ BK181 hb; replace HB := wb_ HB hb; (try clear hb); (try clear hb2); (try clear hk); (try clear hi)) | ((with_reducible refine gate_dst (N := 14) rfl ?_); refine Kd.S_make (Kd.slice 3 (Kd.int .i64)) _ 24 rfl (N := 14) rfl 42 _ _ rfl 1 rfl rfl Try.underlying42 (.slice none 0 0) 24 info24 rfl (by decide) (by omega) [] (ok := fun _ => True) (okp := fun _ => True) ⟨_, rfl, Kd.R_nil _ _ _ _ _⟩ (fun _ hk => hk) trivial (by omega) (by omega) (Below.refl _ _) (Nat.le_refl _) ?_; intro v184 w10 ho11 hb hg_ hnew_; clear hg_ hnew_; (first | rw [← Ny183.out] at ho11 | (simp only [Int.reduceToNat] at ho11; rw [← Ny183.out] at ho11)); have n0_ := M_ (Kd.S_lower ho11 (below_size (ws_ HB.out))); have HO185 := n0_; replace BK180 := bb_ BK180 hb; replace BK181 := bb_ BK181 hb; replace HB := wb_ HB hb; clear n0_; clear hb ho11; obtain ⟨Ao12, co12, eo12⟩ := Kd.S_slice HO185.out; subst eo12) | ((with_reducible refine gate_dst (N := 5) rfl ?_); refine box_event ?hg (N := 5) ?hd (cs := #[.int .i64 0, .int .i64 0, .slice none 0 0, .slice none 0 0, .slice none 0 0, .slice none 0 0, .int .i64 0]) (t := 46) ?hr ?_; (case hd => rfl); (case hg => rfl); (case hr => first | (go_simp; done) | (go_simp; rfl)); intro gb186 hg w13 hbox hb; have n0_ := M_ (Kd.S_below (by (with_reducible repeat (first | apply Kd.S_alloc | apply Kd.S_drewN | apply Kd.S_drew)); exact HO185.out) hb); have n4_ := M_ (hbox); have n5_ := M_ ((by rw [hg]; exact (below_size (ws_ HB.out)) : w.heap.size ≤ gb186)); have n6_ := M_ ((by rw [hg]; exact (below_size (ws_ HB.out)) : w.heap.size ≤ gb186)); have n7_ := M_ ((by rw [hg]; exact Nat.ne_of_lt (blk_lt (bl_ BK180.out)) : gb180 ≠ gb186)); have n8_ := M_ ((by rw [hg]; exact Nat.ne_of_gt (blk_lt (bl_ BK180.out)) : gb186 ≠ gb180)); have n9_ := M_ ((by rw [hg]; exact Nat.ne_of_lt (blk_lt (bl_ BK181.out)) : gb181 ≠ gb186)); have n10_ := M_ ((by rw [hg]; exact Nat.ne_of_gt (blk_lt (bl_ BK181.out)) : gb186 ≠ gb181)); clear HO185; have HO185 := n0_; replace BK180 := bb_ BK180 hb; replace BK181 := bb_ BK181 hb; replace HB := wb_ HB hb; have BK186 := n4_; have GW186 := n5_; have GE186 := n6_; have gi186 : Ge _ _ := ⟨GE186.out⟩; have NB180_186 := n7_; have NB186_180 := n8_; have NB181_186 := n9_; have NB186_181 := n10_; clear n0_ n4_ n5_ n6_ n7_ n8_ n9_ n10_; clear hb hbox hg; have hnb14 := NB186_180.out; have hnc14 := NB180_186.out; have hnb15 := NB186_181.out; have hnc15 := NB181_186.out; have hcz16_0 : w13.cell? ⟨gb186, 0, none⟩ = some (.int .i64 0) := (blk_cell BK186.out 0).trans rfl; have hcz16_1 : w13.cell? ⟨gb186, 1, none⟩ = some (.int .i64 0) := (blk_cell BK186.out 1).trans rfl; have hcz16_2 : w13.cell? ⟨gb186, 2, none⟩ = some (.slice none 0 0) := (blk_cell BK186.out 2).trans rfl; have hcz16_3 : w13.cell? ⟨gb186, 3, none⟩ = some (.slice none 0 0) := (blk_cell BK186.out 3).trans rfl; have hcz16_4 : w13.cell? ⟨gb186, 4, none⟩ = some (.slice none 0 0) := (blk_cell BK186.out 4).trans rfl; have hcz16_5 : w13.cell? ⟨gb186, 5, none⟩ = some (.slice none 0 0) := (blk_cell BK186.out 5).trans rfl; have hcz16_6 : w13.cell? ⟨gb186, 6, none⟩ = some (.int .i64 0) := (blk_cell BK186.out 6).trans rfl; have hfz16_0 := blk_frozen BK186.out 0; have hfz16_1 := blk_frozen BK186.out 1; have hfz16_2 := blk_frozen BK186.out 2; have hfz16_3 := blk_frozen BK186.out 3; have hfz16_4 := blk_frozen BK186.out 4; have hfz16_5 := blk_frozen BK186.out 5; have hfz16_6 := blk_frozen BK186.out 6))
   go_loopg [6] k (fun kq v6 w' => ∃ (x6_1 : Int) (x187003_1 : List (List Int)) (u187003 : Value), v6 = .int .i64 x6_1 ∧ Aside0 (lift_Identity.l0 kq x6_1 a0_0 l0_1 l0_2 l0_3 l0_4 0 1 x187003_1 1 = some (r1, r2, r3, r4, r5, r6, r7, r8)) ∧ Aside0 (kq ≤ k) ∧ Aside0 (Kd.S (Kd.slice 3 (Kd.int .i64)) 24 w' w.heap.size (fun _ => True) u187003 x187003_1) ∧ Aside0 (w'.heap[gb180]? = some (.cells #[.int .i64 a0_0, (.slice A0_1 l0_1.length c0_1), (.slice A0_2 l0_2.length c0_2), (.slice A0_3 l0_3.length c0_3), (.slice A0_4 l0_4.length c0_4)] 26 (0, 0))) ∧ Aside0 (w'.heap[gb181]? = some (.cells #[.int .i64 0, .int .i64 0, (.slice none 0 0), (.slice none 0 0), (.slice none 0 0), (.slice none 0 0), .int .i64 0] 46 (0, 0))) ∧ Aside0 (w'.heap[gb186]? = some (.cells #[.int .i64 0, .int .i64 1, (.slice none 0 0), u187003, (.slice none 0 0), (.slice none 0 0), .int .i64 1] 46 (0, 0))) ∧ Aside0 (Below w.heap.size w w'))
   case atStart => exact ⟨(1), (y183), (.slice Ao12 y183.length co12), (by first | rfl | (simp; done) | (simp [*]; done)), H', ⟨Nat.le_refl _⟩, ⟨by (with_reducible repeat (first | apply Kd.S_alloc | apply Kd.S_drewN | apply Kd.S_drew)); exact Kd.S_mono (Kd.S_far (p := ⟨gb186, 6, none⟩) (Kd.S_far (p := ⟨gb186, 5, none⟩) (Kd.S_far (p := ⟨gb186, 4, none⟩) (Kd.S_far (p := ⟨gb186, 3, none⟩) (Kd.S_far (p := ⟨gb186, 2, none⟩) (Kd.S_far (p := ⟨gb186, 1, none⟩) (Kd.S_far (p := ⟨gb186, 0, none⟩) (Kd.S_types HO185.out BK186.out (by decide)) (fun _ hk => hk.2) (.int .i64 0)) (fun _ hk => hk.2) (.int .i64 1)) (fun _ hk => hk.2) (.slice none 0 0)) (fun _ hk => hk.2) (.slice Ao12 y183.length co12)) (fun _ hk => hk.2) (.slice none 0 0)) (fun _ hk => hk.2) (.slice none 0 0)) (fun _ hk => hk.2) (.int .i64 1)) (fun _ hk => trivial)⟩, ⟨by (with_reducible repeat (first | refine k0_ ?_ _ | refine k1_ ?_ | refine k2_ ?_ _)); refine blk_far ?_ NB180_186.out _; (with_reducible repeat (first | refine k0_ ?_ _ | refine k1_ ?_ | refine k2_ ?_ _)); refine blk_far ?_ NB180_186.out _; (with_reducible repeat (first | refine k0_ ?_ _ | refine k1_ ?_ | refine k2_ ?_ _)); refine blk_far ?_ NB180_186.out _; (with_reducible repeat (first | refine k0_ ?_ _ | refine k1_ ?_ | refine k2_ ?_ _)); refine blk_far ?_ NB180_186.out _; (with_reducible repeat (first | refine k0_ ?_ _ | refine k1_ ?_ | refine k2_ ?_ _)); refine blk_far ?_ NB180_186.out _; (with_reducible repeat (first | refine k0_ ?_ _ | refine k1_ ?_ | refine k2_ ?_ _)); refine blk_far ?_ NB180_186.out _; (with_reducible repeat (first | refine k0_ ?_ _ | refine k1_ ?_ | refine k2_ ?_ _)); refine blk_far ?_ NB180_186.out _; (with_reducible repeat (first | refine k0_ ?_ _ | refine k1_ ?_ | refine k2_ ?_ _)); exact BK180.out⟩, ⟨by (with_reducible repeat (first | refine k0_ ?_ _ | refine k1_ ?_ | refine k2_ ?_ _)); refine blk_far ?_ NB181_186.out _; (with_reducible repeat (first | refine k0_ ?_ _ | refine k1_ ?_ | refine k2_ ?_ _)); refine blk_far ?_ NB181_186.out _; (with_reducible repeat (first | refine k0_ ?_ _ | refine k1_ ?_ | refine k2_ ?_ _)); refine blk_far ?_ NB181_186.out _; (with_reducible repeat (first | refine k0_ ?_ _ | refine k1_ ?_ | refine k2_ ?_ _)); refine blk_far ?_ NB181_186.out _; (with_reducible repeat (first | refine k0_ ?_ _ | refine k1_ ?_ | refine k2_ ?_ _)); refine blk_far ?_ NB181_186.out _; (with_reducible repeat (first | refine k0_ ?_ _ | refine k1_ ?_ | refine k2_ ?_ _)); refine blk_far ?_ NB181_186.out _; (with_reducible repeat (first | refine k0_ ?_ _ | refine k1_ ?_ | refine k2_ ?_ _)); refine blk_far ?_ NB181_186.out _; (with_reducible repeat (first | refine k0_ ?_ _ | refine k1_ ?_ | refine k2_ ?_ _)); exact BK181.out⟩, ⟨by (with_reducible repeat (first | refine k0_ ?_ _ | refine k1_ ?_ | refine k2_ ?_ _)); refine blk_put (cs := #[.int .i64 0, .int .i64 1, .slice none 0 0, .slice Ao12 y183.length co12, .slice none 0 0, .slice none 0 0, .int .i64 0]) ?_ 6 _ rfl; (with_reducible repeat (first | refine k0_ ?_ _ | refine k1_ ?_ | refine k2_ ?_ _)); refine blk_put (cs := #[.int .i64 0, .int .i64 1, .slice none 0 0, .slice Ao12 y183.length co12, .slice none 0 0, .slice none 0 0, .int .i64 0]) ?_ 5 _ rfl; (with_reducible repeat (first | refine k0_ ?_ _ | refine k1_ ?_ | refine k2_ ?_ _)); refine blk_put (cs := #[.int .i64 0, .int .i64 1, .slice none 0 0, .slice Ao12 y183.length co12, .slice none 0 0, .slice none 0 0, .int .i64 0]) ?_ 4 _ rfl; (with_reducible repeat (first | refine k0_ ?_ _ | refine k1_ ?_ | refine k2_ ?_ _)); refine blk_put (cs := #[.int .i64 0, .int .i64 1, .slice none 0 0, .slice none 0 0, .slice none 0 0, .slice none 0 0, .int .i64 0]) ?_ 3 _ rfl; (with_reducible repeat (first | refine k0_ ?_ _ | refine k1_ ?_ | refine k2_ ?_ _)); refine blk_put (cs := #[.int .i64 0, .int .i64 1, .slice none 0 0, .slice none 0 0, .slice none 0 0, .slice none 0 0, .int .i64 0]) ?_ 2 _ rfl; (with_reducible repeat (first | refine k0_ ?_ _ | refine k1_ ?_ | refine k2_ ?_ _)); refine blk_put (cs := #[.int .i64 0, .int .i64 0, .slice none 0 0, .slice none 0 0, .slice none 0 0, .slice none 0 0, .int .i64 0]) ?_ 1 _ rfl; (with_reducible repeat (first | refine k0_ ?_ _ | refine k1_ ?_ | refine k2_ ?_ _)); refine blk_put (cs := #[.int .i64 0, .int .i64 0, .slice none 0 0, .slice none 0 0, .slice none 0 0, .slice none 0 0, .int .i64 0]) ?_ 0 _ rfl; (with_reducible repeat (first | refine k0_ ?_ _ | refine k1_ ?_ | refine k2_ ?_ _)); exact BK186.out⟩, ⟨by repeat (first | (with_reducible first | exact HB.out | apply b0_ | apply b1_ | apply b2_ | refine below_set ?_ GE180.out | refine below_set ?_ GE181.out | refine below_set ?_ GE186.out) | exact HB.out)⟩⟩
   case round =>
    clear H'
    try clear c1; try clear p2; try clear c3; try clear c3b0; try clear c3b1; try clear c4; try clear c4b0; try clear c4b1; try clear c5; try clear c7; try clear c14; try clear c15; try clear hcz16_0 hcz16_1 hcz16_2 hcz16_3 hcz16_4 hcz16_5 hcz16_6; try clear hcz8_0 hcz8_1 hcz8_2 hcz8_3 hcz8_4; try clear hfz16_0 hfz16_1 hfz16_2 hfz16_3 hfz16_4 hfz16_5 hfz16_6; try clear hfz8_0 hfz8_1 hfz8_2 hfz8_3 hfz8_4
    obtain ⟨x6_1, x187003_1, u187003, rfl, HA, HK1, HO_187003, BK180, BK181, BK186, HB⟩ := hrel
    cases gk with
    | zero => exact absurd HA.out (by simp [lift_Identity.l0])
    | succ k1 =>
     have H := HA.out
     clear HA
     simp only [lift_Identity.l0] at H
     by_cases c17 : x6_1 ≤ a0_0
     ·rw [if_pos c17] at H
      have c17b0 : decide (x6_1 ≤ a0_0) = true := decide_eq_true c17
      clear c17
      by_cases c18 : 0 < (x187003_1.length : Int)
      ·rw [if_pos c18] at H
       have c18b0 : decide (0 < (x187003_1.length : Int)) = true := decide_eq_true c18
       have c18b1 : decide (0 < x187003_1.length) = true := decide_eq_true (by omega)
       clear c18
       by_cases c19 : (rd_L5 x187003_1 0).length < 17592186044416
       ·rw [if_pos c19] at H
        have LMc19 := M_ c19
        clear c19
        obtain ⟨y188, hy188⟩ : ∃ y_ : List Int, y_ = ((rd_L5 x187003_1 0) ++ [wrap64 (2 * x6_1)]) := ⟨_, rfl⟩
        replace H : (lift_Identity.l0 k1 (wrap64 (x6_1 + 1)) a0_0 l0_1 l0_2 l0_3 l0_4 0 1 (x187003_1.set (0 : Int).toNat y188) 1) = some (r1, r2, r3, r4, r5, r6, r7, r8) := by first | (rw [hy188]; with_reducible exact H) | (have H2_ := (Option.bind_some _ _).symm.trans H; rw [hy188]; with_reducible exact H2_) | (have H2_ := (Option.bind_some _ _).symm.trans H; with_reducible exact H2_) | with_reducible exact H | (rw [hy188]; exact H) | exact H
        have Ny188 := M_ hy188
        clear hy188
        obtain ⟨y191, hy191⟩ : ∃ y_ : List (List Int), y_ = (x187003_1.set (0 : Int).toNat y188) := ⟨_, rfl⟩
        replace H : (lift_Identity.l0 k1 (wrap64 (x6_1 + 1)) a0_0 l0_1 l0_2 l0_3 l0_4 0 1 y191 1) = some (r1, r2, r3, r4, r5, r6, r7, r8) := by first | (rw [hy191]; with_reducible exact H) | (have H2_ := (Option.bind_some _ _).symm.trans H; rw [hy191]; with_reducible exact H2_) | (have H2_ := (Option.bind_some _ _).symm.trans H; with_reducible exact H2_) | with_reducible exact H | (rw [hy191]; exact H) | exact H
        have Ny191 := M_ hy191
        clear hy191
        have H' := M_ H
        clear H
        have hnb21 := NB180_181.out
        have hnc21 := NB181_180.out
        have hnb22 := NB180_186.out
        have hnc22 := NB186_180.out
        obtain ⟨hcz23_0, hcz23_1, hcz23_2, hcz23_3, hcz23_4⟩ := cz5_ BK180.out
        obtain ⟨hfz23_0, hfz23_1, hfz23_2, hfz23_3, hfz23_4⟩ := fz5_ BK180.out
        try go_wp2
        have n0_ := M_ (Kd.S_drew HO_187003.out)
        have n1_ := M_ (blk_drew BK180.out)
        have n2_ := M_ (blk_drew BK181.out)
        have n3_ := M_ (blk_drew BK186.out)
        have n4_ := M_ (below_drew1 HB.out)
        clear HO_187003
        clear BK180
        clear BK181
        clear BK186
        clear HB
        have HO_187003 := n0_
        have BK180 := n1_
        have BK181 := n2_
        have BK186 := n3_
        have HB := n4_
        clear n0_ n1_ n2_ n3_ n4_
        obtain ⟨Ao25, co25, eo25⟩ := Kd.S_slice HO_187003.out
        (first | subst eo25 | (injection eo25 with f1_ f2_ f3_; have f4_ := f1_.symm; have f5_ := f3_.symm; clear f1_ f2_ f3_; subst f4_; subst f5_))
        have p187 : 0 ≤ (0 : Int) := (by omega)
        have q187 : 0 < (x187003_1.length : Int) := of_decide_eq_true (by first | (with_reducible assumption) | assumption)
        obtain ⟨ad187, A187_0, c187_0, e187, hx187_0, hl187_0, hi187_0⟩ := at_L5 (Kd.S_reads' HO_187003.out).2.2 0 p187 q187
        cases e187
        obtain ⟨ce187, hce187, hMe187, hcc187⟩ := Kd.S_get HO_187003.out [] 0 p187 (by first | exact q187 | exact of_decide_eq_true (by first | (with_reducible assumption) | assumption) | (have e_ := (Kd.S_reads' HO_187003.out).1; omega))
        obtain ⟨ve187_0, rfl, ge187_0⟩ := hMe187
        have hv187_0 := hcc187 0 _ rfl
        rw [Nat.add_zero, show ((Kd.slice 3 (Kd.int .i64))).sz = 1 from rfl, Nat.mul_one] at hv187_0
        replace hv187_0 := Option.some.inj (hv187_0.symm.trans hx187_0)
        rw [hv187_0] at ge187_0
        have HL187_0 := M_ (show Kd.R (Kd.int .i64) 3 _ _ _ _ (rd_L5 x187003_1 0) from ge187_0)
        clear hv187_0 ge187_0
        have HX187_0 := M_ hx187_0
        clear hcc187 hce187
        have qi187 : (0 < x187003_1.length) = True := eq_true (by omega)
        (try rw [show ((0 : Int)).toNat = 0 from rfl] at hx187_0)
        (try rw [Addr.add_zero'] at hx187_0)
        have HR187_0 := M_ hi187_0
        have HC187_0 := M_ hl187_0
        clear hi187_0 hl187_0
        replace p187 := eq_true p187
        replace q187 := eq_true q187
        obtain ⟨go26, co26, eo26, gb26, gl26, cl26, HG26⟩ := Kd.S_form HO_187003.out (by have h_ : (0 : Int) < ((x187003_1.length : Int) : Int) := of_decide_eq_true (by first | (with_reducible assumption) | assumption); have h2_ : 0 ≤ (0 : Int) := (by omega); omega)
        (first | cases eo26 | (injection eo26 with ea_ en_ ec_; (first | subst ea_ | (injection ea_ with ea_; subst ea_)); subst ec_; clear en_))
        have GB26 := M_ gb26
        have GG26 := M_ HG26
        clear gb26 gl26 HG26
        (first | simp only [add_plain] at hx187_0 | skip)
        obtain ⟨oki26, ce26, hcl26, hM26, hcc26, _, _, hH26⟩ := Kd.S_elem HO_187003.out [] (0 : Int) (by omega) (by have h_ : (0 : Int) < ((x187003_1.length : Int) : Int) := of_decide_eq_true (by first | (with_reducible assumption) | assumption); first | exact h_ | (have e_ := (Kd.S_reads' HO_187003.out).1; omega) | simpa using h_)
        obtain ⟨ve26_0, rfl, ge26_0⟩ := hM26
        have hv26 := hcc26 0 _ rfl
        have hX26 := HX187_0.out
        (try simp only [add_plain] at hX26)
        (try simp only [Nat.add_zero] at hv26)
        (try rw [show ((Kd.slice 3 (Kd.int .i64))).sz = 1 from rfl, Nat.mul_one] at hv26)
        replace hv26 := Option.some.inj (hv26.symm.trans hX26)
        subst hv26
        clear hX26 hcc26 hcl26
        have UU26 := M_ (show Kd.R (Kd.int .i64) 3 _ w.heap.size oki26 (.slice A187_0 (rd_L5 x187003_1 0).length c187_0) (rd_L5 x187003_1 0) from ge26_0)
        have HH26 := M_ hH26
        have HN26 := M_ (Kd.S_reads' HO_187003.out).1
        clear hH26 ge26_0
        refine start_ (n := 12) (S := fun w' => w'.cell? ⟨gb186, 0, none⟩ = some (.int .i64 0) ∧ w'.cell? ⟨gb186, 1, none⟩ = some (.int .i64 1) ∧ w'.cell? ⟨gb186, 2, none⟩ = some (.slice none 0 0) ∧ w'.cell? ⟨gb186, 3, none⟩ = some (.slice (some ⟨go26, 0, none⟩) x187003_1.length co25) ∧ w'.cell? ⟨gb186, 4, none⟩ = some (.slice none 0 0) ∧ w'.cell? ⟨gb186, 5, none⟩ = some (.slice none 0 0) ∧ w'.cell? ⟨gb186, 6, none⟩ = some (.int .i64 1) ∧ w'.cell? ⟨go26, 0, none⟩ = some (.slice A187_0 (rd_L5 x187003_1 0).length c187_0)) (ds := [11]) z14_ (by kernel_rfl) rfl rfl ⟨(blk_cell BK186.out 0).trans rfl, (blk_cell BK186.out 1).trans rfl, (blk_cell BK186.out 2).trans rfl, (blk_cell BK186.out 3).trans rfl, (blk_cell BK186.out 4).trans rfl, (blk_cell BK186.out 5).trans rfl, (blk_cell BK186.out 6).trans rfl, hx187_0⟩ (fun hHeld => ?_); refine with_tabW lift_Identity.tab8 lift_Identity.bits8 (fun HT_ HW_ => ?_)
        generalize wr.drew = w24 at HO_187003 BK180 BK181 BK186 HB GG26 HH26 HL187_0 HR187_0 HX187_0 UU26 hx187_0 hHeld ⊢
        refine pure_ (i := 0) (N := some 23) (v := ?_) (a' := ?_) z15_ rfl rfl (any_of HT_.out (by kernel_rfl)) (fun _ _ _ h => h) (Or.inl ⟨by rfl, ?_⟩) ?_ ?_
        rotate_left
        ·intro w'
         go_simp
         with_reducible rfl
        rotate_left
        ·simp only [Act.put, e1_, e2_, e3_, i64_w, i32_w]
         rfl
        refine pure_ (i := 2) (N := some 25) (v := ?_) (a' := ?_) z16_ rfl rfl (any_of HT_.out (by kernel_rfl)) (fun _ _ _ h => h) (Or.inl ⟨by rfl, ?_⟩) ?_ ?_
        rotate_left
        ·intro w'
         go_simp
         with_reducible rfl
        rotate_left
        ·simp only [Act.put, e1_, e2_, e3_, i64_w, i32_w]
         rfl
        refine pure_ (i := 6) (N := some 29) (v := ?_) (a' := ?_) z17_ rfl rfl (any_of HT_.out (by kernel_rfl)) (fun _ _ _ h => h) (Or.inl ⟨by rfl, ?_⟩) ?_ ?_
        rotate_left
        ·intro w'
         go_simp
         with_reducible rfl
        rotate_left
        ·simp only [Act.put, e1_, e2_, e3_, i64_w, i32_w]
         rfl
        refine pure_ (i := 7) (N := some 30) (v := ?_) (a' := ?_) z18_ rfl rfl (any_of HT_.out (by kernel_rfl)) (fun _ _ _ h => h) (Or.inl ⟨by rfl, ?_⟩) ?_ ?_
        rotate_left
        ·intro w'
         go_simp
         with_reducible rfl
        rotate_left
        ·simp only [Act.put, e1_, e2_, e3_, i64_w, i32_w]
         rfl
        refine take_ (i := 1) (N := some 24) (v := ?_) (a' := ?_) z19_ rfl rfl (take_ofW HT_.out HW_.out (by kernel_rfl)) (fun _ _ _ h => h) (Or.inl ⟨by rfl, ?_⟩) hHeld ?_ ?_
        rotate_left
        ·rintro w' ⟨s0, s1, s2, s3, s4, s5, s6, s7⟩
         go_simp
         with_reducible rfl
        rotate_left
        ·simp only [Act.put, e1_, e2_, e3_, i64_w, i32_w]
         rfl
        refine take_ (i := 3) (N := some 26) (v := ?_) (a' := ?_) z20_ rfl rfl (take_ofW HT_.out HW_.out (by kernel_rfl)) (fun _ _ _ h => h) (Or.inl ⟨by rfl, ?_⟩) hHeld ?_ ?_
        rotate_left
        ·rintro w' ⟨s0, s1, s2, s3, s4, s5, s6, s7⟩
         go_simp
         with_reducible rfl
        rotate_left
        ·simp only [Act.put, e1_, e2_, e3_, i64_w, i32_w]
         rfl
        refine pure_ (i := 4) (N := some 27) (v := ?_) (a' := ?_) z21_ rfl rfl (any_of HT_.out (by kernel_rfl)) (fun _ _ _ h => h) (Or.inl ⟨by rfl, ?_⟩) ?_ ?_
        rotate_left
        ·intro w'
         go_simp
         with_reducible rfl
        rotate_left
        ·simp only [Act.put, e1_, e2_, e3_, i64_w, i32_w]
         rfl
        refine take_ (i := 5) (N := some 28) (v := ?_) (a' := ?_) z22_ rfl rfl (take_ofW HT_.out HW_.out (by kernel_rfl)) (fun _ _ _ h => h) (Or.inl ⟨by rfl, ?_⟩) hHeld ?_ ?_
        rotate_left
        ·rintro w' ⟨s0, s1, s2, s3, s4, s5, s6, s7⟩
         go_simp
         with_reducible rfl
        rotate_left
        ·simp only [Act.put, e1_, e2_, e3_, i64_w, i32_w]
         rfl
        refine one_ (i := 8) (N := some 31) z23_ rfl rfl (one_of HT_.out (by kernel_rfl)) (by decide) (fun K hK => ?_)
        refine value_ (w1 := ?_) (v := ?_) (by rfl) rfl ?_ ?_
        rotate_left 2
        ·go_simp
         constructor
         ·rfl
         ·rfl
        refine hK.out _ _ ⟨(blk_cell (blk_alloc BK186.out _) 0).trans rfl, (blk_cell (blk_alloc BK186.out _) 1).trans rfl, (blk_cell (blk_alloc BK186.out _) 2).trans rfl, (blk_cell (blk_alloc BK186.out _) 3).trans rfl, (blk_cell (blk_alloc BK186.out _) 4).trans rfl, (blk_cell (blk_alloc BK186.out _) 5).trans rfl, (blk_cell (blk_alloc BK186.out _) 6).trans rfl, (World.cell?_alloc_lt _ _ _ (World.block_lt_of_cell? _ _ (hHeld.2.2.2.2.2.2.2))).trans (hHeld.2.2.2.2.2.2.2)⟩ (fun hHeld => ?_)
        clear hK K
        refine norm_ (a' := ?_) ?_ ?_
        rotate_left
        ·show Act.put _ (some 31) _ = _
         simp only [Act.put, e1_, e2_, e3_, i64_w, i32_w]
         rfl
        refine one_ (i := 9) (N := some 32) z24_ rfl rfl (one_of HT_.out (by kernel_rfl)) (by decide) (fun K hK => ?_)
        refine Kd.R_append_step (Kd.int .i64) (w0 := w) w.heap.size (by rfl) (.tmp 28) (.tmp 31) 24 3 (.int .i64 0) 8 rfl Try.underlying24 info3 rfl (by decide) (by omega) (.slice A187_0 (rd_L5 x187003_1 0).length c187_0) (rd_L5 x187003_1 0) (wrap64 (2 * x6_1)) [.int .i64 (wrap64 (2 * x6_1))] (fun k_ => oki26 k_ ∨ ((fun _ => True)) k_ ∧ w24.heap.size ≤ k_) (fun _ => False) rfl rfl ?aP (fun _ hk => hk.elim) ?aF ?aO ?aB ?aS ?aL ?_
        (case aP => exact rfl)
        (case aB => exact (ws_ HB.out))
        (case aF => exact (fun k_ hk => .inr ⟨trivial, hk⟩))
        (case aO => exact (rl_ (Kd.R_mono UU26.out (fun _ hk => .inl hk))))
        (case aS => exact (below_size (ws_ HB.out)))
        (case aL => have := LMc19.out; omega)
        intro v189 w27 ho hb hg hat
        (first | have HS7_ := cell_grown hg (hHeld.2.2.2.2.2.2.2) (by first | (rw [add_block]; exact (fun e_ => ((HL187_0.out.1 _ e_.symm).2) rfl)) | (show some (Addr.add _ _).block ≠ _; rw [add_block]; exact (fun e_ => ((HL187_0.out.1 _ e_.symm).2) rfl)) | exact (fun e_ => ((HL187_0.out.1 _ e_.symm).2) rfl)) | have HS7_ := cell_grown hg (cell_unalloc (hHeld.2.2.2.2.2.2.2) (by first | (rw [add_block]; exact Kd.S_lt HO_187003.out _ rfl) | (show (Addr.add _ _).block < _; rw [add_block]; exact Kd.S_lt HO_187003.out _ rfl) | exact Kd.S_lt HO_187003.out _ rfl)) (by first | (rw [add_block]; exact (fun e_ => ((HL187_0.out.1 _ e_.symm).2) rfl)) | (show some (Addr.add _ _).block ≠ _; rw [add_block]; exact (fun e_ => ((HL187_0.out.1 _ e_.symm).2) rfl)) | exact (fun e_ => ((HL187_0.out.1 _ e_.symm).2) rfl)))
        rw [← Ny188.out] at ho
        have n0_ := M_ (blk_grown (bl_ BK180.out) hg (Kd.R_ne HL187_0.out BK180.out (by decide)))
        have n1_ := M_ (blk_grown (bl_ BK181.out) hg (Kd.R_ne HL187_0.out BK181.out (by decide)))
        have n2_ := M_ (blk_grown (bl_ BK186.out) hg (Kd.R_ne HL187_0.out BK186.out (by decide)))
        have n3_ := M_ (hb)
        have n4_ := M_ (Kd.H_grown (Kd.H_widen (by repeat (first | exact HH26.out | refine Kd.H_alloc ?_ _ | refine Kd.H_drewN ?_ _ | refine Kd.H_drew ?_))) hg (fun k_ e_ => .inl (UU26.out.1 k_ e_)))
        have n5_ := M_ (ho)
        clear BK180
        clear BK181
        clear BK186
        clear HB
        clear HH26
        clear HO_187003
        clear UU26
        clear HL187_0
        have BK180 := n0_
        have BK181 := n1_
        have BK186 := n2_
        have HB := n3_
        have HH26 := n4_
        have HO190 := n5_
        clear n0_ n1_ n2_ n3_ n4_ n5_
        clear ho hb hg hat
        have p20 : 0 ≤ (0 : Int) := (by omega)
        have q20 : (0 : Int) < ((x187003_1.length : Int) : Int) := of_decide_eq_true (by first | (with_reducible assumption) | assumption)
        replace p20 := eq_true p20
        replace q20 := eq_true q20
        obtain ⟨Ao30, co30, eo30⟩ := Kd.R_slice HO190.out
        (first | subst eo30 | (injection eo30 with f1_ f2_ f3_; have f4_ := f1_.symm; have f5_ := f3_.symm; clear f1_ f2_ f3_; subst f4_; subst f5_))
        obtain ⟨_, _, hraw28, _, _, hcc28, _⟩ := Kd.H_raw HH26.out (by omega) (by have h_ : (0 : Int) < ((x187003_1.length : Int) : Int) := of_decide_eq_true (by first | (with_reducible assumption) | assumption); first | exact h_ | (have e_ := (HN26.out); omega) | simpa using h_)
        obtain ⟨_, hfr28⟩ := Kd.H_at HH26.out (by omega) (by have h_ : (0 : Int) < ((x187003_1.length : Int) : Int) := of_decide_eq_true (by first | (with_reducible assumption) | assumption); first | exact h_ | (have e_ := (HN26.out); omega) | simpa using h_)
        have hx28_0 := hcc28 0 _ rfl
        have hf28_0 := hfr28 0
        (try simp only [Nat.add_zero] at hx28_0 hf28_0)
        (try rw [show ((Kd.slice 3 (Kd.int .i64))).sz = 1 from rfl, Nat.mul_one] at hx28_0)
        (try rw [show ((Kd.slice 3 (Kd.int .i64))).sz = 1 from rfl, Nat.mul_one] at hf28_0)
        (try rw [show ((0 : Int)).toNat = 0 from rfl] at hx28_0)
        (try simp only [Nat.reduceMul, Nat.zero_mul, Nat.zero_add, Nat.reduceAdd] at hx28_0)
        (try rw [show ((0 : Int)).toNat = 0 from rfl] at hf28_0)
        (try simp only [Nat.reduceMul, Nat.zero_mul, Nat.zero_add, Nat.reduceAdd] at hf28_0)
        have HP28 := Kd.S_seg0 HH26.out (by omega) (by have h_ : (0 : Int) < ((x187003_1.length : Int) : Int) := of_decide_eq_true (by first | (with_reducible assumption) | assumption); first | exact h_ | (have e_ := (HN26.out); omega) | simpa using h_) (seg := [.slice Ao30 y188.length co30]) (j := 0) (show 1 ≤ 1 from by decide) (x' := y188) (Kd.M_row HO190.out) (fun _ hk => hk)
        (try simp only [show ((Kd.slice 3 (Kd.int .i64))).sz = 1 from rfl, Nat.mul_one, Nat.add_zero] at HP28)
        clear hcc28 hfr28
        have HNB180_go26 := M_ (show gb180 ≠ go26 from by have h_ := Kd.R_ne hraw28 BK180.out (by decide); intro e_; exact h_ (by rw [e_]; rfl))
        have HNB181_go26 := M_ (show gb181 ≠ go26 from by have h_ := Kd.R_ne hraw28 BK181.out (by decide); intro e_; exact h_ (by rw [e_]; rfl))
        have HNB186_go26 := M_ (show gb186 ≠ go26 from by have h_ := Kd.R_ne hraw28 BK186.out (by decide); intro e_; exact h_ (by rw [e_]; rfl))
        have HS28 := HP28.1
        rw [← Ny191.out] at HS28
        have HQ28 := M_ HS28
        obtain ⟨_, hgg28⟩ := Kd.R_typed hraw28 go26 rfl
        have GG28_ := M_ hgg28
        clear HP28 HS28 hgg28
        refine hK.out _ _ ⟨(blk_cell BK186.out 0).trans rfl, (blk_cell BK186.out 1).trans rfl, (blk_cell BK186.out 2).trans rfl, (blk_cell BK186.out 3).trans rfl, (blk_cell BK186.out 4).trans rfl, (blk_cell BK186.out 5).trans rfl, (blk_cell BK186.out 6).trans rfl, HS7_⟩ (fun hHeld => ?_)
        clear hK K
        refine norm_ (a' := ?_) ?_ ?_
        rotate_left
        ·show Act.put _ (some 32) _ = _
         simp only [Act.put, e1_, e2_, e3_, i64_w, i32_w]
         rfl
        refine pure_ (i := 10) (N := some 33) (v := ?_) (a' := ?_) z25_ rfl rfl (any_of HT_.out (by kernel_rfl)) (fun _ _ _ h => h) (Or.inl ⟨by rfl, ?_⟩) ?_ ?_
        rotate_left
        ·intro w'
         go_simp
         with_reducible rfl
        rotate_left
        ·simp only [Act.put, e1_, e2_, e3_, i64_w, i32_w]
         rfl
        refine last_ (i := 11) (N := none) z26_ rfl rfl (one_of HT_.out (by kernel_rfl)) (by decide) (fun K hK => ?_)
        refine skip_ (w1 := ?_) (by rfl) rfl ?_ ?_
        rotate_left
        ·go_simp
         rfl
        refine hK.out _ _ ?_
        clear hK K
        refine done_ (done_of HT_.out (by kernel_rfl)) ?_
        try go_wp2
        go_roundg k1
        case measure => have := HK1.out; omega
        case rel => exact ⟨(wrap64 (x6_1 + 1)), (y191), (.slice (some ⟨go26, 0, none⟩) x187003_1.length co25), (by first | rfl | (simp; done) | (simp [*]; done)), H', ⟨by have := HK1.out; omega⟩, ⟨by (with_reducible repeat (first | apply Kd.S_alloc | apply Kd.S_drewN | apply Kd.S_drew)); exact HQ28.out⟩, ⟨by (with_reducible repeat (first | refine k0_ ?_ _ | refine k1_ ?_ | refine k2_ ?_ _)); refine blk_far ?_ HNB180_go26.out _; (with_reducible repeat (first | refine k0_ ?_ _ | refine k1_ ?_ | refine k2_ ?_ _)); exact BK180.out⟩, ⟨by (with_reducible repeat (first | refine k0_ ?_ _ | refine k1_ ?_ | refine k2_ ?_ _)); refine blk_far ?_ HNB181_go26.out _; (with_reducible repeat (first | refine k0_ ?_ _ | refine k1_ ?_ | refine k2_ ?_ _)); exact BK181.out⟩, ⟨by (with_reducible repeat (first | refine k0_ ?_ _ | refine k1_ ?_ | refine k2_ ?_ _)); refine blk_far ?_ HNB186_go26.out _; (with_reducible repeat (first | refine k0_ ?_ _ | refine k1_ ?_ | refine k2_ ?_ _)); exact BK186.out⟩, ⟨by repeat (first | (with_reducible first | exact HB.out | apply b0_ | apply b1_ | apply b2_ | refine below_set ?_ GB26.out | refine below_set ?_ GE180.out | refine below_set ?_ GE181.out | refine below_set ?_ GE186.out) | exact HB.out)⟩⟩
       ·rw [if_neg c19] at H
        exact absurd H (by simp)
      ·rw [if_neg c18] at H
       exact absurd H (by simp)
     ·rw [if_neg c17] at H
      have c17b0 : decide (x6_1 ≤ a0_0) = false := decide_eq_false c17
      clear c17
      have H' := M_ H
      clear H
      have hnb31 := NB180_181.out
      have hnc31 := NB181_180.out
      have hnb32 := NB180_186.out
      have hnc32 := NB186_180.out
      obtain ⟨hcz33_0, hcz33_1, hcz33_2, hcz33_3, hcz33_4⟩ := cz5_ BK180.out
      obtain ⟨hfz33_0, hfz33_1, hfz33_2, hfz33_3, hfz33_4⟩ := fz5_ BK180.out
      go_wp2
      go_loopg [37] k1 (fun kq v37 w' => ∃ (x37_2 : Int) (x187002_2 : List Int) (u187002 : Value), v37 = .int .i64 x37_2 ∧ Aside0 (lift_Identity.l1 kq (l0_1.length : Int) x37_2 a0_0 l0_1 l0_2 l0_3 l0_4 0 1 x187002_2 x187003_1 1 = some (r1, r2, r3, r4, r5, r6, r7, r8)) ∧ Aside0 (kq ≤ k1) ∧ Aside0 (Kd.R (Kd.int .i64) 3 w' w.heap.size (fun _ => True) u187002 x187002_2) ∧ Aside0 (Kd.S (Kd.slice 3 (Kd.int .i64)) 24 w' w.heap.size (fun k_ => some k_ ≠ (u187002 : Value).ownBlock) u187003 x187003_1) ∧ Aside0 (w'.heap[gb180]? = some (.cells #[.int .i64 a0_0, (.slice A0_1 l0_1.length c0_1), (.slice A0_2 l0_2.length c0_2), (.slice A0_3 l0_3.length c0_3), (.slice A0_4 l0_4.length c0_4)] 26 (0, 0))) ∧ Aside0 (w'.heap[gb181]? = some (.cells #[.int .i64 0, .int .i64 0, (.slice none 0 0), (.slice none 0 0), (.slice none 0 0), (.slice none 0 0), .int .i64 0] 46 (0, 0))) ∧ Aside0 (w'.heap[gb186]? = some (.cells #[.int .i64 0, .int .i64 1, u187002, u187003, (.slice none 0 0), (.slice none 0 0), .int .i64 1] 46 (0, 0))) ∧ Aside0 (Below w.heap.size w w'))
      case atStart => exact ⟨(0), (([] : List Int)), (.slice none 0 0), (by first | rfl | (simp; done) | (simp [*]; done)), H', ⟨Nat.le_refl _⟩, ⟨by first | exact Kd.R_nil _ _ _ _ _ | exact Kd.N_nil _ _ _ _ _ | exact Kd.V_nil _ _ _ _ _ | exact Kd.Q_nil _ _ _ _ _ | exact Kd.S_nil _ _ _ _ _⟩, ⟨by (with_reducible repeat (first | apply Kd.S_alloc | apply Kd.S_drewN | apply Kd.S_drew)); exact Kd.S_mono HO_187003.out (fun _ hk => (by simp [Value.ownBlock]))⟩, ⟨by (with_reducible repeat (first | refine k0_ ?_ _ | refine k1_ ?_ | refine k2_ ?_ _)); exact BK180.out⟩, ⟨by (with_reducible repeat (first | refine k0_ ?_ _ | refine k1_ ?_ | refine k2_ ?_ _)); exact BK181.out⟩, ⟨by (with_reducible repeat (first | refine k0_ ?_ _ | refine k1_ ?_ | refine k2_ ?_ _)); exact BK186.out⟩, ⟨by repeat (first | (with_reducible first | exact HB.out | apply b0_ | apply b1_ | apply b2_ | refine below_set ?_ GE180.out | refine below_set ?_ GE181.out | refine below_set ?_ GE186.out) | exact HB.out)⟩⟩
      case round =>
       clear H'
       try clear c1; try clear p1; try clear q1; try clear hx1; try clear qi1; try clear c2; try clear p2; try clear q2; try clear hx2; try clear hf2; try clear c3; try clear c3b0; try clear c3b1; try clear c4; try clear c4b0; try clear c4b1; try clear c5; try clear p6; try clear c7; try clear c14; try clear c15; try clear c17; try clear c17b0; try clear c18; try clear c18b0; try clear c18b1; try clear p18; try clear q18; try clear hx18; try clear qi18; try clear c19; try clear p20; try clear q20; try clear c21; try clear c22; try clear c26; try clear c28; try clear hx28; try clear hf28; try clear c31; try clear c32; try clear hcz16_0 hcz16_1 hcz16_2 hcz16_3 hcz16_4 hcz16_5 hcz16_6; try clear hcz23_0 hcz23_1 hcz23_2 hcz23_3 hcz23_4; try clear hcz33_0 hcz33_1 hcz33_2 hcz33_3 hcz33_4; try clear hcz8_0 hcz8_1 hcz8_2 hcz8_3 hcz8_4; try clear hfz16_0 hfz16_1 hfz16_2 hfz16_3 hfz16_4 hfz16_5 hfz16_6; try clear hfz23_0 hfz23_1 hfz23_2 hfz23_3 hfz23_4; try clear hfz33_0 hfz33_1 hfz33_2 hfz33_3 hfz33_4; try clear hfz8_0 hfz8_1 hfz8_2 hfz8_3 hfz8_4; try clear hx187_0; try clear hx28_0; try clear p187; try clear p2; try clear p20; try clear q187; try clear q20
       obtain ⟨x37_2, x187002_2, u187002, rfl, HA, HK2, HO_187002, HO_187003, BK180, BK181, BK186, HB⟩ := hrel
       cases gk with
       | zero => exact absurd HA.out (by simp [lift_Identity.l1])
       | succ k2 =>
        have H := HA.out
        clear HA
        simp only [lift_Identity.l1] at H
        by_cases c34 : x37_2 < (l0_1.length : Int)
        ·rw [if_pos c34] at H
         have c34b0 : decide (x37_2 < (l0_1.length : Int)) = true := decide_eq_true c34
         clear c34
         by_cases c35 : x187002_2.length < 17592186044416
         ·rw [if_pos c35] at H
          have LMc35 := M_ c35
          clear c35
          obtain ⟨y192, hy192⟩ : ∃ y_ : List Int, y_ = (x187002_2 ++ [wrap64 (2 * (wrap64 ((wrap64 (a0_0 + 1)) + x37_2)))]) := ⟨_, rfl⟩
          replace H : (lift_Identity.l1 k2 (l0_1.length : Int) (wrap64 (x37_2 + 1)) a0_0 l0_1 l0_2 l0_3 l0_4 0 1 y192 x187003_1 1) = some (r1, r2, r3, r4, r5, r6, r7, r8) := by first | (rw [hy192]; with_reducible exact H) | (have H2_ := (Option.bind_some _ _).symm.trans H; rw [hy192]; with_reducible exact H2_) | (have H2_ := (Option.bind_some _ _).symm.trans H; with_reducible exact H2_) | with_reducible exact H | (rw [hy192]; exact H) | exact H
          have Ny192 := M_ hy192
          clear hy192
          have H' := M_ H
          clear H
          have hnb36 := NB186_180.out
          have hnc36 := NB180_186.out
          have hnb37 := NB186_181.out
          have hnc37 := NB181_186.out
          have hcz38_0 : wr.cell? ⟨gb186, 0, none⟩ = some (.int .i64 0) := (blk_cell BK186.out 0).trans rfl
          have hcz38_1 : wr.cell? ⟨gb186, 1, none⟩ = some (.int .i64 1) := (blk_cell BK186.out 1).trans rfl
          have hcz38_2 : wr.cell? ⟨gb186, 2, none⟩ = some (u187002) := (blk_cell BK186.out 2).trans rfl
          have hcz38_3 : wr.cell? ⟨gb186, 3, none⟩ = some (u187003) := (blk_cell BK186.out 3).trans rfl
          have hcz38_4 : wr.cell? ⟨gb186, 4, none⟩ = some (.slice none 0 0) := (blk_cell BK186.out 4).trans rfl
          have hcz38_5 : wr.cell? ⟨gb186, 5, none⟩ = some (.slice none 0 0) := (blk_cell BK186.out 5).trans rfl
          have hcz38_6 : wr.cell? ⟨gb186, 6, none⟩ = some (.int .i64 1) := (blk_cell BK186.out 6).trans rfl
          have hfz38_0 := blk_frozen BK186.out 0
          have hfz38_1 := blk_frozen BK186.out 1
          have hfz38_2 := blk_frozen BK186.out 2
          have hfz38_3 := blk_frozen BK186.out 3
          have hfz38_4 := blk_frozen BK186.out 4
          have hfz38_5 := blk_frozen BK186.out 5
          have hfz38_6 := blk_frozen BK186.out 6
          have hnb39 := NB180_181.out
          have hnc39 := NB181_180.out
          obtain ⟨hcz40_0, hcz40_1, hcz40_2, hcz40_3, hcz40_4⟩ := cz5_ BK180.out
          obtain ⟨hfz40_0, hfz40_1, hfz40_2, hfz40_3, hfz40_4⟩ := fz5_ BK180.out
          go_wp2_with (first | ((with_reducible refine gate_builtin (b := .append) (xs := #[.tmp 41, .tmp 48]) rfl ?_); at_builtin; refine Kd.R_append (Kd.int .i64) (w0 := w) w.heap.size rfl (.tmp 41) (.tmp 48) 24 3 (.int .i64 0) 8 rfl Try.underlying24 info3 rfl (by decide) (by omega) u187002 x187002_2 (wrap64 (2 * (wrap64 ((wrap64 (a0_0 + 1)) + x37_2)))) [.int .i64 (wrap64 (2 * (wrap64 ((wrap64 (a0_0 + 1)) + x37_2))))] (fun _ => True) (fun _ => False) rfl rfl ?aP (fun _ hk => hk.elim) ?aF ?aO ?aB ?aS ?aL ?_; (case aP => exact rfl); (case aB => exact (ws_ HB.out)); (case aF => exact (fun _ _ => trivial)); (case aO => exact (rl_ HO_187002.out)); (case aS => exact (below_size (ws_ HB.out))); (case aL => have := LMc35.out; omega); intro v193 w41 ho hb hg hat; rw [← Ny192.out] at ho; have n0_ := M_ (Kd.S_after (ok := (fun _ => True)) (by (with_reducible repeat (first | apply Kd.S_alloc | apply Kd.S_drewN | apply Kd.S_drew)); exact Kd.S_mono HO_187003.out (fun _ hk => ⟨trivial, hk⟩)) hg hat); have n1_ := M_ (blk_grown (bl_ BK180.out) hg (Kd.R_ne HO_187002.out BK180.out (by decide))); have n2_ := M_ (blk_grown (bl_ BK181.out) hg (Kd.R_ne HO_187002.out BK181.out (by decide))); have n3_ := M_ (blk_grown (bl_ BK186.out) hg (Kd.R_ne HO_187002.out BK186.out (by decide))); have n4_ := M_ (hb); have n5_ := M_ (ho); clear HO_187003; clear BK180; clear BK181; clear BK186; clear HB; clear HO_187002; have HO_187003 := n0_; have BK180 := n1_; have BK181 := n2_; have BK186 := n3_; have HB := n4_; have HO194 := n5_; clear n0_ n1_ n2_ n3_ n4_ n5_; clear ho hb hg hat; obtain ⟨Ao42, co42, eo42⟩ := Kd.R_slice HO194.out; subst eo42; have hcz43_0 : w41.cell? ⟨gb186, 0, none⟩ = some (.int .i64 0) := (blk_cell BK186.out 0).trans rfl; have hcz43_1 : w41.cell? ⟨gb186, 1, none⟩ = some (.int .i64 1) := (blk_cell BK186.out 1).trans rfl; have hcz43_2 : w41.cell? ⟨gb186, 2, none⟩ = some (u187002) := (blk_cell BK186.out 2).trans rfl; have hcz43_3 : w41.cell? ⟨gb186, 3, none⟩ = some (u187003) := (blk_cell BK186.out 3).trans rfl; have hcz43_4 : w41.cell? ⟨gb186, 4, none⟩ = some (.slice none 0 0) := (blk_cell BK186.out 4).trans rfl; have hcz43_5 : w41.cell? ⟨gb186, 5, none⟩ = some (.slice none 0 0) := (blk_cell BK186.out 5).trans rfl; have hcz43_6 : w41.cell? ⟨gb186, 6, none⟩ = some (.int .i64 1) := (blk_cell BK186.out 6).trans rfl; have hfz43_0 := blk_frozen BK186.out 0; have hfz43_1 := blk_frozen BK186.out 1; have hfz43_2 := blk_frozen BK186.out 2; have hfz43_3 := blk_frozen BK186.out 3; have hfz43_4 := blk_frozen BK186.out 4; have hfz43_5 := blk_frozen BK186.out 5; have hfz43_6 := blk_frozen BK186.out 6))
          go_roundg k2
          case measure => have := HK1.out; have := HK2.out; omega
          case rel => exact ⟨(wrap64 (x37_2 + 1)), (y192), (.slice Ao42 y192.length co42), (by first | rfl | (simp; done) | (simp [*]; done)), H', ⟨by have := HK1.out; have := HK2.out; omega⟩, ⟨by (with_reducible repeat (first | apply a0_ | apply a1_ | apply a2_)); exact Kd.R_mono (Kd.R_far (p := ⟨gb186, 2, none⟩) (Kd.R_types HO194.out BK186.out (by decide)) (fun _ hk => hk.2) (.slice Ao42 y192.length co42)) (fun _ hk => trivial)⟩, ⟨by (with_reducible repeat (first | apply Kd.S_alloc | apply Kd.S_drewN | apply Kd.S_drew)); exact Kd.S_mono (Kd.S_far (p := ⟨gb186, 2, none⟩) (Kd.S_types HO_187003.out BK186.out (by decide)) (fun _ hk => hk.2) (.slice Ao42 y192.length co42)) (fun _ hk => hk.1.2)⟩, ⟨by (with_reducible repeat (first | refine k0_ ?_ _ | refine k1_ ?_ | refine k2_ ?_ _)); refine blk_far ?_ NB180_186.out _; (with_reducible repeat (first | refine k0_ ?_ _ | refine k1_ ?_ | refine k2_ ?_ _)); exact BK180.out⟩, ⟨by (with_reducible repeat (first | refine k0_ ?_ _ | refine k1_ ?_ | refine k2_ ?_ _)); refine blk_far ?_ NB181_186.out _; (with_reducible repeat (first | refine k0_ ?_ _ | refine k1_ ?_ | refine k2_ ?_ _)); exact BK181.out⟩, ⟨by (with_reducible repeat (first | refine k0_ ?_ _ | refine k1_ ?_ | refine k2_ ?_ _)); refine blk_put (cs := #[.int .i64 0, .int .i64 1, u187002, u187003, .slice none 0 0, .slice none 0 0, .int .i64 1]) ?_ 2 _ rfl; (with_reducible repeat (first | refine k0_ ?_ _ | refine k1_ ?_ | refine k2_ ?_ _)); exact BK186.out⟩, ⟨by repeat (first | (with_reducible first | exact HB.out | apply b0_ | apply b1_ | apply b2_ | refine below_set ?_ GE180.out | refine below_set ?_ GE181.out | refine below_set ?_ GE186.out) | exact HB.out)⟩⟩
         ·rw [if_neg c35] at H
          exact absurd H (by simp)
        ·rw [if_neg c34] at H
         have c34b0 : decide (x37_2 < (l0_1.length : Int)) = false := decide_eq_false c34
         clear c34
         replace H := Option.bind_eq_some_iff.mp H
         obtain ⟨t195, A440, H⟩ := H
         replace H : (some (0, 1, x187002_2, x187003_1, t195, ([] : List (S69)), 1, 0)) = some (r1, r2, r3, r4, r5, r6, r7, r8) := H
         have A44 := M_ A440
         clear A440
         simp only [Option.some.injEq, Prod.mk.injEq] at H
         obtain ⟨rfl, rfl, rfl, rfl, rfl, rfl, rfl, rfl⟩ := H
         have hnb45 := NB186_180.out
         have hnc45 := NB180_186.out
         have hnb46 := NB186_181.out
         have hnc46 := NB181_186.out
         have hcz47_0 : wr.cell? ⟨gb186, 0, none⟩ = some (.int .i64 0) := (blk_cell BK186.out 0).trans rfl
         have hcz47_1 : wr.cell? ⟨gb186, 1, none⟩ = some (.int .i64 1) := (blk_cell BK186.out 1).trans rfl
         have hcz47_2 : wr.cell? ⟨gb186, 2, none⟩ = some (u187002) := (blk_cell BK186.out 2).trans rfl
         have hcz47_3 : wr.cell? ⟨gb186, 3, none⟩ = some (u187003) := (blk_cell BK186.out 3).trans rfl
         have hcz47_4 : wr.cell? ⟨gb186, 4, none⟩ = some (.slice none 0 0) := (blk_cell BK186.out 4).trans rfl
         have hcz47_5 : wr.cell? ⟨gb186, 5, none⟩ = some (.slice none 0 0) := (blk_cell BK186.out 5).trans rfl
         have hcz47_6 : wr.cell? ⟨gb186, 6, none⟩ = some (.int .i64 1) := (blk_cell BK186.out 6).trans rfl
         have hfz47_0 := blk_frozen BK186.out 0
         have hfz47_1 := blk_frozen BK186.out 1
         have hfz47_2 := blk_frozen BK186.out 2
         have hfz47_3 := blk_frozen BK186.out 3
         have hfz47_4 := blk_frozen BK186.out 4
         have hfz47_5 := blk_frozen BK186.out 5
         have hfz47_6 := blk_frozen BK186.out 6
         obtain ⟨Ao48, co48, eo48⟩ := Kd.R_slice HO_187002.out
         subst eo48
         go_wp2_with (first | ((with_reducible refine gate_callee (f := 51) rfl ?_); refine goesL_ (some 54) rfl rfl Try.func51 (by kernel_rfl) rfl #[.slice Ao48 x187002_2.length co48] rfl (by (try simp only [List.map_toArray, List.map_cons, List.map_nil]); first | done | rfl) ?_; (with_reducible refine (slices_Clone_int_int.calls _ _ x187002_2 t195 _ ?side1 ?side2 A44.out).mono ?_); (case side1 => exact cl_ (Kd.R_reads' HO_187002.out).2.2); (case side2 => exact (Kd.R_reads' HO_187002.out).2.1); rintro e w49 ⟨v196, rfl, ho0, hb⟩; refine ⟨_, rfl, ?_⟩; have n0_ := M_ (Kd.R_elder' (rl_ HO_187002.out) (Kd.R_base ho0) hb); have n1_ := M_ (Kd.S_elder' (by (with_reducible repeat (first | apply Kd.S_alloc | apply Kd.S_drewN | apply Kd.S_drew)); exact HO_187003.out) (Kd.R_base ho0) hb); have n2_ := M_ (Kd.R_lower (Kd.R_new' ho0 (Kd.R_lt (rl_ HO_187002.out))) (below_size (ws_ HB.out))); clear HO_187002; clear HO_187003; have HO_187002 := n0_; have HO_187003 := n1_; have HO197 := n2_; replace BK180 := bb_ BK180 hb; replace BK181 := bb_ BK181 hb; replace BK186 := bb_ BK186 hb; replace HB := wb_ HB hb; clear n0_ n1_ n2_; (try clear hb); (try clear hb2); (try clear hk); (try clear hi); (try clear ho0); obtain ⟨Ao50, co50, eo50⟩ := Kd.R_slice HO197.out; subst eo50; have hcz51_0 : w49.cell? ⟨gb186, 0, none⟩ = some (.int .i64 0) := (blk_cell BK186.out 0).trans rfl; have hcz51_1 : w49.cell? ⟨gb186, 1, none⟩ = some (.int .i64 1) := (blk_cell BK186.out 1).trans rfl; have hcz51_2 : w49.cell? ⟨gb186, 2, none⟩ = some (.slice Ao48 x187002_2.length co48) := (blk_cell BK186.out 2).trans rfl; have hcz51_3 : w49.cell? ⟨gb186, 3, none⟩ = some (u187003) := (blk_cell BK186.out 3).trans rfl; have hcz51_4 : w49.cell? ⟨gb186, 4, none⟩ = some (.slice none 0 0) := (blk_cell BK186.out 4).trans rfl; have hcz51_5 : w49.cell? ⟨gb186, 5, none⟩ = some (.slice none 0 0) := (blk_cell BK186.out 5).trans rfl; have hcz51_6 : w49.cell? ⟨gb186, 6, none⟩ = some (.int .i64 1) := (blk_cell BK186.out 6).trans rfl; have hfz51_0 := blk_frozen BK186.out 0; have hfz51_1 := blk_frozen BK186.out 1; have hfz51_2 := blk_frozen BK186.out 2; have hfz51_3 := blk_frozen BK186.out 3; have hfz51_4 := blk_frozen BK186.out 4; have hfz51_5 := blk_frozen BK186.out 5; have hfz51_6 := blk_frozen BK186.out 6; have hnb52 := NB181_180.out; have hnc52 := NB180_181.out; have hcz53_0 : w49.cell? ⟨gb181, 0, none⟩ = some (.int .i64 0) := (blk_cell BK181.out 0).trans rfl; have hcz53_1 : w49.cell? ⟨gb181, 1, none⟩ = some (.int .i64 0) := (blk_cell BK181.out 1).trans rfl; have hcz53_2 : w49.cell? ⟨gb181, 2, none⟩ = some (.slice none 0 0) := (blk_cell BK181.out 2).trans rfl; have hcz53_3 : w49.cell? ⟨gb181, 3, none⟩ = some (.slice none 0 0) := (blk_cell BK181.out 3).trans rfl; have hcz53_4 : w49.cell? ⟨gb181, 4, none⟩ = some (.slice none 0 0) := (blk_cell BK181.out 4).trans rfl; have hcz53_5 : w49.cell? ⟨gb181, 5, none⟩ = some (.slice none 0 0) := (blk_cell BK181.out 5).trans rfl; have hcz53_6 : w49.cell? ⟨gb181, 6, none⟩ = some (.int .i64 0) := (blk_cell BK181.out 6).trans rfl; have hfz53_0 := blk_frozen BK181.out 0; have hfz53_1 := blk_frozen BK181.out 1; have hfz53_2 := blk_frozen BK181.out 2; have hfz53_3 := blk_frozen BK181.out 3; have hfz53_4 := blk_frozen BK181.out 4; have hfz53_5 := blk_frozen BK181.out 5; have hfz53_6 := blk_frozen BK181.out 6; obtain ⟨Ao54, co54, eo54⟩ := Kd.S_slice HO_187003.out; subst eo54))
         refine bodyPost_ret (results_ct rfl _ _ gb181 46 #[.int .i64 0, .int .i64 1, .slice Ao48 x187002_2.length co48, .slice Ao54 x187003_1.length co54, .slice Ao50 t195.length co50, .slice none 0 0, .int .i64 1] (0, 0) _ rfl (by (with_reducible repeat (first | refine k0_ ?_ _ | refine k1_ ?_ | refine k2_ ?_ _)); refine blk_put (cs := #[.int .i64 0, .int .i64 1, .slice Ao48 x187002_2.length co48, .slice Ao54 x187003_1.length co54, .slice Ao50 t195.length co50, .slice none 0 0, .int .i64 0]) ?_ 6 _ rfl; (with_reducible repeat (first | refine k0_ ?_ _ | refine k1_ ?_ | refine k2_ ?_ _)); refine blk_put (cs := #[.int .i64 0, .int .i64 1, .slice Ao48 x187002_2.length co48, .slice Ao54 x187003_1.length co54, .slice Ao50 t195.length co50, .slice none 0 0, .int .i64 0]) ?_ 5 _ rfl; (with_reducible repeat (first | refine k0_ ?_ _ | refine k1_ ?_ | refine k2_ ?_ _)); refine blk_put (cs := #[.int .i64 0, .int .i64 1, .slice Ao48 x187002_2.length co48, .slice Ao54 x187003_1.length co54, .slice none 0 0, .slice none 0 0, .int .i64 0]) ?_ 4 _ rfl; (with_reducible repeat (first | refine k0_ ?_ _ | refine k1_ ?_ | refine k2_ ?_ _)); refine blk_put (cs := #[.int .i64 0, .int .i64 1, .slice Ao48 x187002_2.length co48, .slice none 0 0, .slice none 0 0, .slice none 0 0, .int .i64 0]) ?_ 3 _ rfl; (with_reducible repeat (first | refine k0_ ?_ _ | refine k1_ ?_ | refine k2_ ?_ _)); refine blk_put (cs := #[.int .i64 0, .int .i64 1, .slice none 0 0, .slice none 0 0, .slice none 0 0, .slice none 0 0, .int .i64 0]) ?_ 2 _ rfl; (with_reducible repeat (first | refine k0_ ?_ _ | refine k1_ ?_ | refine k2_ ?_ _)); refine blk_put (cs := #[.int .i64 0, .int .i64 0, .slice none 0 0, .slice none 0 0, .slice none 0 0, .slice none 0 0, .int .i64 0]) ?_ 1 _ rfl; (with_reducible repeat (first | refine k0_ ?_ _ | refine k1_ ?_ | refine k2_ ?_ _)); refine blk_put (cs := #[.int .i64 0, .int .i64 0, .slice none 0 0, .slice none 0 0, .slice none 0 0, .slice none 0 0, .int .i64 0]) ?_ 0 _ rfl; (with_reducible repeat (first | refine k0_ ?_ _ | refine k1_ ?_ | refine k2_ ?_ _)); refine blk_far ?_ NB181_186.out _; (with_reducible repeat (first | refine k0_ ?_ _ | refine k1_ ?_ | refine k2_ ?_ _)); exact BK181.out) Try.underlying46 rfl (by kernel_rfl)) rfl ?_
         exact ⟨_, _, _, _, by first | rfl | (simp [errW_none, errW_some] <;> rfl) | (simp [*, errW_none, errW_some] <;> rfl), by (with_reducible repeat (first | apply a0_ | apply a1_ | apply a2_)); exact Kd.R_mono (Kd.R_far (p := ⟨gb181, 6, none⟩) (Kd.R_far (p := ⟨gb181, 5, none⟩) (Kd.R_far (p := ⟨gb181, 4, none⟩) (Kd.R_far (p := ⟨gb181, 3, none⟩) (Kd.R_far (p := ⟨gb181, 2, none⟩) (Kd.R_far (p := ⟨gb181, 1, none⟩) (Kd.R_far (p := ⟨gb181, 0, none⟩) (Kd.R_far (p := ⟨gb186, 4, none⟩) (Kd.R_types (Kd.R_types HO_187002.out BK186.out (by decide)) BK181.out (by decide)) (fun _ hk => hk.1.2) (.slice Ao50 t195.length co50)) (fun _ hk => hk.2) (.int .i64 0)) (fun _ hk => hk.2) (.int .i64 1)) (fun _ hk => hk.2) (.slice Ao48 x187002_2.length co48)) (fun _ hk => hk.2) (.slice Ao54 x187003_1.length co54)) (fun _ hk => hk.2) (.slice Ao50 t195.length co50)) (fun _ hk => hk.2) (.slice none 0 0)) (fun _ hk => hk.2) (.int .i64 1)) (fun _ hk => hk.1.1.2), by (with_reducible repeat (first | apply Kd.S_alloc | apply Kd.S_drewN | apply Kd.S_drew)); exact Kd.S_mono (Kd.S_far (p := ⟨gb181, 6, none⟩) (Kd.S_far (p := ⟨gb181, 5, none⟩) (Kd.S_far (p := ⟨gb181, 4, none⟩) (Kd.S_far (p := ⟨gb181, 3, none⟩) (Kd.S_far (p := ⟨gb181, 2, none⟩) (Kd.S_far (p := ⟨gb181, 1, none⟩) (Kd.S_far (p := ⟨gb181, 0, none⟩) (Kd.S_far (p := ⟨gb186, 4, none⟩) (Kd.S_types (Kd.S_types HO_187003.out BK186.out (by decide)) BK181.out (by decide)) (fun _ hk => hk.1.2) (.slice Ao50 t195.length co50)) (fun _ hk => hk.2) (.int .i64 0)) (fun _ hk => hk.2) (.int .i64 1)) (fun _ hk => hk.2) (.slice Ao48 x187002_2.length co48)) (fun _ hk => hk.2) (.slice Ao54 x187003_1.length co54)) (fun _ hk => hk.2) (.slice Ao50 t195.length co50)) (fun _ hk => hk.2) (.slice none 0 0)) (fun _ hk => hk.2) (.int .i64 1)) (fun _ hk => ⟨hk.1.1.1, hk.1.1.2⟩), by (with_reducible repeat (first | apply a0_ | apply a1_ | apply a2_)); exact Kd.R_mono (Kd.R_far (p := ⟨gb181, 6, none⟩) (Kd.R_far (p := ⟨gb181, 5, none⟩) (Kd.R_far (p := ⟨gb181, 4, none⟩) (Kd.R_far (p := ⟨gb181, 3, none⟩) (Kd.R_far (p := ⟨gb181, 2, none⟩) (Kd.R_far (p := ⟨gb181, 1, none⟩) (Kd.R_far (p := ⟨gb181, 0, none⟩) (Kd.R_far (p := ⟨gb186, 4, none⟩) (Kd.R_types (Kd.R_types HO197.out BK186.out (by decide)) BK181.out (by decide)) (fun _ hk => hk.1.2) (.slice Ao50 t195.length co50)) (fun _ hk => hk.2) (.int .i64 0)) (fun _ hk => hk.2) (.int .i64 1)) (fun _ hk => hk.2) (.slice Ao48 x187002_2.length co48)) (fun _ hk => hk.2) (.slice Ao54 x187003_1.length co54)) (fun _ hk => hk.2) (.slice Ao50 t195.length co50)) (fun _ hk => hk.2) (.slice none 0 0)) (fun _ hk => hk.2) (.int .i64 1)) (fun _ hk => hk.1.1.2), by first | exact Kd.R_nil _ _ _ _ _ | exact Kd.N_nil _ _ _ _ _ | exact Kd.V_nil _ _ _ _ _ | exact Kd.Q_nil _ _ _ _ _ | exact Kd.S_nil _ _ _ _ _, by repeat (first | (with_reducible first | exact HB.out | apply b0_ | apply b1_ | apply b2_ | refine below_set ?_ GE180.out | refine below_set ?_ GE181.out | refine below_set ?_ GE186.out) | exact HB.out)⟩
  ·rw [if_neg c4] at H
   exact absurd H (by simp)
 ·rw [if_neg c3] at H
  have c3b0 : (t182 == 0) = false := beq_eq_false_iff_ne.mpr c3
  have c3b1 : (t182 != 0) = true := bne_iff_ne.mpr c3
  simp only [Option.some.injEq, Prod.mk.injEq] at H
  obtain ⟨rfl, rfl, rfl, rfl, rfl, rfl, rfl, rfl⟩ := H
  go_enter Try.func48, Try.ntmps48
  go_wp2_with (first | ((with_reducible refine gate_dst (N := 1) rfl ?_); refine box_event ?hg (N := 1) ?hd (cs := #[.int .i64 a0_0, .slice A0_1 l0_1.length c0_1, .slice A0_2 l0_2.length c0_2, .slice A0_3 l0_3.length c0_3, .slice A0_4 l0_4.length c0_4]) (t := 26) ?hr ?_; (case hd => rfl); (case hg => rfl); (case hr => first | (go_simp; done) | (go_simp; rfl)); intro gb180 hg w55 hbox hb; have n1_ := M_ (hbox); have n2_ := M_ ((by rw [hg]; exact (below_size (wl_ HB.out)) : w.heap.size ≤ gb180)); have n3_ := M_ ((by rw [hg]; exact (below_size (wl_ HB.out)) : w.heap.size ≤ gb180)); replace HB := wb_ HB hb; have BK180 := n1_; have GW180 := n2_; have GE180 := n3_; have gi180 : Ge _ _ := ⟨GE180.out⟩; clear n1_ n2_ n3_; clear hb hbox hg) | ((with_reducible refine gate_dst (N := 2) rfl ?_); refine box_event ?hg (N := 2) ?hd (cs := #[.int .i64 0, .int .i64 0, .slice none 0 0, .slice none 0 0, .slice none 0 0, .slice none 0 0, .int .i64 0]) (t := 46) ?hr ?_; (case hd => rfl); (case hg => rfl); (case hr => first | (go_simp; done) | (go_simp; rfl)); intro gb181 hg w56 hbox hb; have n2_ := M_ (hbox); have n3_ := M_ ((by rw [hg]; exact (below_size (ws_ HB.out)) : w.heap.size ≤ gb181)); have n4_ := M_ ((by rw [hg]; exact (below_size (ws_ HB.out)) : w.heap.size ≤ gb181)); have n5_ := M_ ((by rw [hg]; exact Nat.ne_of_lt (blk_lt (bl_ BK180.out)) : gb180 ≠ gb181)); have n6_ := M_ ((by rw [hg]; exact Nat.ne_of_gt (blk_lt (bl_ BK180.out)) : gb181 ≠ gb180)); replace BK180 := bb_ BK180 hb; replace HB := wb_ HB hb; have BK181 := n2_; have GW181 := n3_; have GE181 := n4_; have gi181 : Ge _ _ := ⟨GE181.out⟩; have NB180_181 := n5_; have NB181_180 := n6_; clear n2_ n3_ n4_ n5_ n6_; clear hb hbox hg; have hnb57 := NB180_181.out; have hnc57 := NB181_180.out; obtain ⟨hcz58_0, hcz58_1, hcz58_2, hcz58_3, hcz58_4⟩ := cz5_ BK180.out; have hfz58_0 := blk_frozen BK180.out 0; have hfz58_1 := blk_frozen BK180.out 1; have hfz58_2 := blk_frozen BK180.out 2; have hfz58_3 := blk_frozen BK180.out 3; have hfz58_4 := blk_frozen BK180.out 4) | ((with_reducible refine gate_callee (f := 59) rfl ?_); refine goesL_ (some 9) rfl rfl Try.func59 (by kernel_rfl) rfl #[.agg #[.int .i64 a0_0, .slice A0_1 l0_1.length c0_1, .slice A0_2 l0_2.length c0_2, .slice A0_3 l0_3.length c0_3, .slice A0_4 l0_4.length c0_4]] rfl (by (try simp only [List.map_toArray, List.map_cons, List.map_nil]); first | done | rfl) ?_; (with_reducible refine (gates_Check.calls a0_0 _ _ l0_1 _ _ l0_2 _ _ l0_3 _ _ l0_4 t182 _ ?side1 ?side2 ?side3 ?side4 ?side5 ?side6 ?side7 ?side8 A2.out).mono ?_); (case side1 => exact cl_ (Kd.C_below HR0_1.out HB.out)); (case side2 => exact HC0_1.out); (case side3 => exact cl_ (Kd.C_below HR0_2.out HB.out)); (case side4 => exact HC0_2.out); (case side5 => exact cl_ (Kd.C_below HR0_3.out HB.out)); (case side6 => exact HC0_3.out); (case side7 => exact cl_ (Kd.C_below HR0_4.out HB.out)); (case side8 => exact HC0_4.out); rintro e w59 ⟨rfl, hb⟩; refine ⟨_, rfl, ?_⟩; replace BK180 := bb_ BK180 hb; replace BK181 := bb_ BK181 hb; replace HB := wb_ HB hb; (try clear hb); (try clear hb2); (try clear hk); (try clear hi); have hcz60_0 : w59.cell? ⟨gb181, 0, none⟩ = some (.int .i64 0) := (blk_cell BK181.out 0).trans rfl; have hcz60_1 : w59.cell? ⟨gb181, 1, none⟩ = some (.int .i64 0) := (blk_cell BK181.out 1).trans rfl; have hcz60_2 : w59.cell? ⟨gb181, 2, none⟩ = some (.slice none 0 0) := (blk_cell BK181.out 2).trans rfl; have hcz60_3 : w59.cell? ⟨gb181, 3, none⟩ = some (.slice none 0 0) := (blk_cell BK181.out 3).trans rfl; have hcz60_4 : w59.cell? ⟨gb181, 4, none⟩ = some (.slice none 0 0) := (blk_cell BK181.out 4).trans rfl; have hcz60_5 : w59.cell? ⟨gb181, 5, none⟩ = some (.slice none 0 0) := (blk_cell BK181.out 5).trans rfl; have hcz60_6 : w59.cell? ⟨gb181, 6, none⟩ = some (.int .i64 0) := (blk_cell BK181.out 6).trans rfl; have hfz60_0 := blk_frozen BK181.out 0; have hfz60_1 := blk_frozen BK181.out 1; have hfz60_2 := blk_frozen BK181.out 2; have hfz60_3 := blk_frozen BK181.out 3; have hfz60_4 := blk_frozen BK181.out 4; have hfz60_5 := blk_frozen BK181.out 5; have hfz60_6 := blk_frozen BK181.out 6))
  refine bodyPost_ret (results_ct rfl _ _ gb181 46 #[.int .i64 0, .int .i64 0, .slice none 0 0, .slice none 0 0, .slice none 0 0, .slice none 0 0, .int .i64 0] (0, 0) _ rfl (by (with_reducible repeat (first | refine k0_ ?_ _ | refine k1_ ?_ | refine k2_ ?_ _)); refine blk_put (cs := #[.int .i64 0, .int .i64 0, .slice none 0 0, .slice none 0 0, .slice none 0 0, .slice none 0 0, .int .i64 0]) ?_ 6 _ rfl; (with_reducible repeat (first | refine k0_ ?_ _ | refine k1_ ?_ | refine k2_ ?_ _)); refine blk_put (cs := #[.int .i64 0, .int .i64 0, .slice none 0 0, .slice none 0 0, .slice none 0 0, .slice none 0 0, .int .i64 0]) ?_ 5 _ rfl; (with_reducible repeat (first | refine k0_ ?_ _ | refine k1_ ?_ | refine k2_ ?_ _)); refine blk_put (cs := #[.int .i64 0, .int .i64 0, .slice none 0 0, .slice none 0 0, .slice none 0 0, .slice none 0 0, .int .i64 0]) ?_ 4 _ rfl; (with_reducible repeat (first | refine k0_ ?_ _ | refine k1_ ?_ | refine k2_ ?_ _)); refine blk_put (cs := #[.int .i64 0, .int .i64 0, .slice none 0 0, .slice none 0 0, .slice none 0 0, .slice none 0 0, .int .i64 0]) ?_ 3 _ rfl; (with_reducible repeat (first | refine k0_ ?_ _ | refine k1_ ?_ | refine k2_ ?_ _)); refine blk_put (cs := #[.int .i64 0, .int .i64 0, .slice none 0 0, .slice none 0 0, .slice none 0 0, .slice none 0 0, .int .i64 0]) ?_ 2 _ rfl; (with_reducible repeat (first | refine k0_ ?_ _ | refine k1_ ?_ | refine k2_ ?_ _)); refine blk_put (cs := #[.int .i64 0, .int .i64 0, .slice none 0 0, .slice none 0 0, .slice none 0 0, .slice none 0 0, .int .i64 0]) ?_ 1 _ rfl; (with_reducible repeat (first | refine k0_ ?_ _ | refine k1_ ?_ | refine k2_ ?_ _)); refine blk_put (cs := #[.int .i64 0, .int .i64 0, .slice none 0 0, .slice none 0 0, .slice none 0 0, .slice none 0 0, .int .i64 0]) ?_ 0 _ rfl; (with_reducible repeat (first | refine k0_ ?_ _ | refine k1_ ?_ | refine k2_ ?_ _)); exact BK181.out) Try.underlying46 rfl (by kernel_rfl)) rfl ?_
  exact ⟨_, _, _, _, by first | rfl | (simp [errW_none, errW_some] <;> rfl) | (simp [*, errW_none, errW_some] <;> rfl), by first | exact Kd.R_nil _ _ _ _ _ | exact Kd.N_nil _ _ _ _ _ | exact Kd.V_nil _ _ _ _ _ | exact Kd.Q_nil _ _ _ _ _ | exact Kd.S_nil _ _ _ _ _, by first | exact Kd.S_nil _ _ _ _ _ | exact Kd.N_nil _ _ _ _ _ | exact Kd.V_nil _ _ _ _ _ | exact Kd.Q_nil _ _ _ _ _ | exact Kd.R_nil _ _ _ _ _, by first | exact Kd.R_nil _ _ _ _ _ | exact Kd.N_nil _ _ _ _ _ | exact Kd.V_nil _ _ _ _ _ | exact Kd.Q_nil _ _ _ _ _ | exact Kd.S_nil _ _ _ _ _, by first | exact Kd.R_nil _ _ _ _ _ | exact Kd.N_nil _ _ _ _ _ | exact Kd.V_nil _ _ _ _ _ | exact Kd.Q_nil _ _ _ _ _ | exact Kd.S_nil _ _ _ _ _, by repeat (first | (with_reducible first | exact HB.out | apply b0_ | apply b1_ | apply b2_ | refine below_set ?_ GE180.out | refine below_set ?_ GE181.out) | exact HB.out)⟩

def api_Latch_49.f (l0 : List S36) : Option (List S36) := if l0.length ≤ 1000000000 then some l0 else none
set_option maxHeartbeats 2000000 in
set_option maxRecDepth 100000 in
theorem api_Latch_49.calls (A0 : Option Addr) (c0 : Nat) (l0 : List S36) (r : List S36) (w : World) (hr0 : Kd.C k36 w A0 l0.length l0) (hc0 : l0.length ≤ c0) (h : api_Latch_49.f l0 = some r) :
  Calls Try.prog 49 #[.slice A0 l0.length c0] w fun e w' => ∃ v0_ : Value, e = .returned (v0_) ∧ Kd.R k36 36 w' w.heap.size (fun _ => True) v0_ r ∧ Below w.heap.size w w' := by
 have hu22 := Try.underlying22
 have hu36 := Try.underlying36
 have q22 : ∀ (w : World) (a : Option Addr) (n c n' c' : Nat), (binOp .eql 22 (.slice a n c) (.slice none n' c')).run Try.prog w = .ok (.bool a.isNone) w := fun w a n c n' c' => Lib.run_eql_slice_nil w _ _ a n c n' c' Try.underlying22
 unfold api_Latch_49.f at h
 split at h
 ·rename_i hb
  obtain rfl := Option.some.inj h
  clear h
  cases A0 with
  | none =>
   have hl : l0.length = 0 := by
    rcases Nat.eq_zero_or_pos l0.length with h | h
    ·exact h
    ·obtain ⟨ad, e, _⟩ := hr0.2.2 h
     cases e
   have hn := List.eq_nil_of_length_eq_zero hl
   subst hn
   clear hr0 hb hl hc0
   go_enter Try.func49, Try.ntmps49
   go_wp2
   go_ret
   exact ⟨_, rfl, Kd.R_nil _ _ _ _ _, Below.refl _ _⟩
  | some ad =>
   have HR := M_ hr0
   have HL := M_ (show (([] : List S36).length + l0.length) * 16 ≤ 140737488355328 by simp; omega)
   clear hr0 hb hc0
   go_enter Try.func49, Try.ntmps49
   go_wp2_with (at_builtin; go_loud (refine Kd.R_append_rows k36 (w0 := w) w.heap.size rfl _ _ 22 36 (.agg #[(.int .i64 0), (.int .i64 0)]) 16 rfl hu22 info36 rfl (by decide) (by decide) (.slice (some ⟨w.heap.size, 0, none⟩) 0 0) [] l0 _ l0.length c0 (fun _ => True) (fun _ => False) rfl rfl ?aO (Kd.C_below HR.out (below_alloc (Below.refl _ _) _)) (fun _ _ h => h) (fun _ h => h.elim) (fun _ _ => trivial) (below_alloc (Below.refl _ _) _) (by simp) HL.out ?_; (case aO => exact ⟨fun _ _ => trivial, [], World.ownsRow_made w #[] 0 (Nat.le_refl _) (Nat.zero_le _) rfl, by simp [Reps]⟩); intro v2 w2 hR2 hb2 hg hat; clear hg hat; have HV2 := M_ hR2; have HB2 := M_ hb2; clear hR2 hb2))
   go_ret
   exact ⟨_, rfl, HV2.out, HB2.out⟩
 ·simp at h

def api_And.f (l0 : List S69) : Option (List S69) := if l0.length ≤ 1000000000 then some l0 else none
set_option maxHeartbeats 2000000 in
set_option maxRecDepth 100000 in
theorem api_And.calls (A0 : Option Addr) (c0 : Nat) (l0 : List S69) (r : List S69) (w : World) (hr0 : Kd.C k69 w A0 l0.length l0) (hc0 : l0.length ≤ c0) (h : api_And.f l0 = some r) :
  Calls Try.prog 50 #[.slice A0 l0.length c0] w fun e w' => ∃ v0_ : Value, e = .returned (v0_) ∧ Kd.R k69 69 w' w.heap.size (fun _ => True) v0_ r ∧ Below w.heap.size w w' := by
 have hu23 := Try.underlying23
 have hu69 := Try.underlying69
 have q22 : ∀ (w : World) (a : Option Addr) (n c n' c' : Nat), (binOp .eql 23 (.slice a n c) (.slice none n' c')).run Try.prog w = .ok (.bool a.isNone) w := fun w a n c n' c' => Lib.run_eql_slice_nil w _ _ a n c n' c' Try.underlying23
 unfold api_And.f at h
 split at h
 ·rename_i hb
  obtain rfl := Option.some.inj h
  clear h
  cases A0 with
  | none =>
   have hl : l0.length = 0 := by
    rcases Nat.eq_zero_or_pos l0.length with h | h
    ·exact h
    ·obtain ⟨ad, e, _⟩ := hr0.2.2 h
     cases e
   have hn := List.eq_nil_of_length_eq_zero hl
   subst hn
   clear hr0 hb hl hc0
   go_enter Try.func50, Try.ntmps50
   go_wp2
   go_ret
   exact ⟨_, rfl, Kd.R_nil _ _ _ _ _, Below.refl _ _⟩
  | some ad =>
   have HR := M_ hr0
   have HL := M_ (show (([] : List S69).length + l0.length) * 16 ≤ 140737488355328 by simp; omega)
   clear hr0 hb hc0
   go_enter Try.func50, Try.ntmps50
   go_wp2_with (at_builtin; go_loud (refine Kd.R_append_rows k69 (w0 := w) w.heap.size rfl _ _ 23 69 (.agg #[(.int .i64 0), (.int .i64 0)]) 16 rfl hu23 info69 rfl (by decide) (by decide) (.slice (some ⟨w.heap.size, 0, none⟩) 0 0) [] l0 _ l0.length c0 (fun _ => True) (fun _ => False) rfl rfl ?aO (Kd.C_below HR.out (below_alloc (Below.refl _ _) _)) (fun _ _ h => h) (fun _ h => h.elim) (fun _ _ => trivial) (below_alloc (Below.refl _ _) _) (by simp) HL.out ?_; (case aO => exact ⟨fun _ _ => trivial, [], World.ownsRow_made w #[] 0 (Nat.le_refl _) (Nat.zero_le _) rfl, by simp [Reps]⟩); intro v2 w2 hR2 hb2 hg hat; clear hg hat; have HV2 := M_ hR2; have HB2 := M_ hb2; clear hR2 hb2))
   go_ret
   exact ⟨_, rfl, HV2.out, HB2.out⟩
 ·simp at h

def slices_Max_int_int.l0 : Nat → List Int → Int → Int → Option (Int)
 | 0, _, _, _ => none
 | k + 1, x0, x3, x4 => if x4 < (x0.length : Int) then (if 0 ≤ x4 then (slices_Max_int_int.l0 k x0 (mx x3 (rd x0 x4)) (wrap64 (x4 + 1))) else (none)) else (some x3)
def slices_Max_int_int.f (k : Nat) (l0 : List Int) : Option (Int) := if (l0.length : Int) < 1 then (none) else (if 0 < (l0.length : Int) then (slices_Max_int_int.l0 k l0 (rd l0 0) 1) else (none))
set_option maxHeartbeats 8000000 in
set_option maxRecDepth 100000 in
theorem slices_Max_int_int.calls (k : Nat) (A0 : Option Addr) (c0 : Nat) (l0 : List Int) (r : Int) (w : World) (hr0 : Kd.C (Kd.int .i64) w A0 l0.length l0) (hc0 : l0.length ≤ c0) (h : slices_Max_int_int.f k l0 = some r) :
  Calls Try.prog 52 #[.slice A0 l0.length c0] w fun e w' => e = .returned (.int .i64 r) ∧ Below w.heap.size w w' := by
 have HR0 := M_ hr0
 have HC0 := M_ hc0
 clear hr0 hc0
 have HB := M_ (Below.refl w.heap.size w)
 have H : (if (l0.length : Int) < 1 then (none) else (if 0 < (l0.length : Int) then (slices_Max_int_int.l0 k l0 (rd l0 0) 1) else (none))) = some r := h
 clear h
 by_cases c2 : (l0.length : Int) < 1
 ·rw [if_pos c2] at H
  exact absurd H (by simp)
 ·rw [if_neg c2] at H
  have c2b0 : decide ((l0.length : Int) < 1) = false := decide_eq_false c2
  have c2b1 : decide (l0.length < 1) = false := decide_eq_false (by omega)
  clear c2
  by_cases c3 : 0 < (l0.length : Int)
  ·rw [if_pos c3] at H
   have c3b0 : decide (0 < (l0.length : Int)) = true := decide_eq_true c3
   have c3b1 : decide (0 < l0.length) = true := decide_eq_true (by omega)
   clear c3
   have H' := M_ H
   clear H
   have p198 : 0 ≤ (0 : Int) := (by omega)
   have q198 : 0 < (l0.length : Int) := of_decide_eq_true (by first | (with_reducible assumption) | assumption)
   obtain ⟨ad198, e198, hx198_0⟩ := Kd.at_int HR0.out 0 p198 q198
   cases e198
   have qi198 : (0 < l0.length) = True := eq_true (by omega)
   (try rw [show ((0 : Int)).toNat = 0 from rfl] at hx198_0)
   (try rw [Addr.add_zero'] at hx198_0)
   replace p198 := eq_true p198
   replace q198 := eq_true q198
   go_enter Try.func52, Try.ntmps52
   go_wp2
   go_loopg [3, 4] k (fun kq v3 v4 w' => ∃ (x3_1 : Int) (x4_1 : Int), v3 = .int .i64 x3_1 ∧ v4 = .int .i64 x4_1 ∧ Aside0 (slices_Max_int_int.l0 kq l0 x3_1 x4_1 = some r) ∧ Aside0 (kq ≤ k) ∧ Aside0 (Below w.heap.size w w'))
   case atStart => exact ⟨(rd l0 0), (1), (by first | rfl | (simp; done) | (simp [*]; done)), (by first | rfl | (simp; done) | (simp [*]; done)), H', ⟨Nat.le_refl _⟩, ⟨by repeat (first | (with_reducible first | exact HB.out | apply b0_ | apply b1_ | apply b2_) | exact HB.out)⟩⟩
   case round =>
    clear H'
    try clear p1; try clear q1; try clear hx1; try clear qi1; try clear c2; try clear c2b0; try clear c2b1; try clear p2; try clear c3; try clear c3b0; try clear c3b1; try clear hx198_0; try clear p198; try clear q198
    obtain ⟨x3_1, x4_1, rfl, rfl, HA, HK1, HB⟩ := hrel
    cases gk with
    | zero => exact absurd HA.out (by simp [slices_Max_int_int.l0])
    | succ k1 =>
     have H := HA.out
     clear HA
     simp only [slices_Max_int_int.l0] at H
     by_cases c4 : x4_1 < (l0.length : Int)
     ·rw [if_pos c4] at H
      have c4b0 : decide (x4_1 < (l0.length : Int)) = true := decide_eq_true c4
      clear c4
      by_cases c5 : 0 ≤ x4_1
      ·rw [if_pos c5] at H
       have c5b0 : decide (0 ≤ x4_1) = true := decide_eq_true c5
       clear c5
       obtain ⟨ji6, hji6⟩ : ∃ j_ : Int, (mx x3_1 (rd l0 x4_1)) = j_ := ⟨_, rfl⟩
       replace H : (slices_Max_int_int.l0 k1 l0 ji6 (wrap64 (x4_1 + 1))) = some r := by first | (rw [hji6] at H; exact H) | (simp only [hji6] at H ⊢; exact H)
       have hji6_ : (if x3_1 < (rd l0 x4_1) then (rd l0 x4_1) else x3_1) = ji6 := hji6
       have H' := M_ H
       clear H
       have p199 : 0 ≤ (x4_1 : Int) := of_decide_eq_true (by first | (with_reducible assumption) | assumption)
       have q199 : x4_1 < (l0.length : Int) := of_decide_eq_true (by first | (with_reducible assumption) | assumption)
       obtain ⟨ad199, e199, hx199_0⟩ := Kd.at_int HR0.out x4_1 p199 q199
       obtain rfl : ad198 = ad199 := (by injection e199)
       replace hx199_0 := (HB.out.cell (World.block_lt_of_cell? w _ hx199_0)).trans hx199_0
       replace p199 := eq_true p199
       replace q199 := eq_true q199
       go_wp2
       go_roundg k1
       case measure => have := HK1.out; omega
       case rel => exact ⟨(ji6), (wrap64 (x4_1 + 1)), (by first | rfl | (simp; done) | (simp only [← hji6] <;> (first | rfl | (simp; done))) | (congr 1; symm; assumption) | (simp [*]; done)), (by first | rfl | (simp; done) | (simp [*]; done)), H', ⟨by have := HK1.out; omega⟩, ⟨by repeat (first | (with_reducible first | exact HB.out | apply b0_ | apply b1_ | apply b2_) | exact HB.out)⟩⟩
      ·rw [if_neg c5] at H
       exact absurd H (by simp)
     ·rw [if_neg c4] at H
      have c4b0 : decide (x4_1 < (l0.length : Int)) = false := decide_eq_false c4
      clear c4
      obtain rfl := Option.some.inj H
      go_wp2
      go_ret
      exact ⟨by first | rfl | (simp [errW_none, errW_some] <;> rfl) | (simp [*, errW_none, errW_some] <;> rfl), by repeat (first | (with_reducible first | exact HB.out | apply b0_ | apply b1_ | apply b2_) | exact HB.out)⟩
  ·rw [if_neg c3] at H
   exact absurd H (by simp)

end Go.Proofs.Ytmcdanpecajklaa.QTernsimValues
