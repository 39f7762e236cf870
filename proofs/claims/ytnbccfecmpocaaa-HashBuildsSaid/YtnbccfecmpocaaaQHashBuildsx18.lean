-- Made by wip/myprint.sh (a patched print): a text of this session's own.
import Derived.Test.YtnbccfecmpocaaaLay
import Derived.Test.YtnbccfecmpocaaaQHashBuildsx0
import Derived.Test.YtnbccfecmpocaaaQHashBuildsx9
import Derived.Test.YtnbccfecmpocaaaQHashBuildsx11
import Derived.Test.YtnbccfecmpocaaaQHashBuildsx15
import Derived.Test.YtnbccfecmpocaaaQHashBuildsx17
namespace Go.Proofs.Ytnbccfecmpocaaa.QHashBuilds
open Go.RowKit Go.Proofs.YtnbccfecmpocaaaW.PrintWords Go.Proofs.YtnbccfecmpocaaaW.PrintLast Go.Proofs.YtnbccfecmpocaaaW.PrintMore
attribute [local go_sem] max2_int min2_int max_two min_two max_three min_three max_four min_four   -- for this text's walks alone
set_option linter.unusedVariables false
set_option linter.unusedSimpArgs false

/-! ### spiritlevelref26_Pass: function 21 -/
def spiritlevelref26_Pass.f (k : Nat) (a0_0 : Int) (l0_1 : List (S86)) (l0_2 : List (S67)) (l0_3 : List Int) (l0_4 : List Int) : Option (Int × (List (S86)) × (List (S67)) × List Int × List Int × Int × Int × List Int × (List (List Int)) × List Int × (List (S67)) × Int × Int) := (spiritlevelref02_Check.f k a0_0 l0_1 l0_2 l0_3 l0_4).bind fun t310 => (if t310 = 0 then ((spiritlevelref26_None.f k a0_0 l0_1 l0_2 l0_3 l0_4).bind fun t311 => ((spiritlevelref26_Built.f a0_0 l0_1 l0_2 l0_3 l0_4 t311).bind fun bt314 => ((spiritlevelref26_As.f k bt314.1 bt314.2.1 bt314.2.2.1 bt314.2.2.2.1 bt314.2.2.2.2.1).bind fun bt331 => (some (bt331.1, bt331.2.1, bt331.2.2.1, bt331.2.2.2.1, bt331.2.2.2.2.1, bt331.2.2.2.2.2.1, bt331.2.2.2.2.2.2.1, bt331.2.2.2.2.2.2.2.1, bt331.2.2.2.2.2.2.2.2.1, bt331.2.2.2.2.2.2.2.2.2.1, bt331.2.2.2.2.2.2.2.2.2.2.1, bt331.2.2.2.2.2.2.2.2.2.2.2, 0))))) else (some (0, ([] : List (S86)), ([] : List (S67)), ([] : List Int), ([] : List Int), 0, 0, ([] : List Int), ([] : List (List Int)), ([] : List Int), ([] : List (S67)), 0, t310)))
def spiritlevelref26_Pass.T4 : Bool × List (List Nat × List Nat) := (true, [([], []), ([], []), ([1], [1]), ([0, 2, 2], [0, 2]), ([3], [3]), ([4], [4]), ([4], [4]), ([], []), ([7, 5, 3, 0, 1, 2, 3, 4, 5, 7], [5, 7]), ([6, 8, 0, 1, 2, 3, 4, 5, 6, 7, 8], [6])])
def spiritlevelref26_Pass.B4 : List Nat := [0, 0, 2, 7, 15, 31, 31, 0, 191, 511]
theorem spiritlevelref26_Pass.tab4 : rtab .any (opsOf Try.f21 4) = spiritlevelref26_Pass.T4 := by kernel_rfl
theorem spiritlevelref26_Pass.bits4 : waitsOk spiritlevelref26_Pass.T4.2 spiritlevelref26_Pass.B4 = true := by kernel_rfl
set_option maxHeartbeats 8000000 in
set_option maxRecDepth 100000 in
theorem spiritlevelref26_Pass.calls (k : Nat) (a0_0 : Int) (A0_1 : Option Addr) (c0_1 : Nat) (l0_1 : List (S86)) (A0_2 : Option Addr) (c0_2 : Nat) (l0_2 : List (S67)) (A0_3 : Option Addr) (c0_3 : Nat) (l0_3 : List Int) (A0_4 : Option Addr) (c0_4 : Nat) (l0_4 : List Int) (r1 : Int) (r2 : List (S86)) (r3 : List (S67)) (r4 : List Int) (r5 : List Int) (r6 : Int) (r7 : Int) (r8 : List Int) (r9 : List (List Int)) (r10 : List Int) (r11 : List (S67)) (r12 : Int) (r13 : Int) (w : World) (hr0_1 : Kd.C k86 w A0_1 l0_1.length l0_1) (hc0_1 : l0_1.length ≤ c0_1) (hr0_2 : Kd.C k67 w A0_2 l0_2.length l0_2) (hc0_2 : l0_2.length ≤ c0_2) (hr0_3 : Kd.C (Kd.int .i64) w A0_3 l0_3.length l0_3) (hc0_3 : l0_3.length ≤ c0_3) (hr0_4 : Kd.C (Kd.int .i64) w A0_4 l0_4.length l0_4) (hc0_4 : l0_4.length ≤ c0_4) (h : spiritlevelref26_Pass.f k a0_0 l0_1 l0_2 l0_3 l0_4 = some (r1, r2, r3, r4, r5, r6, r7, r8, r9, r10, r11, r12, r13)) :
  Calls Try.prog 21 #[.agg #[.int .i64 a0_0, .slice A0_1 l0_1.length c0_1, .slice A0_2 l0_2.length c0_2, .slice A0_3 l0_3.length c0_3, .slice A0_4 l0_4.length c0_4]] w fun e w' => ∃ v1_ v2_ v3_ v4_ v7_ v8_ v9_ v10_ : Value, e = .returned (.tuple #[.agg #[.int .i64 r1, v1_, v2_, v3_, v4_, .int .i64 r6, .int .i64 r7, v7_, v8_, v9_, v10_, .int .i64 r12], .int .i64 r13]) ∧ Kd.R k86 86 w' w.heap.size (fun _ => True) v1_ r2 ∧ Kd.R k67 67 w' w.heap.size (fun k_ => some k_ ≠ (v10_ : Value).ownBlock) v2_ r3 ∧ Kd.R (Kd.int .i64) 3 w' w.heap.size (fun k_ => some k_ ≠ (v4_ : Value).ownBlock ∧ some k_ ≠ (v7_ : Value).ownBlock ∧ some k_ ≠ (v9_ : Value).ownBlock) v3_ r4 ∧ Kd.R (Kd.int .i64) 3 w' w.heap.size (fun k_ => some k_ ≠ (v3_ : Value).ownBlock ∧ some k_ ≠ (v7_ : Value).ownBlock ∧ some k_ ≠ (v9_ : Value).ownBlock) v4_ r5 ∧ Kd.R (Kd.int .i64) 3 w' w.heap.size (fun k_ => some k_ ≠ (v3_ : Value).ownBlock ∧ some k_ ≠ (v4_ : Value).ownBlock ∧ some k_ ≠ (v9_ : Value).ownBlock) v7_ r8 ∧ Kd.S (Kd.slice 3 (Kd.int .i64)) 24 w' w.heap.size (fun k_ => some k_ ≠ (v3_ : Value).ownBlock ∧ some k_ ≠ (v4_ : Value).ownBlock ∧ some k_ ≠ (v7_ : Value).ownBlock ∧ some k_ ≠ (v9_ : Value).ownBlock) v8_ r9 ∧ Kd.R (Kd.int .i64) 3 w' w.heap.size (fun k_ => some k_ ≠ (v3_ : Value).ownBlock ∧ some k_ ≠ (v4_ : Value).ownBlock ∧ some k_ ≠ (v7_ : Value).ownBlock) v9_ r10 ∧ Kd.R k67 67 w' w.heap.size (fun k_ => some k_ ≠ (v2_ : Value).ownBlock) v10_ r11 ∧ Below w.heap.size w w' := by
 have hu26 := Try.underlying26
 have hu55 := Try.underlying55
 have HR0_1 := M_ hr0_1
 have HC0_1 := M_ hc0_1
 clear hr0_1 hc0_1
 have HR0_2 := M_ hr0_2
 have HC0_2 := M_ hc0_2
 clear hr0_2 hc0_2
 have HR0_3 := M_ hr0_3
 have HC0_3 := M_ hc0_3
 clear hr0_3 hc0_3
 have HR0_4 := M_ hr0_4
 have HC0_4 := M_ hc0_4
 clear hr0_4 hc0_4
 have HB := M_ (Below.refl w.heap.size w)
 have H : ((spiritlevelref02_Check.f k a0_0 l0_1 l0_2 l0_3 l0_4).bind fun t310 => (if t310 = 0 then ((spiritlevelref26_None.f k a0_0 l0_1 l0_2 l0_3 l0_4).bind fun t311 => ((spiritlevelref26_Built.f a0_0 l0_1 l0_2 l0_3 l0_4 t311).bind fun bt314 => ((spiritlevelref26_As.f k bt314.1 bt314.2.1 bt314.2.2.1 bt314.2.2.2.1 bt314.2.2.2.2.1).bind fun bt331 => (some (bt331.1, bt331.2.1, bt331.2.2.1, bt331.2.2.2.1, bt331.2.2.2.2.1, bt331.2.2.2.2.2.1, bt331.2.2.2.2.2.2.1, bt331.2.2.2.2.2.2.2.1, bt331.2.2.2.2.2.2.2.2.1, bt331.2.2.2.2.2.2.2.2.2.1, bt331.2.2.2.2.2.2.2.2.2.2.1, bt331.2.2.2.2.2.2.2.2.2.2.2, 0))))) else (some (0, ([] : List (S86)), ([] : List (S67)), ([] : List Int), ([] : List Int), 0, 0, ([] : List Int), ([] : List (List Int)), ([] : List Int), ([] : List (S67)), 0, t310)))) = some (r1, r2, r3, r4, r5, r6, r7, r8, r9, r10, r11, r12, r13) := h
 clear h
 replace H := Option.bind_eq_some_iff.mp H
 obtain ⟨t310, A20, H⟩ := H
 replace H : (if t310 = 0 then ((spiritlevelref26_None.f k a0_0 l0_1 l0_2 l0_3 l0_4).bind fun t311 => ((spiritlevelref26_Built.f a0_0 l0_1 l0_2 l0_3 l0_4 t311).bind fun bt314 => ((spiritlevelref26_As.f k bt314.1 bt314.2.1 bt314.2.2.1 bt314.2.2.2.1 bt314.2.2.2.2.1).bind fun bt331 => (some (bt331.1, bt331.2.1, bt331.2.2.1, bt331.2.2.2.1, bt331.2.2.2.2.1, bt331.2.2.2.2.2.1, bt331.2.2.2.2.2.2.1, bt331.2.2.2.2.2.2.2.1, bt331.2.2.2.2.2.2.2.2.1, bt331.2.2.2.2.2.2.2.2.2.1, bt331.2.2.2.2.2.2.2.2.2.2.1, bt331.2.2.2.2.2.2.2.2.2.2.2, 0))))) else (some (0, ([] : List (S86)), ([] : List (S67)), ([] : List Int), ([] : List Int), 0, 0, ([] : List Int), ([] : List (List Int)), ([] : List Int), ([] : List (S67)), 0, t310))) = some (r1, r2, r3, r4, r5, r6, r7, r8, r9, r10, r11, r12, r13) := H
 have A2 := M_ A20
 clear A20
 by_cases c3 : t310 = 0
 ·rw [if_pos c3] at H
  have c3b0 : (t310 == 0) = true := beq_iff_eq.mpr c3
  have c3b1 : (t310 != 0) = false := bne_eq_false_iff_eq.mpr c3
  clear c3
  replace H := Option.bind_eq_some_iff.mp H
  obtain ⟨t311, A40, H⟩ := H
  replace H : ((spiritlevelref26_Built.f a0_0 l0_1 l0_2 l0_3 l0_4 t311).bind fun bt314 => ((spiritlevelref26_As.f k bt314.1 bt314.2.1 bt314.2.2.1 bt314.2.2.2.1 bt314.2.2.2.2.1).bind fun bt331 => (some (bt331.1, bt331.2.1, bt331.2.2.1, bt331.2.2.2.1, bt331.2.2.2.2.1, bt331.2.2.2.2.2.1, bt331.2.2.2.2.2.2.1, bt331.2.2.2.2.2.2.2.1, bt331.2.2.2.2.2.2.2.2.1, bt331.2.2.2.2.2.2.2.2.2.1, bt331.2.2.2.2.2.2.2.2.2.2.1, bt331.2.2.2.2.2.2.2.2.2.2.2, 0)))) = some (r1, r2, r3, r4, r5, r6, r7, r8, r9, r10, r11, r12, r13) := H
  have A4 := M_ A40
  clear A40
  replace H := Option.bind_eq_some_iff.mp H
  obtain ⟨⟨t314, t315, t318, t321, t324, t327⟩, A50, H⟩ := H
  replace H : ((spiritlevelref26_As.f k t314 t315 t318 t321 t324).bind fun bt331 => (some (bt331.1, bt331.2.1, bt331.2.2.1, bt331.2.2.2.1, bt331.2.2.2.2.1, bt331.2.2.2.2.2.1, bt331.2.2.2.2.2.2.1, bt331.2.2.2.2.2.2.2.1, bt331.2.2.2.2.2.2.2.2.1, bt331.2.2.2.2.2.2.2.2.2.1, bt331.2.2.2.2.2.2.2.2.2.2.1, bt331.2.2.2.2.2.2.2.2.2.2.2, 0))) = some (r1, r2, r3, r4, r5, r6, r7, r8, r9, r10, r11, r12, r13) := H
  have A5 := M_ A50
  clear A50
  replace H := Option.bind_eq_some_iff.mp H
  obtain ⟨⟨t331, t332, t335, t338, t341, t344, t345, t346, t349, t352, t355, t358⟩, A60, H⟩ := H
  replace H : (some (t331, t332, t335, t338, t341, t344, t345, t346, t349, t352, t355, t358, 0)) = some (r1, r2, r3, r4, r5, r6, r7, r8, r9, r10, r11, r12, r13) := H
  have A6 := M_ A60
  clear A60
  simp only [Option.some.injEq, Prod.mk.injEq] at H
  obtain ⟨rfl, rfl, rfl, rfl, rfl, rfl, rfl, rfl, rfl, rfl, rfl, rfl, rfl⟩ := H
  go_enter Try.func21, Try.ntmps21
  try go_wp2_with (first | ((with_reducible refine gate_dst (N := 1) rfl ?_); refine box_event ?hg (N := 1) ?hd (cs := #[.int .i64 a0_0, .slice A0_1 l0_1.length c0_1, .slice A0_2 l0_2.length c0_2, .slice A0_3 l0_3.length c0_3, .slice A0_4 l0_4.length c0_4]) (t := 26) ?hr ?_; (case hd => rfl); (case hg => rfl); (case hr => first | (go_simp; done) | (go_simp; rfl)); intro gb308 hg w7 hbox hb; have n1_ := M_ (hbox); have n2_ := M_ ((by rw [hg]; exact (below_size (wl_ HB.out)) : w.heap.size ≤ gb308)); have n3_ := M_ ((by rw [hg]; exact (below_size (wl_ HB.out)) : w.heap.size ≤ gb308)); replace HB := wb_ HB hb; have BK308 := n1_; have GW308 := n2_; have GE308 := n3_; have gi308 : Ge _ _ := ⟨GE308.out⟩; clear n1_ n2_ n3_; clear hb hbox hg) | ((with_reducible refine gate_dst (N := 2) rfl ?_); refine box_event ?hg (N := 2) ?hd (cs := #[.int .i64 0, .slice none 0 0, .slice none 0 0, .slice none 0 0, .slice none 0 0, .int .i64 0, .int .i64 0, .slice none 0 0, .slice none 0 0, .slice none 0 0, .slice none 0 0, .int .i64 0]) (t := 55) ?hr ?_; (case hd => rfl); (case hg => rfl); (case hr => first | (go_simp; done) | (go_simp; rfl)); intro gb309 hg w8 hbox hb; have n2_ := M_ (hbox); have n3_ := M_ ((by rw [hg]; exact (below_size (ws_ HB.out)) : w.heap.size ≤ gb309)); have n4_ := M_ ((by rw [hg]; exact (below_size (ws_ HB.out)) : w.heap.size ≤ gb309)); have n5_ := M_ ((by rw [hg]; exact Nat.ne_of_lt (blk_lt (bl_ BK308.out)) : gb308 ≠ gb309)); have n6_ := M_ ((by rw [hg]; exact Nat.ne_of_gt (blk_lt (bl_ BK308.out)) : gb309 ≠ gb308)); replace BK308 := bb_ BK308 hb; replace HB := wb_ HB hb; have BK309 := n2_; have GW309 := n3_; have GE309 := n4_; have gi309 : Ge _ _ := ⟨GE309.out⟩; have NB308_309 := n5_; have NB309_308 := n6_; clear n2_ n3_ n4_ n5_ n6_; clear hb hbox hg; have hnb9 := NB308_309.out; have hnc9 := NB309_308.out; have hcz10_0 : w8.cell? ⟨gb308, 0, none⟩ = some (.int .i64 a0_0) := (blk_cell BK308.out 0).trans rfl; have hcz10_1 : w8.cell? ⟨gb308, 1, none⟩ = some (.slice A0_1 l0_1.length c0_1) := (blk_cell BK308.out 1).trans rfl; have hcz10_2 : w8.cell? ⟨gb308, 2, none⟩ = some (.slice A0_2 l0_2.length c0_2) := (blk_cell BK308.out 2).trans rfl; have hcz10_3 : w8.cell? ⟨gb308, 3, none⟩ = some (.slice A0_3 l0_3.length c0_3) := (blk_cell BK308.out 3).trans rfl; have hcz10_4 : w8.cell? ⟨gb308, 4, none⟩ = some (.slice A0_4 l0_4.length c0_4) := (blk_cell BK308.out 4).trans rfl; have hfz10_0 := blk_frozen BK308.out 0; have hfz10_1 := blk_frozen BK308.out 1; have hfz10_2 := blk_frozen BK308.out 2; have hfz10_3 := blk_frozen BK308.out 3; have hfz10_4 := blk_frozen BK308.out 4) | ((with_reducible refine gate_callee (f := 34) rfl ?_); refine goesL_ (some 8) rfl rfl Try.func34 (by kernel_rfl) rfl #[.agg #[.int .i64 a0_0, .slice A0_1 l0_1.length c0_1, .slice A0_2 l0_2.length c0_2, .slice A0_3 l0_3.length c0_3, .slice A0_4 l0_4.length c0_4]] rfl (by (try simp only [List.map_toArray, List.map_cons, List.map_nil]); first | done | rfl | (simp only [List.length_drop, List.length_take]; rfl)) ?_; (with_reducible refine (spiritlevelref02_Check.calls k a0_0 _ _ l0_1 _ _ l0_2 _ _ l0_3 _ _ l0_4 t310 _ ?side1 ?side2 ?side3 ?side4 ?side5 ?side6 ?side7 ?side8 A2.out).mono ?_); (case side1 => exact cl_ (Kd.C_below HR0_1.out HB.out)); (case side2 => exact HC0_1.out); (case side3 => exact cl_ (Kd.C_below HR0_2.out HB.out)); (case side4 => exact HC0_2.out); (case side5 => exact cl_ (Kd.C_below HR0_3.out HB.out)); (case side6 => exact HC0_3.out); (case side7 => exact cl_ (Kd.C_below HR0_4.out HB.out)); (case side8 => exact HC0_4.out); rintro e w11 ⟨rfl, hb⟩; refine ⟨_, rfl, ?_⟩; replace BK308 := bb_ BK308 hb; replace BK309 := bb_ BK309 hb; replace HB := wb_ HB hb; (try clear hb); (try clear hb2); (try clear hk); (try clear hi)))
  have n0_ := M_ (blk_drew BK308.out)
  have n1_ := M_ (blk_drew BK309.out)
  have n2_ := M_ (below_drew1 HB.out)
  clear BK308
  clear BK309
  clear HB
  have BK308 := n0_
  have BK309 := n1_
  have HB := n2_
  clear n0_ n1_ n2_
  refine start_ (n := 10) (S := fun w' => w'.cell? ⟨gb308, 0, none⟩ = some (.int .i64 a0_0) ∧ w'.cell? ⟨gb308, 1, none⟩ = some (.slice A0_1 l0_1.length c0_1) ∧ w'.cell? ⟨gb308, 2, none⟩ = some (.slice A0_2 l0_2.length c0_2) ∧ w'.cell? ⟨gb308, 3, none⟩ = some (.slice A0_3 l0_3.length c0_3) ∧ w'.cell? ⟨gb308, 4, none⟩ = some (.slice A0_4 l0_4.length c0_4)) (ds := []) z66_ (by kernel_rfl) rfl rfl ⟨(blk_cell BK308.out 0).trans rfl, (blk_cell BK308.out 1).trans rfl, (blk_cell BK308.out 2).trans rfl, (blk_cell BK308.out 3).trans rfl, (blk_cell BK308.out 4).trans rfl⟩ (fun hHeld => ?_); refine with_tabW spiritlevelref26_Pass.tab4 spiritlevelref26_Pass.bits4 (fun HT_ HW_ => ?_)
  generalize w11.drew = w12 at BK308 BK309 HB hHeld ⊢
  refine take_ (i := 0) (N := some 14) (v := ?_) (a' := ?_) z67_ rfl rfl (take_ofW HT_.out HW_.out (by kernel_rfl)) (fun _ _ _ h => h) (Or.inl ⟨by rfl, ?_⟩) hHeld ?_ ?_
  rotate_left
  ·rintro w' ⟨s0, s1, s2, s3, s4⟩
   go_simp
   with_reducible rfl
  rotate_left
  ·simp only [Act.put, e1_, e2_, e3_, i64_w, i32_w]
   rfl
  refine take_ (i := 1) (N := some 15) (v := ?_) (a' := ?_) z68_ rfl rfl (take_ofW HT_.out HW_.out (by kernel_rfl)) (fun _ _ _ h => h) (Or.inl ⟨by rfl, ?_⟩) hHeld ?_ ?_
  rotate_left
  ·rintro w' ⟨s0, s1, s2, s3, s4⟩
   go_simp
   with_reducible rfl
  rotate_left
  ·simp only [Act.put, e1_, e2_, e3_, i64_w, i32_w]
   rfl
  refine join_ (σ := Value × Value × Value × Value × Value × Value × Nat) 2 z69_ (fun s_ => [(16, s_.1), (17, .tuple #[.agg #[.int .i64 t314, s_.2.1, s_.2.2.1, s_.2.2.2.1, s_.2.2.2.2.1], s_.2.2.2.2.2.1]), (5, .pointer (some ⟨s_.2.2.2.2.2.2, 0, none⟩)), (13, .tuple #[.agg #[.int .i64 t314, s_.2.1, s_.2.2.1, s_.2.2.2.1, s_.2.2.2.2.1], s_.2.2.2.2.2.1]), (18, .agg #[.int .i64 t314, s_.2.1, s_.2.2.1, s_.2.2.2.1, s_.2.2.2.2.1]), (19, s_.2.2.2.2.2.1)]) (fun s_ w' => (w'.cell? ⟨gb308, 0, none⟩ = some (.int .i64 a0_0) ∧ w'.cell? ⟨gb308, 1, none⟩ = some (.slice A0_1 l0_1.length c0_1) ∧ w'.cell? ⟨gb308, 2, none⟩ = some (.slice A0_2 l0_2.length c0_2) ∧ w'.cell? ⟨gb308, 3, none⟩ = some (.slice A0_3 l0_3.length c0_3) ∧ w'.cell? ⟨gb308, 4, none⟩ = some (.slice A0_4 l0_4.length c0_4)) ∧ (Kd.R (Kd.int .i64) 3 w' w.heap.size (fun k_ => some k_ ≠ (s_.2.2.2.1 : Value).ownBlock ∧ some k_ ≠ (s_.2.2.2.2.1 : Value).ownBlock ∧ some k_ ≠ (s_.2.2.2.2.2.1 : Value).ownBlock) s_.1 t311) ∧ (Kd.R k86 86 w' w.heap.size (fun _ => True) s_.2.1 t315) ∧ (Kd.R k67 67 w' w.heap.size (fun _ => True) s_.2.2.1 t318) ∧ (Kd.R (Kd.int .i64) 3 w' w.heap.size (fun k_ => some k_ ≠ (s_.1 : Value).ownBlock ∧ some k_ ≠ (s_.2.2.2.2.1 : Value).ownBlock ∧ some k_ ≠ (s_.2.2.2.2.2.1 : Value).ownBlock) s_.2.2.2.1 t321) ∧ (Kd.R (Kd.int .i64) 3 w' w.heap.size (fun k_ => some k_ ≠ (s_.1 : Value).ownBlock ∧ some k_ ≠ (s_.2.2.2.1 : Value).ownBlock ∧ some k_ ≠ (s_.2.2.2.2.2.1 : Value).ownBlock) s_.2.2.2.2.1 t324) ∧ (Kd.R (Kd.int .i64) 3 w' w.heap.size (fun k_ => some k_ ≠ (s_.1 : Value).ownBlock ∧ some k_ ≠ (s_.2.2.2.1 : Value).ownBlock ∧ some k_ ≠ (s_.2.2.2.2.1 : Value).ownBlock) s_.2.2.2.2.2.1 t327) ∧ (w'.heap[gb308]? = some (.cells #[.int .i64 a0_0, .slice A0_1 l0_1.length c0_1, .slice A0_2 l0_2.length c0_2, .slice A0_3 l0_3.length c0_3, .slice A0_4 l0_4.length c0_4] 26 (0, 0))) ∧ (w'.heap[gb309]? = some (.cells #[.int .i64 0, .slice none 0 0, .slice none 0 0, .slice none 0 0, .slice none 0 0, .int .i64 0, .int .i64 0, .slice none 0 0, .slice none 0 0, .slice none 0 0, .slice none 0 0, .int .i64 0] 55 (0, 0))) ∧ (w'.heap[s_.2.2.2.2.2.2]? = some (.cells #[.int .i64 0, .slice none 0 0, .slice none 0 0, .slice none 0 0, .slice none 0 0] 26 (0, 0))) ∧ (w.heap.size ≤ s_.2.2.2.2.2.2) ∧ (w.heap.size ≤ s_.2.2.2.2.2.2) ∧ (gb308 ≠ s_.2.2.2.2.2.2) ∧ (s_.2.2.2.2.2.2 ≠ gb308) ∧ (gb309 ≠ s_.2.2.2.2.2.2) ∧ (s_.2.2.2.2.2.2 ≠ gb309) ∧ (Below w.heap.size w w')) ?_ ?_
  rotate_left
  ·intro hCont
   refine two_ (i := 2) (j := 7) (Ni := some 16) (Nj := some 5) z70_ z71_ rfl rfl rfl rfl (two_of HT_.out (by kernel_rfl)) (by decide) (by decide) (fun K hK => ?_) (fun K hK => ?_)
   ·skip
    refine goes_ Try.func42 (by kernel_rfl) rfl #[.agg #[.int .i64 a0_0, .slice A0_1 l0_1.length c0_1, .slice A0_2 l0_2.length c0_2, .slice A0_3 l0_3.length c0_3, .slice A0_4 l0_4.length c0_4]] (by rfl) rfl rfl (by (try simp only [List.map_toArray, List.map_cons, List.map_nil]); first | done | rfl | (simp only [List.length_drop, List.length_take]; rfl)) ?_
    with_reducible refine (spiritlevelref26_None.calls k a0_0 _ _ l0_1 _ _ l0_2 _ _ l0_3 _ _ l0_4 t311 _ ?side1 ?side2 ?side3 ?side4 ?side5 ?side6 ?side7 ?side8 A4.out).mono ?_
    (case side1 => exact cl_ (Kd.C_below HR0_1.out HB.out))
    (case side2 => exact HC0_1.out)
    (case side3 => exact cl_ (Kd.C_below HR0_2.out HB.out))
    (case side4 => exact HC0_2.out)
    (case side5 => exact cl_ (Kd.C_below HR0_3.out HB.out))
    (case side6 => exact HC0_3.out)
    (case side7 => exact cl_ (Kd.C_below HR0_4.out HB.out))
    (case side8 => exact HC0_4.out)
    rintro e w13 ⟨v312, rfl, ho0, hb⟩
    refine ⟨_, rfl, ?_⟩
    have n0_ := M_ (Kd.R_lower ho0 (below_size (ws_ HB.out)))
    have n1_ := bb_ BK308 hb
    have n2_ := bb_ BK309 hb
    have n3_ := wb_ HB hb
    clear BK308
    clear BK309
    clear HB
    have HO313 := n0_
    have BK308 := n1_
    have BK309 := n2_
    have HB := n3_
    clear n0_ n1_ n2_ n3_
    (try clear hb)
    (try clear hb2)
    (try clear hk)
    (try clear hi)
    (try clear ho0)
    obtain ⟨Ao14, co14, eo14⟩ := Kd.R_slice HO313.out
    (first | subst eo14 | (injection eo14 with f1_ f2_ f3_; have f4_ := f1_.symm; have f5_ := f3_.symm; clear f1_ f2_ f3_; subst f4_; subst f5_))
    refine hK.out _ _ ⟨(blk_cell BK308.out 0).trans rfl, (blk_cell BK308.out 1).trans rfl, (blk_cell BK308.out 2).trans rfl, (blk_cell BK308.out 3).trans rfl, (blk_cell BK308.out 4).trans rfl⟩ (fun hHeld => ?_)
    clear hK K
    refine norm_ (a' := ?_) ?_ ?_
    rotate_left
    ·show Act.put _ (some 16) _ = _
     simp only [Act.put, e1_, e2_, e3_, i64_w, i32_w]
     rfl
    refine two_ (i := 3) (j := 7) (Ni := some 17) (Nj := some 5) z72_ z73_ rfl rfl rfl rfl (two_of HT_.out (by kernel_rfl)) (by decide) (by decide) (fun K hK => ?_) (fun K hK => ?_)
    ·skip
     refine goes_ Try.func39 (by kernel_rfl) rfl #[.agg #[.int .i64 a0_0, .slice A0_1 l0_1.length c0_1, .slice A0_2 l0_2.length c0_2, .slice A0_3 l0_3.length c0_3, .slice A0_4 l0_4.length c0_4], .slice Ao14 t311.length co14] (by rfl) rfl rfl (by (try simp only [List.map_toArray, List.map_cons, List.map_nil]); first | done | rfl | (simp only [List.length_drop, List.length_take]; rfl)) ?_
     with_reducible refine (spiritlevelref26_Built.calls a0_0 _ _ l0_1 _ _ l0_2 _ _ l0_3 _ _ l0_4 _ _ t311 t314 t315 t318 t321 t324 t327 _ ?side1 ?side2 ?side3 ?side4 ?side5 ?side6 ?side7 ?side8 ?side9 ?side10 A5.out).mono ?_
     (case side1 => exact cl_ (Kd.C_below HR0_1.out HB.out))
     (case side2 => exact HC0_1.out)
     (case side3 => exact cl_ (Kd.C_below HR0_2.out HB.out))
     (case side4 => exact HC0_2.out)
     (case side5 => exact cl_ (Kd.C_below HR0_3.out HB.out))
     (case side6 => exact HC0_3.out)
     (case side7 => exact cl_ (Kd.C_below HR0_4.out HB.out))
     (case side8 => exact HC0_4.out)
     (case side9 => exact cl_ (Kd.R_reads' HO313.out).2.2)
     (case side10 => exact (Kd.R_reads' HO313.out).2.1)
     rintro e w15 ⟨v316, v319, v322, v325, v328, rfl, ho0, ho1, ho2, ho3, ho4, hb⟩
     refine ⟨_, rfl, ?_⟩
     have n0_ := M_ (Kd.R_mono (Kd.R_told (Kd.R_told (Kd.R_told (Kd.R_old (rl_ HO313.out) hb) (Kd.R_base ho2)) (Kd.R_base ho3)) (Kd.R_base ho4)) (fun _ h_ => h_.1))
     have n1_ := M_ (Kd.R_lower ho0 (below_size (ws_ HB.out)))
     have n2_ := M_ (Kd.R_lower ho1 (below_size (ws_ HB.out)))
     have n3_ := M_ (Kd.R_lower (Kd.R_new' ho2 (Kd.R_lt (rl_ HO313.out))) (below_size (ws_ HB.out)))
     have n4_ := M_ (Kd.R_lower (Kd.R_new' ho3 (Kd.R_lt (rl_ HO313.out))) (below_size (ws_ HB.out)))
     have n5_ := M_ (Kd.R_lower (Kd.R_new' ho4 (Kd.R_lt (rl_ HO313.out))) (below_size (ws_ HB.out)))
     have n6_ := bb_ BK308 hb
     have n7_ := bb_ BK309 hb
     have n8_ := wb_ HB hb
     clear HO313
     clear BK308
     clear BK309
     clear HB
     have HO313 := n0_
     have HO317 := n1_
     have HO320 := n2_
     have HO323 := n3_
     have HO326 := n4_
     have HO329 := n5_
     have BK308 := n6_
     have BK309 := n7_
     have HB := n8_
     clear n0_ n1_ n2_ n3_ n4_ n5_ n6_ n7_ n8_
     (try clear hb)
     (try clear hb2)
     (try clear hk)
     (try clear hi)
     (try clear ho0)
     (try clear ho1)
     (try clear ho2)
     (try clear ho3)
     (try clear ho4)
     refine hK.out _ _ ⟨(blk_cell BK308.out 0).trans rfl, (blk_cell BK308.out 1).trans rfl, (blk_cell BK308.out 2).trans rfl, (blk_cell BK308.out 3).trans rfl, (blk_cell BK308.out 4).trans rfl⟩ (fun hHeld => ?_)
     clear hK K
     refine norm_ (a' := ?_) ?_ ?_
     rotate_left
     ·show Act.put _ (some 17) _ = _
      simp only [Act.put, e1_, e2_, e3_, i64_w, i32_w]
      rfl
     refine pure_ (i := 4) (N := some 13) (v := ?_) (a' := ?_) z74_ rfl rfl (any_of HT_.out (by kernel_rfl)) (fun _ _ _ h => h) (Or.inl ⟨by rfl, ?_⟩) ?_ ?_
     rotate_left
     ·intro w'
      go_simp
      with_reducible rfl
     rotate_left
     ·simp only [Act.put, e1_, e2_, e3_, i64_w, i32_w]
      rfl
     refine pure_ (i := 5) (N := some 18) (v := ?_) (a' := ?_) z75_ rfl rfl (any_of HT_.out (by kernel_rfl)) (fun _ _ _ h => h) (Or.inl ⟨by rfl, ?_⟩) ?_ ?_
     rotate_left
     ·intro w'
      go_simp
      with_reducible rfl
     rotate_left
     ·simp only [Act.put, e1_, e2_, e3_, i64_w, i32_w]
      rfl
     refine pure_ (i := 6) (N := some 19) (v := ?_) (a' := ?_) z76_ rfl rfl (any_of HT_.out (by kernel_rfl)) (fun _ _ _ h => h) (Or.inl ⟨by rfl, ?_⟩) ?_ ?_
     rotate_left
     ·intro w'
      go_simp
      with_reducible rfl
     rotate_left
     ·simp only [Act.put, e1_, e2_, e3_, i64_w, i32_w]
      rfl
     refine one_ (i := 7) (N := some 5) z69_ rfl rfl (one_of HT_.out (by kernel_rfl)) (by decide) (fun K hK => ?_)
     refine box_step ?hg (N := 5) ?hd (cs := #[.int .i64 0, .slice none 0 0, .slice none 0 0, .slice none 0 0, .slice none 0 0]) (t := 26) ?hr ?_; (case hd => rfl); (case hg => rfl); (case hr => first | (go_simp; done) | (go_simp; rfl))
     intro gb330 hg w16 hbox hb
     have n0_ := rb_ HO313 hb
     have n1_ := rb_ HO317 hb
     have n2_ := rb_ HO320 hb
     have n3_ := rb_ HO323 hb
     have n4_ := rb_ HO326 hb
     have n5_ := rb_ HO329 hb
     have n6_ := bb_ BK308 hb
     have n7_ := bb_ BK309 hb
     have n8_ := wb_ HB hb
     have n9_ := M_ (hbox)
     have n10_ := M_ ((by rw [hg]; exact (below_size (ws_ HB.out)) : w.heap.size ≤ gb330))
     have n11_ := M_ ((by rw [hg]; exact (below_size (ws_ HB.out)) : w.heap.size ≤ gb330))
     have n12_ := M_ ((by rw [hg]; exact Nat.ne_of_lt (blk_lt (bl_ BK308.out)) : gb308 ≠ gb330))
     have n13_ := M_ ((by rw [hg]; exact Nat.ne_of_gt (blk_lt (bl_ BK308.out)) : gb330 ≠ gb308))
     have n14_ := M_ ((by rw [hg]; exact Nat.ne_of_lt (blk_lt (bl_ BK309.out)) : gb309 ≠ gb330))
     have n15_ := M_ ((by rw [hg]; exact Nat.ne_of_gt (blk_lt (bl_ BK309.out)) : gb330 ≠ gb309))
     clear HO313
     clear HO317
     clear HO320
     clear HO323
     clear HO326
     clear HO329
     clear BK308
     clear BK309
     clear HB
     have HO313 := n0_
     have HO317 := n1_
     have HO320 := n2_
     have HO323 := n3_
     have HO326 := n4_
     have HO329 := n5_
     have BK308 := n6_
     have BK309 := n7_
     have HB := n8_
     have BK330 := n9_
     have GW330 := n10_
     have GE330 := n11_; have gi330 : Ge _ _ := ⟨GE330.out⟩
     have NB308_330 := n12_
     have NB330_308 := n13_
     have NB309_330 := n14_
     have NB330_309 := n15_
     clear n0_ n1_ n2_ n3_ n4_ n5_ n6_ n7_ n8_ n9_ n10_ n11_ n12_ n13_ n14_ n15_
     clear hb hbox hg
     refine hK.out _ _ ⟨(blk_cell BK308.out 0).trans rfl, (blk_cell BK308.out 1).trans rfl, (blk_cell BK308.out 2).trans rfl, (blk_cell BK308.out 3).trans rfl, (blk_cell BK308.out 4).trans rfl⟩ (fun hHeld => ?_)
     clear hK K
     refine norm_ (a' := ?_) ?_ ?_
     rotate_left
     ·show Act.put _ (some 5) _ = _
      simp only [Act.put, e1_, e2_, e3_, i64_w, i32_w]
      rfl
     exact norm_ (by simp only [putAll, Act.put, e1_, e2_, e3_]) (hCont (.slice Ao14 t311.length co14, v316, v319, v322, v325, v328, gb330) _ ⟨hHeld, (rl_ (Kd.R_mono HO313.out (fun _ hk => ⟨hk.1.1.2, ⟨hk.1.2, hk.2⟩⟩))), (rl_ HO317.out), (rl_ HO320.out), (rl_ (Kd.R_mono HO323.out (fun _ hk => ⟨hk.2, ⟨hk.1.1, hk.1.2⟩⟩))), (rl_ (Kd.R_mono HO326.out (fun _ hk => ⟨hk.2, ⟨hk.1.1, hk.1.2⟩⟩))), (rl_ (Kd.R_mono HO329.out (fun _ hk => ⟨hk.2, ⟨hk.1.1, hk.1.2⟩⟩))), (bl_ BK308.out), (bl_ BK309.out), (bl_ BK330.out), GW330.out, GE330.out, NB308_330.out, NB330_308.out, NB309_330.out, NB330_309.out, (ws_ HB.out)⟩)
    ·skip
     refine box_step ?hg (N := 5) ?hd (cs := #[.int .i64 0, .slice none 0 0, .slice none 0 0, .slice none 0 0, .slice none 0 0]) (t := 26) ?hr ?_; (case hd => rfl); (case hg => rfl); (case hr => first | (go_simp; done) | (go_simp; rfl))
     intro gb330 hg w14 hbox hb
     have n0_ := rb_ HO313 hb
     have n1_ := bb_ BK308 hb
     have n2_ := bb_ BK309 hb
     have n3_ := wb_ HB hb
     have n4_ := M_ (hbox)
     have n5_ := M_ ((by rw [hg]; exact (below_size (ws_ HB.out)) : w.heap.size ≤ gb330))
     have n6_ := M_ ((by rw [hg]; exact (below_size (ws_ HB.out)) : w.heap.size ≤ gb330))
     have n7_ := M_ ((by rw [hg]; exact Nat.ne_of_lt (blk_lt (bl_ BK308.out)) : gb308 ≠ gb330))
     have n8_ := M_ ((by rw [hg]; exact Nat.ne_of_gt (blk_lt (bl_ BK308.out)) : gb330 ≠ gb308))
     have n9_ := M_ ((by rw [hg]; exact Nat.ne_of_lt (blk_lt (bl_ BK309.out)) : gb309 ≠ gb330))
     have n10_ := M_ ((by rw [hg]; exact Nat.ne_of_gt (blk_lt (bl_ BK309.out)) : gb330 ≠ gb309))
     clear HO313
     clear BK308
     clear BK309
     clear HB
     have HO313 := n0_
     have BK308 := n1_
     have BK309 := n2_
     have HB := n3_
     have BK330 := n4_
     have GW330 := n5_
     have GE330 := n6_; have gi330 : Ge _ _ := ⟨GE330.out⟩
     have NB308_330 := n7_
     have NB330_308 := n8_
     have NB309_330 := n9_
     have NB330_309 := n10_
     clear n0_ n1_ n2_ n3_ n4_ n5_ n6_ n7_ n8_ n9_ n10_
     clear hb hbox hg
     obtain ⟨Ao15, co15, eo15⟩ := Kd.R_slice HO313.out
     (first | subst eo15 | (injection eo15 with f1_ f2_ f3_; have f4_ := f1_.symm; have f5_ := f3_.symm; clear f1_ f2_ f3_; subst f4_; subst f5_))
     refine hK.out _ _ ⟨(blk_cell BK308.out 0).trans rfl, (blk_cell BK308.out 1).trans rfl, (blk_cell BK308.out 2).trans rfl, (blk_cell BK308.out 3).trans rfl, (blk_cell BK308.out 4).trans rfl⟩ (fun hHeld => ?_)
     clear hK K
     refine norm_ (a' := ?_) ?_ ?_
     rotate_left
     ·show Act.put _ (some 5) _ = _
      simp only [Act.put, e1_, e2_, e3_, i64_w, i32_w]
      rfl
     refine one_ (i := 3) (N := some 17) z77_ rfl rfl (one_of HT_.out (by kernel_rfl)) (by decide) (fun K hK => ?_)
     refine goes_ Try.func39 (by kernel_rfl) rfl #[.agg #[.int .i64 a0_0, .slice A0_1 l0_1.length c0_1, .slice A0_2 l0_2.length c0_2, .slice A0_3 l0_3.length c0_3, .slice A0_4 l0_4.length c0_4], .slice Ao15 t311.length co15] (by rfl) rfl rfl (by (try simp only [List.map_toArray, List.map_cons, List.map_nil]); first | done | rfl | (simp only [List.length_drop, List.length_take]; rfl)) ?_
     with_reducible refine (spiritlevelref26_Built.calls a0_0 _ _ l0_1 _ _ l0_2 _ _ l0_3 _ _ l0_4 _ _ t311 t314 t315 t318 t321 t324 t327 _ ?side1 ?side2 ?side3 ?side4 ?side5 ?side6 ?side7 ?side8 ?side9 ?side10 A5.out).mono ?_
     (case side1 => exact cl_ (Kd.C_below HR0_1.out HB.out))
     (case side2 => exact HC0_1.out)
     (case side3 => exact cl_ (Kd.C_below HR0_2.out HB.out))
     (case side4 => exact HC0_2.out)
     (case side5 => exact cl_ (Kd.C_below HR0_3.out HB.out))
     (case side6 => exact HC0_3.out)
     (case side7 => exact cl_ (Kd.C_below HR0_4.out HB.out))
     (case side8 => exact HC0_4.out)
     (case side9 => exact cl_ (Kd.R_reads' HO313.out).2.2)
     (case side10 => exact (Kd.R_reads' HO313.out).2.1)
     rintro e w16 ⟨v316, v319, v322, v325, v328, rfl, ho0, ho1, ho2, ho3, ho4, hb⟩
     refine ⟨_, rfl, ?_⟩
     have n0_ := M_ (Kd.R_mono (Kd.R_told (Kd.R_told (Kd.R_told (Kd.R_old (rl_ HO313.out) hb) (Kd.R_base ho2)) (Kd.R_base ho3)) (Kd.R_base ho4)) (fun _ h_ => h_.1))
     have n1_ := M_ (Kd.R_lower ho0 (below_size (ws_ HB.out)))
     have n2_ := M_ (Kd.R_lower ho1 (below_size (ws_ HB.out)))
     have n3_ := M_ (Kd.R_lower (Kd.R_new' ho2 (Kd.R_lt (rl_ HO313.out))) (below_size (ws_ HB.out)))
     have n4_ := M_ (Kd.R_lower (Kd.R_new' ho3 (Kd.R_lt (rl_ HO313.out))) (below_size (ws_ HB.out)))
     have n5_ := M_ (Kd.R_lower (Kd.R_new' ho4 (Kd.R_lt (rl_ HO313.out))) (below_size (ws_ HB.out)))
     have n6_ := bb_ BK308 hb
     have n7_ := bb_ BK309 hb
     have n8_ := bb_ BK330 hb
     have n9_ := wb_ HB hb
     clear HO313
     clear BK308
     clear BK309
     clear BK330
     clear HB
     have HO313 := n0_
     have HO317 := n1_
     have HO320 := n2_
     have HO323 := n3_
     have HO326 := n4_
     have HO329 := n5_
     have BK308 := n6_
     have BK309 := n7_
     have BK330 := n8_
     have HB := n9_
     clear n0_ n1_ n2_ n3_ n4_ n5_ n6_ n7_ n8_ n9_
     (try clear hb)
     (try clear hb2)
     (try clear hk)
     (try clear hi)
     (try clear ho0)
     (try clear ho1)
     (try clear ho2)
     (try clear ho3)
     (try clear ho4)
     refine hK.out _ _ ⟨(blk_cell BK308.out 0).trans rfl, (blk_cell BK308.out 1).trans rfl, (blk_cell BK308.out 2).trans rfl, (blk_cell BK308.out 3).trans rfl, (blk_cell BK308.out 4).trans rfl⟩ (fun hHeld => ?_)
     clear hK K
     refine norm_ (a' := ?_) ?_ ?_
     rotate_left
     ·show Act.put _ (some 17) _ = _
      simp only [Act.put, e1_, e2_, e3_, i64_w, i32_w]
      rfl
     refine pure_ (i := 4) (N := some 13) (v := ?_) (a' := ?_) z78_ rfl rfl (any_of HT_.out (by kernel_rfl)) (fun _ _ _ h => h) (Or.inl ⟨by rfl, ?_⟩) ?_ ?_
     rotate_left
     ·intro w'
      go_simp
      with_reducible rfl
     rotate_left
     ·simp only [Act.put, e1_, e2_, e3_, i64_w, i32_w]
      rfl
     refine pure_ (i := 5) (N := some 18) (v := ?_) (a' := ?_) z79_ rfl rfl (any_of HT_.out (by kernel_rfl)) (fun _ _ _ h => h) (Or.inl ⟨by rfl, ?_⟩) ?_ ?_
     rotate_left
     ·intro w'
      go_simp
      with_reducible rfl
     rotate_left
     ·simp only [Act.put, e1_, e2_, e3_, i64_w, i32_w]
      rfl
     refine pure_ (i := 6) (N := some 19) (v := ?_) (a' := ?_) z69_ rfl rfl (any_of HT_.out (by kernel_rfl)) (fun _ _ _ h => h) (Or.inl ⟨by rfl, ?_⟩) ?_ ?_
     rotate_left
     ·intro w'
      go_simp
      with_reducible rfl
     rotate_left
     ·simp only [Act.put, e1_, e2_, e3_, i64_w, i32_w]
      rfl
     exact norm_ (by simp only [putAll, Act.put, e1_, e2_, e3_]) (hCont (.slice Ao15 t311.length co15, v316, v319, v322, v325, v328, gb330) _ ⟨hHeld, (rl_ (Kd.R_mono HO313.out (fun _ hk => ⟨hk.1.1.2, ⟨hk.1.2, hk.2⟩⟩))), (rl_ HO317.out), (rl_ HO320.out), (rl_ (Kd.R_mono HO323.out (fun _ hk => ⟨hk.2, ⟨hk.1.1, hk.1.2⟩⟩))), (rl_ (Kd.R_mono HO326.out (fun _ hk => ⟨hk.2, ⟨hk.1.1, hk.1.2⟩⟩))), (rl_ (Kd.R_mono HO329.out (fun _ hk => ⟨hk.2, ⟨hk.1.1, hk.1.2⟩⟩))), (bl_ BK308.out), (bl_ BK309.out), (bl_ BK330.out), GW330.out, GE330.out, NB308_330.out, NB330_308.out, NB309_330.out, NB330_309.out, (ws_ HB.out)⟩)
   ·skip
    refine box_step ?hg (N := 5) ?hd (cs := #[.int .i64 0, .slice none 0 0, .slice none 0 0, .slice none 0 0, .slice none 0 0]) (t := 26) ?hr ?_; (case hd => rfl); (case hg => rfl); (case hr => first | (go_simp; done) | (go_simp; rfl))
    intro gb330 hg w13 hbox hb
    have n0_ := bb_ BK308 hb
    have n1_ := bb_ BK309 hb
    have n2_ := wb_ HB hb
    have n3_ := M_ (hbox)
    have n4_ := M_ ((by rw [hg]; exact (below_size (ws_ HB.out)) : w.heap.size ≤ gb330))
    have n5_ := M_ ((by rw [hg]; exact (below_size (ws_ HB.out)) : w.heap.size ≤ gb330))
    have n6_ := M_ ((by rw [hg]; exact Nat.ne_of_lt (blk_lt (bl_ BK308.out)) : gb308 ≠ gb330))
    have n7_ := M_ ((by rw [hg]; exact Nat.ne_of_gt (blk_lt (bl_ BK308.out)) : gb330 ≠ gb308))
    have n8_ := M_ ((by rw [hg]; exact Nat.ne_of_lt (blk_lt (bl_ BK309.out)) : gb309 ≠ gb330))
    have n9_ := M_ ((by rw [hg]; exact Nat.ne_of_gt (blk_lt (bl_ BK309.out)) : gb330 ≠ gb309))
    clear BK308
    clear BK309
    clear HB
    have BK308 := n0_
    have BK309 := n1_
    have HB := n2_
    have BK330 := n3_
    have GW330 := n4_
    have GE330 := n5_; have gi330 : Ge _ _ := ⟨GE330.out⟩
    have NB308_330 := n6_
    have NB330_308 := n7_
    have NB309_330 := n8_
    have NB330_309 := n9_
    clear n0_ n1_ n2_ n3_ n4_ n5_ n6_ n7_ n8_ n9_
    clear hb hbox hg
    refine hK.out _ _ ⟨(blk_cell BK308.out 0).trans rfl, (blk_cell BK308.out 1).trans rfl, (blk_cell BK308.out 2).trans rfl, (blk_cell BK308.out 3).trans rfl, (blk_cell BK308.out 4).trans rfl⟩ (fun hHeld => ?_)
    clear hK K
    refine norm_ (a' := ?_) ?_ ?_
    rotate_left
    ·show Act.put _ (some 5) _ = _
     simp only [Act.put, e1_, e2_, e3_, i64_w, i32_w]
     rfl
    refine one_ (i := 2) (N := some 16) z73_ rfl rfl (one_of HT_.out (by kernel_rfl)) (by decide) (fun K hK => ?_)
    refine goes_ Try.func42 (by kernel_rfl) rfl #[.agg #[.int .i64 a0_0, .slice A0_1 l0_1.length c0_1, .slice A0_2 l0_2.length c0_2, .slice A0_3 l0_3.length c0_3, .slice A0_4 l0_4.length c0_4]] (by rfl) rfl rfl (by (try simp only [List.map_toArray, List.map_cons, List.map_nil]); first | done | rfl | (simp only [List.length_drop, List.length_take]; rfl)) ?_
    with_reducible refine (spiritlevelref26_None.calls k a0_0 _ _ l0_1 _ _ l0_2 _ _ l0_3 _ _ l0_4 t311 _ ?side1 ?side2 ?side3 ?side4 ?side5 ?side6 ?side7 ?side8 A4.out).mono ?_
    (case side1 => exact cl_ (Kd.C_below HR0_1.out HB.out))
    (case side2 => exact HC0_1.out)
    (case side3 => exact cl_ (Kd.C_below HR0_2.out HB.out))
    (case side4 => exact HC0_2.out)
    (case side5 => exact cl_ (Kd.C_below HR0_3.out HB.out))
    (case side6 => exact HC0_3.out)
    (case side7 => exact cl_ (Kd.C_below HR0_4.out HB.out))
    (case side8 => exact HC0_4.out)
    rintro e w14 ⟨v312, rfl, ho0, hb⟩
    refine ⟨_, rfl, ?_⟩
    have n0_ := M_ (Kd.R_lower ho0 (below_size (ws_ HB.out)))
    have n1_ := bb_ BK308 hb
    have n2_ := bb_ BK309 hb
    have n3_ := bb_ BK330 hb
    have n4_ := wb_ HB hb
    clear BK308
    clear BK309
    clear BK330
    clear HB
    have HO313 := n0_
    have BK308 := n1_
    have BK309 := n2_
    have BK330 := n3_
    have HB := n4_
    clear n0_ n1_ n2_ n3_ n4_
    (try clear hb)
    (try clear hb2)
    (try clear hk)
    (try clear hi)
    (try clear ho0)
    obtain ⟨Ao15, co15, eo15⟩ := Kd.R_slice HO313.out
    (first | subst eo15 | (injection eo15 with f1_ f2_ f3_; have f4_ := f1_.symm; have f5_ := f3_.symm; clear f1_ f2_ f3_; subst f4_; subst f5_))
    refine hK.out _ _ ⟨(blk_cell BK308.out 0).trans rfl, (blk_cell BK308.out 1).trans rfl, (blk_cell BK308.out 2).trans rfl, (blk_cell BK308.out 3).trans rfl, (blk_cell BK308.out 4).trans rfl⟩ (fun hHeld => ?_)
    clear hK K
    refine norm_ (a' := ?_) ?_ ?_
    rotate_left
    ·show Act.put _ (some 16) _ = _
     simp only [Act.put, e1_, e2_, e3_, i64_w, i32_w]
     rfl
    refine one_ (i := 3) (N := some 17) z77_ rfl rfl (one_of HT_.out (by kernel_rfl)) (by decide) (fun K hK => ?_)
    refine goes_ Try.func39 (by kernel_rfl) rfl #[.agg #[.int .i64 a0_0, .slice A0_1 l0_1.length c0_1, .slice A0_2 l0_2.length c0_2, .slice A0_3 l0_3.length c0_3, .slice A0_4 l0_4.length c0_4], .slice Ao15 t311.length co15] (by rfl) rfl rfl (by (try simp only [List.map_toArray, List.map_cons, List.map_nil]); first | done | rfl | (simp only [List.length_drop, List.length_take]; rfl)) ?_
    with_reducible refine (spiritlevelref26_Built.calls a0_0 _ _ l0_1 _ _ l0_2 _ _ l0_3 _ _ l0_4 _ _ t311 t314 t315 t318 t321 t324 t327 _ ?side1 ?side2 ?side3 ?side4 ?side5 ?side6 ?side7 ?side8 ?side9 ?side10 A5.out).mono ?_
    (case side1 => exact cl_ (Kd.C_below HR0_1.out HB.out))
    (case side2 => exact HC0_1.out)
    (case side3 => exact cl_ (Kd.C_below HR0_2.out HB.out))
    (case side4 => exact HC0_2.out)
    (case side5 => exact cl_ (Kd.C_below HR0_3.out HB.out))
    (case side6 => exact HC0_3.out)
    (case side7 => exact cl_ (Kd.C_below HR0_4.out HB.out))
    (case side8 => exact HC0_4.out)
    (case side9 => exact cl_ (Kd.R_reads' HO313.out).2.2)
    (case side10 => exact (Kd.R_reads' HO313.out).2.1)
    rintro e w16 ⟨v316, v319, v322, v325, v328, rfl, ho0, ho1, ho2, ho3, ho4, hb⟩
    refine ⟨_, rfl, ?_⟩
    have n0_ := M_ (Kd.R_mono (Kd.R_told (Kd.R_told (Kd.R_told (Kd.R_old (rl_ HO313.out) hb) (Kd.R_base ho2)) (Kd.R_base ho3)) (Kd.R_base ho4)) (fun _ h_ => h_.1))
    have n1_ := M_ (Kd.R_lower ho0 (below_size (ws_ HB.out)))
    have n2_ := M_ (Kd.R_lower ho1 (below_size (ws_ HB.out)))
    have n3_ := M_ (Kd.R_lower (Kd.R_new' ho2 (Kd.R_lt (rl_ HO313.out))) (below_size (ws_ HB.out)))
    have n4_ := M_ (Kd.R_lower (Kd.R_new' ho3 (Kd.R_lt (rl_ HO313.out))) (below_size (ws_ HB.out)))
    have n5_ := M_ (Kd.R_lower (Kd.R_new' ho4 (Kd.R_lt (rl_ HO313.out))) (below_size (ws_ HB.out)))
    have n6_ := bb_ BK308 hb
    have n7_ := bb_ BK309 hb
    have n8_ := bb_ BK330 hb
    have n9_ := wb_ HB hb
    clear HO313
    clear BK308
    clear BK309
    clear BK330
    clear HB
    have HO313 := n0_
    have HO317 := n1_
    have HO320 := n2_
    have HO323 := n3_
    have HO326 := n4_
    have HO329 := n5_
    have BK308 := n6_
    have BK309 := n7_
    have BK330 := n8_
    have HB := n9_
    clear n0_ n1_ n2_ n3_ n4_ n5_ n6_ n7_ n8_ n9_
    (try clear hb)
    (try clear hb2)
    (try clear hk)
    (try clear hi)
    (try clear ho0)
    (try clear ho1)
    (try clear ho2)
    (try clear ho3)
    (try clear ho4)
    refine hK.out _ _ ⟨(blk_cell BK308.out 0).trans rfl, (blk_cell BK308.out 1).trans rfl, (blk_cell BK308.out 2).trans rfl, (blk_cell BK308.out 3).trans rfl, (blk_cell BK308.out 4).trans rfl⟩ (fun hHeld => ?_)
    clear hK K
    refine norm_ (a' := ?_) ?_ ?_
    rotate_left
    ·show Act.put _ (some 17) _ = _
     simp only [Act.put, e1_, e2_, e3_, i64_w, i32_w]
     rfl
    refine pure_ (i := 4) (N := some 13) (v := ?_) (a' := ?_) z78_ rfl rfl (any_of HT_.out (by kernel_rfl)) (fun _ _ _ h => h) (Or.inl ⟨by rfl, ?_⟩) ?_ ?_
    rotate_left
    ·intro w'
     go_simp
     with_reducible rfl
    rotate_left
    ·simp only [Act.put, e1_, e2_, e3_, i64_w, i32_w]
     rfl
    refine pure_ (i := 5) (N := some 18) (v := ?_) (a' := ?_) z79_ rfl rfl (any_of HT_.out (by kernel_rfl)) (fun _ _ _ h => h) (Or.inl ⟨by rfl, ?_⟩) ?_ ?_
    rotate_left
    ·intro w'
     go_simp
     with_reducible rfl
    rotate_left
    ·simp only [Act.put, e1_, e2_, e3_, i64_w, i32_w]
     rfl
    refine pure_ (i := 6) (N := some 19) (v := ?_) (a' := ?_) z69_ rfl rfl (any_of HT_.out (by kernel_rfl)) (fun _ _ _ h => h) (Or.inl ⟨by rfl, ?_⟩) ?_ ?_
    rotate_left
    ·intro w'
     go_simp
     with_reducible rfl
    rotate_left
    ·simp only [Act.put, e1_, e2_, e3_, i64_w, i32_w]
     rfl
    exact norm_ (by simp only [putAll, Act.put, e1_, e2_, e3_]) (hCont (.slice Ao15 t311.length co15, v316, v319, v322, v325, v328, gb330) _ ⟨hHeld, (rl_ (Kd.R_mono HO313.out (fun _ hk => ⟨hk.1.1.2, ⟨hk.1.2, hk.2⟩⟩))), (rl_ HO317.out), (rl_ HO320.out), (rl_ (Kd.R_mono HO323.out (fun _ hk => ⟨hk.2, ⟨hk.1.1, hk.1.2⟩⟩))), (rl_ (Kd.R_mono HO326.out (fun _ hk => ⟨hk.2, ⟨hk.1.1, hk.1.2⟩⟩))), (rl_ (Kd.R_mono HO329.out (fun _ hk => ⟨hk.2, ⟨hk.1.1, hk.1.2⟩⟩))), (bl_ BK308.out), (bl_ BK309.out), (bl_ BK330.out), GW330.out, GE330.out, NB308_330.out, NB330_308.out, NB309_330.out, NB330_309.out, (ws_ HB.out)⟩)
  rintro ⟨v312, v316, v319, v322, v325, v328, gb330⟩ w17 ⟨hS_, h0_, h1_, h2_, h3_, h4_, h5_, h6_, h7_, h8_, h9_, h10_, h11_, h12_, h13_, h14_, h15_⟩
  have n0_ : Aside0 (Kd.R (Kd.int .i64) 3 w17 w.heap.size (fun k_ => some k_ ≠ (v322 : Value).ownBlock ∧ some k_ ≠ (v325 : Value).ownBlock ∧ some k_ ≠ (v328 : Value).ownBlock) v312 t311) := ⟨h0_⟩
  have n1_ : Aside0 (Kd.R k86 86 w17 w.heap.size (fun _ => True) v316 t315) := ⟨h1_⟩
  have n2_ : Aside0 (Kd.R k67 67 w17 w.heap.size (fun _ => True) v319 t318) := ⟨h2_⟩
  have n3_ : Aside0 (Kd.R (Kd.int .i64) 3 w17 w.heap.size (fun k_ => some k_ ≠ (v312 : Value).ownBlock ∧ some k_ ≠ (v325 : Value).ownBlock ∧ some k_ ≠ (v328 : Value).ownBlock) v322 t321) := ⟨h3_⟩
  have n4_ : Aside0 (Kd.R (Kd.int .i64) 3 w17 w.heap.size (fun k_ => some k_ ≠ (v312 : Value).ownBlock ∧ some k_ ≠ (v322 : Value).ownBlock ∧ some k_ ≠ (v328 : Value).ownBlock) v325 t324) := ⟨h4_⟩
  have n5_ : Aside0 (Kd.R (Kd.int .i64) 3 w17 w.heap.size (fun k_ => some k_ ≠ (v312 : Value).ownBlock ∧ some k_ ≠ (v322 : Value).ownBlock ∧ some k_ ≠ (v325 : Value).ownBlock) v328 t327) := ⟨h5_⟩
  have n6_ : Aside0 (w17.heap[gb308]? = some (.cells #[.int .i64 a0_0, .slice A0_1 l0_1.length c0_1, .slice A0_2 l0_2.length c0_2, .slice A0_3 l0_3.length c0_3, .slice A0_4 l0_4.length c0_4] 26 (0, 0))) := ⟨h6_⟩
  have n7_ : Aside0 (w17.heap[gb309]? = some (.cells #[.int .i64 0, .slice none 0 0, .slice none 0 0, .slice none 0 0, .slice none 0 0, .int .i64 0, .int .i64 0, .slice none 0 0, .slice none 0 0, .slice none 0 0, .slice none 0 0, .int .i64 0] 55 (0, 0))) := ⟨h7_⟩
  have n8_ : Aside0 (w17.heap[gb330]? = some (.cells #[.int .i64 0, .slice none 0 0, .slice none 0 0, .slice none 0 0, .slice none 0 0] 26 (0, 0))) := ⟨h8_⟩
  have n9_ : Aside0 (w.heap.size ≤ gb330) := ⟨h9_⟩
  have n10_ : Aside0 (w.heap.size ≤ gb330) := ⟨h10_⟩
  have n11_ : Aside0 (gb308 ≠ gb330) := ⟨h11_⟩
  have n12_ : Aside0 (gb330 ≠ gb308) := ⟨h12_⟩
  have n13_ : Aside0 (gb309 ≠ gb330) := ⟨h13_⟩
  have n14_ : Aside0 (gb330 ≠ gb309) := ⟨h14_⟩
  have n15_ : Aside0 (Below w.heap.size w w17) := ⟨h15_⟩
  clear BK308
  clear BK309
  clear HB
  clear h0_ h1_ h2_ h3_ h4_ h5_ h6_ h7_ h8_ h9_ h10_ h11_ h12_ h13_ h14_ h15_
  have HO313 := n0_
  have HO317 := n1_
  have HO320 := n2_
  have HO323 := n3_
  have HO326 := n4_
  have HO329 := n5_
  have BK308 := n6_
  have BK309 := n7_
  have BK330 := n8_
  have GW330 := n9_
  have GE330 := n10_; have gi330 : Ge _ _ := ⟨GE330.out⟩
  have NB308_330 := n11_
  have NB330_308 := n12_
  have NB309_330 := n13_
  have NB330_309 := n14_
  have HB := n15_
  clear n0_ n1_ n2_ n3_ n4_ n5_ n6_ n7_ n8_ n9_ n10_ n11_ n12_ n13_ n14_ n15_
  have hHeld : w17.cell? ⟨gb308, 0, none⟩ = some (.int .i64 a0_0) ∧ w17.cell? ⟨gb308, 1, none⟩ = some (.slice A0_1 l0_1.length c0_1) ∧ w17.cell? ⟨gb308, 2, none⟩ = some (.slice A0_2 l0_2.length c0_2) ∧ w17.cell? ⟨gb308, 3, none⟩ = some (.slice A0_3 l0_3.length c0_3) ∧ w17.cell? ⟨gb308, 4, none⟩ = some (.slice A0_4 l0_4.length c0_4) := hS_
  obtain ⟨Ao19, co19, eo19⟩ := Kd.R_slice HO317.out
  (first | subst eo19 | (injection eo19 with f1_ f2_ f3_; have f4_ := f1_.symm; have f5_ := f3_.symm; clear f1_ f2_ f3_; subst f4_; subst f5_))
  obtain ⟨Ao21, co21, eo21⟩ := Kd.R_slice HO320.out
  (first | subst eo21 | (injection eo21 with f1_ f2_ f3_; have f4_ := f1_.symm; have f5_ := f3_.symm; clear f1_ f2_ f3_; subst f4_; subst f5_))
  obtain ⟨Ao23, co23, eo23⟩ := Kd.R_slice HO323.out
  (first | subst eo23 | (injection eo23 with f1_ f2_ f3_; have f4_ := f1_.symm; have f5_ := f3_.symm; clear f1_ f2_ f3_; subst f4_; subst f5_))
  obtain ⟨Ao25, co25, eo25⟩ := Kd.R_slice HO326.out
  (first | subst eo25 | (injection eo25 with f1_ f2_ f3_; have f4_ := f1_.symm; have f5_ := f3_.symm; clear f1_ f2_ f3_; subst f4_; subst f5_))
  refine norm_ (a' := ?_) ?_ ?_
  rotate_left
  ·simp only [putAll, Act.put, e1_, e2_, e3_]
   rfl
  refine one_ (i := 8) (N := none) z80_ rfl rfl (one_of HT_.out (by kernel_rfl)) (by decide) (fun K hK => ?_)
  have hs18 : w17.cell? ⟨gb330, 0, none⟩ = some (.int .i64 0) := (blk_cell BK330.out 0).trans rfl
  have hfs18 := blk_frozen BK330.out 0
  have hns18_0 := NB308_330.out
  have hns18_1 := NB309_330.out
  have hms18_0 := NB330_308.out
  have hms18_1 := NB330_309.out
  have hs20 : w17.cell? ⟨gb330, 1, none⟩ = some (.slice none 0 0) := (blk_cell BK330.out 1).trans rfl
  have hfs20 := blk_frozen BK330.out 1
  have hns20_0 := NB308_330.out
  have hns20_1 := NB309_330.out
  have hms20_0 := NB330_308.out
  have hms20_1 := NB330_309.out
  have hs22 : w17.cell? ⟨gb330, 2, none⟩ = some (.slice none 0 0) := (blk_cell BK330.out 2).trans rfl
  have hfs22 := blk_frozen BK330.out 2
  have hns22_0 := NB308_330.out
  have hns22_1 := NB309_330.out
  have hms22_0 := NB330_308.out
  have hms22_1 := NB330_309.out
  have hs24 : w17.cell? ⟨gb330, 3, none⟩ = some (.slice none 0 0) := (blk_cell BK330.out 3).trans rfl
  have hfs24 := blk_frozen BK330.out 3
  have hns24_0 := NB308_330.out
  have hns24_1 := NB309_330.out
  have hms24_0 := NB330_308.out
  have hms24_1 := NB330_309.out
  have hs26 : w17.cell? ⟨gb330, 4, none⟩ = some (.slice none 0 0) := (blk_cell BK330.out 4).trans rfl
  have hfs26 := blk_frozen BK330.out 4
  have hns26_0 := NB308_330.out
  have hns26_1 := NB309_330.out
  have hms26_0 := NB330_308.out
  have hms26_1 := NB330_309.out
  refine skip_ (w1 := ?_) (by rfl) rfl ?_ ?_
  rotate_left
  ·go_simp
   rfl
  refine hK.out _ _ ⟨((cell_far (p := ⟨gb330, _, none⟩) NB308_330.out _).trans (((cell_far (p := ⟨gb330, _, none⟩) NB308_330.out _).trans (((cell_far (p := ⟨gb330, _, none⟩) NB308_330.out _).trans (((cell_far (p := ⟨gb330, _, none⟩) NB308_330.out _).trans (((cell_far (p := ⟨gb330, _, none⟩) NB308_330.out _).trans (hHeld.1)))))))))), ((cell_far (p := ⟨gb330, _, none⟩) NB308_330.out _).trans (((cell_far (p := ⟨gb330, _, none⟩) NB308_330.out _).trans (((cell_far (p := ⟨gb330, _, none⟩) NB308_330.out _).trans (((cell_far (p := ⟨gb330, _, none⟩) NB308_330.out _).trans (((cell_far (p := ⟨gb330, _, none⟩) NB308_330.out _).trans (hHeld.2.1)))))))))), ((cell_far (p := ⟨gb330, _, none⟩) NB308_330.out _).trans (((cell_far (p := ⟨gb330, _, none⟩) NB308_330.out _).trans (((cell_far (p := ⟨gb330, _, none⟩) NB308_330.out _).trans (((cell_far (p := ⟨gb330, _, none⟩) NB308_330.out _).trans (((cell_far (p := ⟨gb330, _, none⟩) NB308_330.out _).trans (hHeld.2.2.1)))))))))), ((cell_far (p := ⟨gb330, _, none⟩) NB308_330.out _).trans (((cell_far (p := ⟨gb330, _, none⟩) NB308_330.out _).trans (((cell_far (p := ⟨gb330, _, none⟩) NB308_330.out _).trans (((cell_far (p := ⟨gb330, _, none⟩) NB308_330.out _).trans (((cell_far (p := ⟨gb330, _, none⟩) NB308_330.out _).trans (hHeld.2.2.2.1)))))))))), ((cell_far (p := ⟨gb330, _, none⟩) NB308_330.out _).trans (((cell_far (p := ⟨gb330, _, none⟩) NB308_330.out _).trans (((cell_far (p := ⟨gb330, _, none⟩) NB308_330.out _).trans (((cell_far (p := ⟨gb330, _, none⟩) NB308_330.out _).trans (((cell_far (p := ⟨gb330, _, none⟩) NB308_330.out _).trans (hHeld.2.2.2.2))))))))))⟩ (fun hHeld => ?_)
  clear hK K
  refine pure_ (i := 9) (N := some 6) (v := ?_) (a' := ?_) z81_ rfl rfl (any_of HT_.out (by kernel_rfl)) (fun _ _ _ h => h) (Or.inl ⟨by rfl, ?_⟩) ?_ ?_
  rotate_left
  ·intro w'
   go_simp
   with_reducible rfl
  rotate_left
  ·simp only [Act.put, e1_, e2_, e3_, i64_w, i32_w]
   rfl
  refine done_ (done_of HT_.out (by kernel_rfl)) ?_
  have hnb27 := NB330_308.out
  have hnc27 := NB308_330.out
  have hnb28 := NB330_309.out
  have hnc28 := NB309_330.out
  obtain ⟨hcz29_0, hcz29_1, hcz29_2, hcz29_3, hcz29_4⟩ := cz5_ BK330.out
  obtain ⟨hfz29_0, hfz29_1, hfz29_2, hfz29_3, hfz29_4⟩ := fz5_ BK330.out
  try go_wp2_with (first | ((with_reducible refine gate_callee (f := 43) rfl ?_); have q1_ := M_ (Kd.R_far (p := ⟨gb330, 4, none⟩) (Kd.R_far (p := ⟨gb330, 3, none⟩) (Kd.R_far (p := ⟨gb330, 2, none⟩) (Kd.R_far (p := ⟨gb330, 1, none⟩) (Kd.R_far (p := ⟨gb330, 0, none⟩) (Kd.R_types HO317.out BK330.out (by decide)) (fun _ hk => hk.2) (.int .i64 t314)) (fun _ hk => hk.2) (.slice Ao19 t315.length co19)) (fun _ hk => hk.2) (.slice Ao21 t318.length co21)) (fun _ hk => hk.2) (.slice Ao23 t321.length co23)) (fun _ hk => hk.2) (.slice Ao25 t324.length co25)); have q2_ := M_ (Kd.R_far (p := ⟨gb330, 4, none⟩) (Kd.R_far (p := ⟨gb330, 3, none⟩) (Kd.R_far (p := ⟨gb330, 2, none⟩) (Kd.R_far (p := ⟨gb330, 1, none⟩) (Kd.R_far (p := ⟨gb330, 0, none⟩) (Kd.R_types HO320.out BK330.out (by decide)) (fun _ hk => hk.2) (.int .i64 t314)) (fun _ hk => hk.2) (.slice Ao19 t315.length co19)) (fun _ hk => hk.2) (.slice Ao21 t318.length co21)) (fun _ hk => hk.2) (.slice Ao23 t321.length co23)) (fun _ hk => hk.2) (.slice Ao25 t324.length co25)); have q3_ := M_ (Kd.R_far (p := ⟨gb330, 4, none⟩) (Kd.R_far (p := ⟨gb330, 3, none⟩) (Kd.R_far (p := ⟨gb330, 2, none⟩) (Kd.R_far (p := ⟨gb330, 1, none⟩) (Kd.R_far (p := ⟨gb330, 0, none⟩) (Kd.R_types HO323.out BK330.out (by decide)) (fun _ hk => hk.2) (.int .i64 t314)) (fun _ hk => hk.2) (.slice Ao19 t315.length co19)) (fun _ hk => hk.2) (.slice Ao21 t318.length co21)) (fun _ hk => hk.2) (.slice Ao23 t321.length co23)) (fun _ hk => hk.2) (.slice Ao25 t324.length co25)); have q4_ := M_ (Kd.R_far (p := ⟨gb330, 4, none⟩) (Kd.R_far (p := ⟨gb330, 3, none⟩) (Kd.R_far (p := ⟨gb330, 2, none⟩) (Kd.R_far (p := ⟨gb330, 1, none⟩) (Kd.R_far (p := ⟨gb330, 0, none⟩) (Kd.R_types HO326.out BK330.out (by decide)) (fun _ hk => hk.2) (.int .i64 t314)) (fun _ hk => hk.2) (.slice Ao19 t315.length co19)) (fun _ hk => hk.2) (.slice Ao21 t318.length co21)) (fun _ hk => hk.2) (.slice Ao23 t321.length co23)) (fun _ hk => hk.2) (.slice Ao25 t324.length co25)); have q5_ := M_ (Kd.R_far (p := ⟨gb330, 4, none⟩) (Kd.R_far (p := ⟨gb330, 3, none⟩) (Kd.R_far (p := ⟨gb330, 2, none⟩) (Kd.R_far (p := ⟨gb330, 1, none⟩) (Kd.R_far (p := ⟨gb330, 0, none⟩) (Kd.R_types HO313.out BK330.out (by decide)) (fun _ hk => hk.2) (.int .i64 t314)) (fun _ hk => hk.2) (.slice Ao19 t315.length co19)) (fun _ hk => hk.2) (.slice Ao21 t318.length co21)) (fun _ hk => hk.2) (.slice Ao23 t321.length co23)) (fun _ hk => hk.2) (.slice Ao25 t324.length co25)); have q6_ := M_ (Kd.R_far (p := ⟨gb330, 4, none⟩) (Kd.R_far (p := ⟨gb330, 3, none⟩) (Kd.R_far (p := ⟨gb330, 2, none⟩) (Kd.R_far (p := ⟨gb330, 1, none⟩) (Kd.R_far (p := ⟨gb330, 0, none⟩) (Kd.R_types HO329.out BK330.out (by decide)) (fun _ hk => hk.2) (.int .i64 t314)) (fun _ hk => hk.2) (.slice Ao19 t315.length co19)) (fun _ hk => hk.2) (.slice Ao21 t318.length co21)) (fun _ hk => hk.2) (.slice Ao23 t321.length co23)) (fun _ hk => hk.2) (.slice Ao25 t324.length co25)); refine goesL_ (some 21) rfl rfl Try.func43 (by kernel_rfl) rfl #[.agg #[.int .i64 t314, .slice Ao19 t315.length co19, .slice Ao21 t318.length co21, .slice Ao23 t321.length co23, .slice Ao25 t324.length co25]] rfl (by (try simp only [List.map_toArray, List.map_cons, List.map_nil]); first | done | rfl | (simp only [List.length_drop, List.length_take]; rfl)) ?_; (with_reducible refine (spiritlevelref26_As.calls k t314 _ _ t315 _ _ t318 _ _ t321 _ _ t324 t331 t332 t335 t338 t341 t344 t345 t346 t349 t352 t355 t358 _ ?side1 ?side2 ?side3 ?side4 ?side5 ?side6 ?side7 ?side8 A6.out).mono ?_); (case side1 => refine (Kd.R_reads' (e := 86) (base := w.heap.size) (ok := fun k_ => True) (n := t315.length) (c := co19) ?_).2.2; exact (rl_ (Kd.R_mono q1_.out (fun _ h_ => h_.1)))); (case side2 => exact (Kd.R_reads' HO317.out).2.1); (case side3 => refine (Kd.R_reads' (e := 67) (base := w.heap.size) (ok := fun k_ => True) (n := t318.length) (c := co21) ?_).2.2; exact (rl_ (Kd.R_mono q2_.out (fun _ h_ => h_.1)))); (case side4 => exact (Kd.R_reads' HO320.out).2.1); (case side5 => refine (Kd.R_reads' (e := 3) (base := w.heap.size) (ok := fun k_ => (some k_ ≠ (v312 : Value).ownBlock ∧ (some k_ ≠ (.slice Ao25 t324.length co25 : Value).ownBlock ∧ some k_ ≠ (v328 : Value).ownBlock))) (n := t321.length) (c := co23) ?_).2.2; exact (rl_ (Kd.R_mono q3_.out (fun _ h_ => h_.1)))); (case side6 => exact (Kd.R_reads' HO323.out).2.1); (case side7 => refine (Kd.R_reads' (e := 3) (base := w.heap.size) (ok := fun k_ => (some k_ ≠ (v312 : Value).ownBlock ∧ (some k_ ≠ (.slice Ao23 t321.length co23 : Value).ownBlock ∧ some k_ ≠ (v328 : Value).ownBlock))) (n := t324.length) (c := co25) ?_).2.2; exact (rl_ (Kd.R_mono q4_.out (fun _ h_ => h_.1)))); (case side8 => exact (Kd.R_reads' HO326.out).2.1); rintro e w30 ⟨v333, v336, v339, v342, v347, v350, v353, v356, rfl, ho0, ho1, ho2, ho3, ho4, ho5, ho6, ho7, hb⟩; refine ⟨_, rfl, ?_⟩; have n0_ := M_ (Kd.R_mono (Kd.R_told (Kd.R_told (Kd.R_told (Kd.R_told (Kd.R_old (rl_ (Kd.R_mono q5_.out (fun _ h_ => h_.1))) hb) (Kd.R_base ho2)) (Kd.R_base ho3)) (Kd.R_base ho4)) (Kd.R_base ho6)) (fun _ h_ => h_.1)); have n1_ := M_ (Kd.R_elder' (rl_ (Kd.R_mono q1_.out (fun _ h_ => h_.1))) (Kd.R_base ho0) hb); have n2_ := M_ (Kd.R_mono (Kd.R_told (Kd.R_told (Kd.R_old (rl_ (Kd.R_mono q2_.out (fun _ h_ => h_.1))) hb) (Kd.R_base ho1)) (Kd.R_base ho7)) (fun _ h_ => h_.1)); have n3_ := M_ (Kd.R_mono (Kd.R_told (Kd.R_told (Kd.R_told (Kd.R_told (Kd.R_old (rl_ (Kd.R_mono q3_.out (fun _ h_ => h_.1))) hb) (Kd.R_base ho2)) (Kd.R_base ho3)) (Kd.R_base ho4)) (Kd.R_base ho6)) (fun _ h_ => h_.1)); have n4_ := M_ (Kd.R_mono (Kd.R_told (Kd.R_told (Kd.R_told (Kd.R_told (Kd.R_old (rl_ (Kd.R_mono q4_.out (fun _ h_ => h_.1))) hb) (Kd.R_base ho2)) (Kd.R_base ho3)) (Kd.R_base ho4)) (Kd.R_base ho6)) (fun _ h_ => h_.1)); have n5_ := M_ (Kd.R_mono (Kd.R_told (Kd.R_told (Kd.R_told (Kd.R_told (Kd.R_old (rl_ (Kd.R_mono q6_.out (fun _ h_ => h_.1))) hb) (Kd.R_base ho2)) (Kd.R_base ho3)) (Kd.R_base ho4)) (Kd.R_base ho6)) (fun _ h_ => h_.1)); have n6_ := M_ (Kd.R_lower (Kd.R_new' ho0 (Kd.R_lt (rl_ (Kd.R_mono q1_.out (fun _ h_ => h_.1))))) (below_size (ws_ HB.out))); have n7_ := M_ (Kd.R_lower (Kd.R_new' ho1 (Kd.R_lt (rl_ (Kd.R_mono q2_.out (fun _ h_ => h_.1))))) (below_size (ws_ HB.out))); have n8_ := M_ (Kd.R_lower (Kd.R_new' (Kd.R_new' (Kd.R_new' (Kd.R_new' ho2 (Kd.R_lt (rl_ (Kd.R_mono q5_.out (fun _ h_ => h_.1))))) (Kd.R_lt (rl_ (Kd.R_mono q3_.out (fun _ h_ => h_.1))))) (Kd.R_lt (rl_ (Kd.R_mono q4_.out (fun _ h_ => h_.1))))) (Kd.R_lt (rl_ (Kd.R_mono q6_.out (fun _ h_ => h_.1))))) (below_size (ws_ HB.out))); have n9_ := M_ (Kd.R_lower (Kd.R_new' (Kd.R_new' (Kd.R_new' (Kd.R_new' ho3 (Kd.R_lt (rl_ (Kd.R_mono q5_.out (fun _ h_ => h_.1))))) (Kd.R_lt (rl_ (Kd.R_mono q3_.out (fun _ h_ => h_.1))))) (Kd.R_lt (rl_ (Kd.R_mono q4_.out (fun _ h_ => h_.1))))) (Kd.R_lt (rl_ (Kd.R_mono q6_.out (fun _ h_ => h_.1))))) (below_size (ws_ HB.out))); have n10_ := M_ (Kd.R_lower (Kd.R_new' (Kd.R_new' (Kd.R_new' (Kd.R_new' ho4 (Kd.R_lt (rl_ (Kd.R_mono q5_.out (fun _ h_ => h_.1))))) (Kd.R_lt (rl_ (Kd.R_mono q3_.out (fun _ h_ => h_.1))))) (Kd.R_lt (rl_ (Kd.R_mono q4_.out (fun _ h_ => h_.1))))) (Kd.R_lt (rl_ (Kd.R_mono q6_.out (fun _ h_ => h_.1))))) (below_size (ws_ HB.out))); have n11_ := M_ (Kd.S_lower (Kd.S_new' (Kd.S_new' (Kd.S_new' (Kd.S_new' ho5 (Kd.R_lt (rl_ (Kd.R_mono q5_.out (fun _ h_ => h_.1))))) (Kd.R_lt (rl_ (Kd.R_mono q3_.out (fun _ h_ => h_.1))))) (Kd.R_lt (rl_ (Kd.R_mono q4_.out (fun _ h_ => h_.1))))) (Kd.R_lt (rl_ (Kd.R_mono q6_.out (fun _ h_ => h_.1))))) (below_size (ws_ HB.out))); have n12_ := M_ (Kd.R_lower (Kd.R_new' (Kd.R_new' (Kd.R_new' (Kd.R_new' ho6 (Kd.R_lt (rl_ (Kd.R_mono q5_.out (fun _ h_ => h_.1))))) (Kd.R_lt (rl_ (Kd.R_mono q3_.out (fun _ h_ => h_.1))))) (Kd.R_lt (rl_ (Kd.R_mono q4_.out (fun _ h_ => h_.1))))) (Kd.R_lt (rl_ (Kd.R_mono q6_.out (fun _ h_ => h_.1))))) (below_size (ws_ HB.out))); have n13_ := M_ (Kd.R_lower (Kd.R_new' ho7 (Kd.R_lt (rl_ (Kd.R_mono q2_.out (fun _ h_ => h_.1))))) (below_size (ws_ HB.out))); have n14_ := M_ (blk_below (g := gb308) (o := .cells #[.int .i64 a0_0, .slice A0_1 l0_1.length c0_1, .slice A0_2 l0_2.length c0_2, .slice A0_3 l0_3.length c0_3, .slice A0_4 l0_4.length c0_4] 26 (0, 0)) (by (with_reducible repeat (first | refine blk_drewN ?_ _ | refine blk_drew ?_ | refine blk_alloc ?_ _)); refine blk_far ?_ NB308_330.out _; (with_reducible repeat (first | refine blk_drewN ?_ _ | refine blk_drew ?_ | refine blk_alloc ?_ _)); refine blk_far ?_ NB308_330.out _; (with_reducible repeat (first | refine blk_drewN ?_ _ | refine blk_drew ?_ | refine blk_alloc ?_ _)); refine blk_far ?_ NB308_330.out _; (with_reducible repeat (first | refine blk_drewN ?_ _ | refine blk_drew ?_ | refine blk_alloc ?_ _)); refine blk_far ?_ NB308_330.out _; (with_reducible repeat (first | refine blk_drewN ?_ _ | refine blk_drew ?_ | refine blk_alloc ?_ _)); refine blk_far ?_ NB308_330.out _; (with_reducible repeat (first | refine blk_drewN ?_ _ | refine blk_drew ?_ | refine blk_alloc ?_ _)); exact BK308.out) hb); have n15_ := M_ (blk_below (g := gb309) (o := .cells #[.int .i64 0, .slice none 0 0, .slice none 0 0, .slice none 0 0, .slice none 0 0, .int .i64 0, .int .i64 0, .slice none 0 0, .slice none 0 0, .slice none 0 0, .slice none 0 0, .int .i64 0] 55 (0, 0)) (by (with_reducible repeat (first | refine blk_drewN ?_ _ | refine blk_drew ?_ | refine blk_alloc ?_ _)); refine blk_far ?_ NB309_330.out _; (with_reducible repeat (first | refine blk_drewN ?_ _ | refine blk_drew ?_ | refine blk_alloc ?_ _)); refine blk_far ?_ NB309_330.out _; (with_reducible repeat (first | refine blk_drewN ?_ _ | refine blk_drew ?_ | refine blk_alloc ?_ _)); refine blk_far ?_ NB309_330.out _; (with_reducible repeat (first | refine blk_drewN ?_ _ | refine blk_drew ?_ | refine blk_alloc ?_ _)); refine blk_far ?_ NB309_330.out _; (with_reducible repeat (first | refine blk_drewN ?_ _ | refine blk_drew ?_ | refine blk_alloc ?_ _)); refine blk_far ?_ NB309_330.out _; (with_reducible repeat (first | refine blk_drewN ?_ _ | refine blk_drew ?_ | refine blk_alloc ?_ _)); exact BK309.out) hb); have n16_ := M_ (blk_below (g := gb330) (o := .cells #[.int .i64 t314, .slice Ao19 t315.length co19, .slice Ao21 t318.length co21, .slice Ao23 t321.length co23, .slice Ao25 t324.length co25] 26 (0, 0)) (by (with_reducible repeat (first | refine blk_drewN ?_ _ | refine blk_drew ?_ | refine blk_alloc ?_ _)); refine blk_put (cs := #[.int .i64 t314, .slice Ao19 t315.length co19, .slice Ao21 t318.length co21, .slice Ao23 t321.length co23, .slice none 0 0]) ?_ 4 _ rfl; (with_reducible repeat (first | refine blk_drewN ?_ _ | refine blk_drew ?_ | refine blk_alloc ?_ _)); refine blk_put (cs := #[.int .i64 t314, .slice Ao19 t315.length co19, .slice Ao21 t318.length co21, .slice none 0 0, .slice none 0 0]) ?_ 3 _ rfl; (with_reducible repeat (first | refine blk_drewN ?_ _ | refine blk_drew ?_ | refine blk_alloc ?_ _)); refine blk_put (cs := #[.int .i64 t314, .slice Ao19 t315.length co19, .slice none 0 0, .slice none 0 0, .slice none 0 0]) ?_ 2 _ rfl; (with_reducible repeat (first | refine blk_drewN ?_ _ | refine blk_drew ?_ | refine blk_alloc ?_ _)); refine blk_put (cs := #[.int .i64 t314, .slice none 0 0, .slice none 0 0, .slice none 0 0, .slice none 0 0]) ?_ 1 _ rfl; (with_reducible repeat (first | refine blk_drewN ?_ _ | refine blk_drew ?_ | refine blk_alloc ?_ _)); refine blk_put (cs := #[.int .i64 0, .slice none 0 0, .slice none 0 0, .slice none 0 0, .slice none 0 0]) ?_ 0 _ rfl; (with_reducible repeat (first | refine blk_drewN ?_ _ | refine blk_drew ?_ | refine blk_alloc ?_ _)); exact BK330.out) hb); clear HO313; clear HO317; clear HO320; clear HO323; clear HO326; clear HO329; clear BK308; clear BK309; clear BK330; have HO313 := n0_; have HO317 := n1_; have HO320 := n2_; have HO323 := n3_; have HO326 := n4_; have HO329 := n5_; have HO334 := n6_; have HO337 := n7_; have HO340 := n8_; have HO343 := n9_; have HO348 := n10_; have HO351 := n11_; have HO354 := n12_; have HO357 := n13_; have BK308 := n14_; have BK309 := n15_; have BK330 := n16_; replace HB := wb_ HB hb; clear n0_ n1_ n2_ n3_ n4_ n5_ n6_ n7_ n8_ n9_ n10_ n11_ n12_ n13_ n14_ n15_ n16_; (try clear hb); (try clear hb2); (try clear hk); (try clear hi); (try clear ho0); (try clear ho1); (try clear ho2); (try clear ho3); (try clear ho4); (try clear ho5); (try clear ho6); (try clear ho7); have hcz31_0 : w30.cell? ⟨gb309, 0, none⟩ = some (.int .i64 0) := (blk_cell BK309.out 0).trans rfl; have hcz31_1 : w30.cell? ⟨gb309, 1, none⟩ = some (.slice none 0 0) := (blk_cell BK309.out 1).trans rfl; have hcz31_2 : w30.cell? ⟨gb309, 2, none⟩ = some (.slice none 0 0) := (blk_cell BK309.out 2).trans rfl; have hcz31_3 : w30.cell? ⟨gb309, 3, none⟩ = some (.slice none 0 0) := (blk_cell BK309.out 3).trans rfl; have hcz31_4 : w30.cell? ⟨gb309, 4, none⟩ = some (.slice none 0 0) := (blk_cell BK309.out 4).trans rfl; have hcz31_5 : w30.cell? ⟨gb309, 5, none⟩ = some (.int .i64 0) := (blk_cell BK309.out 5).trans rfl; have hcz31_6 : w30.cell? ⟨gb309, 6, none⟩ = some (.int .i64 0) := (blk_cell BK309.out 6).trans rfl; have hcz31_7 : w30.cell? ⟨gb309, 7, none⟩ = some (.slice none 0 0) := (blk_cell BK309.out 7).trans rfl; have hcz31_8 : w30.cell? ⟨gb309, 8, none⟩ = some (.slice none 0 0) := (blk_cell BK309.out 8).trans rfl; have hcz31_9 : w30.cell? ⟨gb309, 9, none⟩ = some (.slice none 0 0) := (blk_cell BK309.out 9).trans rfl; have hcz31_10 : w30.cell? ⟨gb309, 10, none⟩ = some (.slice none 0 0) := (blk_cell BK309.out 10).trans rfl; have hcz31_11 : w30.cell? ⟨gb309, 11, none⟩ = some (.int .i64 0) := (blk_cell BK309.out 11).trans rfl; have hfz31_0 := blk_frozen BK309.out 0; have hfz31_1 := blk_frozen BK309.out 1; have hfz31_2 := blk_frozen BK309.out 2; have hfz31_3 := blk_frozen BK309.out 3; have hfz31_4 := blk_frozen BK309.out 4; have hfz31_5 := blk_frozen BK309.out 5; have hfz31_6 := blk_frozen BK309.out 6; have hfz31_7 := blk_frozen BK309.out 7; have hfz31_8 := blk_frozen BK309.out 8; have hfz31_9 := blk_frozen BK309.out 9; have hfz31_10 := blk_frozen BK309.out 10; have hfz31_11 := blk_frozen BK309.out 11; obtain ⟨Ao32, co32, eo32⟩ := Kd.R_slice HO334.out; subst eo32; obtain ⟨Ao33, co33, eo33⟩ := Kd.R_slice HO337.out; subst eo33; obtain ⟨Ao34, co34, eo34⟩ := Kd.R_slice HO340.out; subst eo34; obtain ⟨Ao35, co35, eo35⟩ := Kd.R_slice HO343.out; subst eo35; obtain ⟨Ao36, co36, eo36⟩ := Kd.R_slice HO348.out; subst eo36; obtain ⟨Ao37, co37, eo37⟩ := Kd.S_slice HO351.out; subst eo37; obtain ⟨Ao38, co38, eo38⟩ := Kd.R_slice HO354.out; subst eo38; obtain ⟨Ao39, co39, eo39⟩ := Kd.R_slice HO357.out; subst eo39))
  refine bodyPost_ret (results_ct rfl _ _ gb309 55 #[.int .i64 t331, .slice Ao32 t332.length co32, .slice Ao33 t335.length co33, .slice Ao34 t338.length co34, .slice Ao35 t341.length co35, .int .i64 t344, .int .i64 t345, .slice Ao36 t346.length co36, .slice Ao37 t349.length co37, .slice Ao38 t352.length co38, .slice Ao39 t355.length co39, .int .i64 t358] (0, 0) _ rfl (by (with_reducible repeat (first | refine blk_drewN ?_ _ | refine blk_drew ?_ | refine blk_alloc ?_ _)); refine blk_put (cs := #[.int .i64 t331, .slice Ao32 t332.length co32, .slice Ao33 t335.length co33, .slice Ao34 t338.length co34, .slice Ao35 t341.length co35, .int .i64 t344, .int .i64 t345, .slice Ao36 t346.length co36, .slice Ao37 t349.length co37, .slice Ao38 t352.length co38, .slice Ao39 t355.length co39, .int .i64 0]) ?_ 11 _ rfl; (with_reducible repeat (first | refine blk_drewN ?_ _ | refine blk_drew ?_ | refine blk_alloc ?_ _)); refine blk_put (cs := #[.int .i64 t331, .slice Ao32 t332.length co32, .slice Ao33 t335.length co33, .slice Ao34 t338.length co34, .slice Ao35 t341.length co35, .int .i64 t344, .int .i64 t345, .slice Ao36 t346.length co36, .slice Ao37 t349.length co37, .slice Ao38 t352.length co38, .slice none 0 0, .int .i64 0]) ?_ 10 _ rfl; (with_reducible repeat (first | refine blk_drewN ?_ _ | refine blk_drew ?_ | refine blk_alloc ?_ _)); refine blk_put (cs := #[.int .i64 t331, .slice Ao32 t332.length co32, .slice Ao33 t335.length co33, .slice Ao34 t338.length co34, .slice Ao35 t341.length co35, .int .i64 t344, .int .i64 t345, .slice Ao36 t346.length co36, .slice Ao37 t349.length co37, .slice none 0 0, .slice none 0 0, .int .i64 0]) ?_ 9 _ rfl; (with_reducible repeat (first | refine blk_drewN ?_ _ | refine blk_drew ?_ | refine blk_alloc ?_ _)); refine blk_put (cs := #[.int .i64 t331, .slice Ao32 t332.length co32, .slice Ao33 t335.length co33, .slice Ao34 t338.length co34, .slice Ao35 t341.length co35, .int .i64 t344, .int .i64 t345, .slice Ao36 t346.length co36, .slice none 0 0, .slice none 0 0, .slice none 0 0, .int .i64 0]) ?_ 8 _ rfl; (with_reducible repeat (first | refine blk_drewN ?_ _ | refine blk_drew ?_ | refine blk_alloc ?_ _)); refine blk_put (cs := #[.int .i64 t331, .slice Ao32 t332.length co32, .slice Ao33 t335.length co33, .slice Ao34 t338.length co34, .slice Ao35 t341.length co35, .int .i64 t344, .int .i64 t345, .slice none 0 0, .slice none 0 0, .slice none 0 0, .slice none 0 0, .int .i64 0]) ?_ 7 _ rfl; (with_reducible repeat (first | refine blk_drewN ?_ _ | refine blk_drew ?_ | refine blk_alloc ?_ _)); refine blk_put (cs := #[.int .i64 t331, .slice Ao32 t332.length co32, .slice Ao33 t335.length co33, .slice Ao34 t338.length co34, .slice Ao35 t341.length co35, .int .i64 t344, .int .i64 0, .slice none 0 0, .slice none 0 0, .slice none 0 0, .slice none 0 0, .int .i64 0]) ?_ 6 _ rfl; (with_reducible repeat (first | refine blk_drewN ?_ _ | refine blk_drew ?_ | refine blk_alloc ?_ _)); refine blk_put (cs := #[.int .i64 t331, .slice Ao32 t332.length co32, .slice Ao33 t335.length co33, .slice Ao34 t338.length co34, .slice Ao35 t341.length co35, .int .i64 0, .int .i64 0, .slice none 0 0, .slice none 0 0, .slice none 0 0, .slice none 0 0, .int .i64 0]) ?_ 5 _ rfl; (with_reducible repeat (first | refine blk_drewN ?_ _ | refine blk_drew ?_ | refine blk_alloc ?_ _)); refine blk_put (cs := #[.int .i64 t331, .slice Ao32 t332.length co32, .slice Ao33 t335.length co33, .slice Ao34 t338.length co34, .slice none 0 0, .int .i64 0, .int .i64 0, .slice none 0 0, .slice none 0 0, .slice none 0 0, .slice none 0 0, .int .i64 0]) ?_ 4 _ rfl; (with_reducible repeat (first | refine blk_drewN ?_ _ | refine blk_drew ?_ | refine blk_alloc ?_ _)); refine blk_put (cs := #[.int .i64 t331, .slice Ao32 t332.length co32, .slice Ao33 t335.length co33, .slice none 0 0, .slice none 0 0, .int .i64 0, .int .i64 0, .slice none 0 0, .slice none 0 0, .slice none 0 0, .slice none 0 0, .int .i64 0]) ?_ 3 _ rfl; (with_reducible repeat (first | refine blk_drewN ?_ _ | refine blk_drew ?_ | refine blk_alloc ?_ _)); refine blk_put (cs := #[.int .i64 t331, .slice Ao32 t332.length co32, .slice none 0 0, .slice none 0 0, .slice none 0 0, .int .i64 0, .int .i64 0, .slice none 0 0, .slice none 0 0, .slice none 0 0, .slice none 0 0, .int .i64 0]) ?_ 2 _ rfl; (with_reducible repeat (first | refine blk_drewN ?_ _ | refine blk_drew ?_ | refine blk_alloc ?_ _)); refine blk_put (cs := #[.int .i64 t331, .slice none 0 0, .slice none 0 0, .slice none 0 0, .slice none 0 0, .int .i64 0, .int .i64 0, .slice none 0 0, .slice none 0 0, .slice none 0 0, .slice none 0 0, .int .i64 0]) ?_ 1 _ rfl; (with_reducible repeat (first | refine blk_drewN ?_ _ | refine blk_drew ?_ | refine blk_alloc ?_ _)); refine blk_put (cs := #[.int .i64 0, .slice none 0 0, .slice none 0 0, .slice none 0 0, .slice none 0 0, .int .i64 0, .int .i64 0, .slice none 0 0, .slice none 0 0, .slice none 0 0, .slice none 0 0, .int .i64 0]) ?_ 0 _ rfl; (with_reducible repeat (first | refine blk_drewN ?_ _ | refine blk_drew ?_ | refine blk_alloc ?_ _)); exact BK309.out) Try.underlying55 rfl (by kernel_rfl)) rfl ?_
  exact ⟨_, _, _, _, _, _, _, _, by first | rfl | (simp [errW_none, errW_some] <;> rfl) | (simp [*, errW_none, errW_some] <;> rfl), by (with_reducible repeat (first | apply a0_ | apply a1_ | apply a2_)); exact Kd.R_mono (Kd.R_far (p := ⟨gb309, 11, none⟩) (Kd.R_far (p := ⟨gb309, 10, none⟩) (Kd.R_far (p := ⟨gb309, 9, none⟩) (Kd.R_far (p := ⟨gb309, 8, none⟩) (Kd.R_far (p := ⟨gb309, 7, none⟩) (Kd.R_far (p := ⟨gb309, 6, none⟩) (Kd.R_far (p := ⟨gb309, 5, none⟩) (Kd.R_far (p := ⟨gb309, 4, none⟩) (Kd.R_far (p := ⟨gb309, 3, none⟩) (Kd.R_far (p := ⟨gb309, 2, none⟩) (Kd.R_far (p := ⟨gb309, 1, none⟩) (Kd.R_far (p := ⟨gb309, 0, none⟩) (Kd.R_types HO334.out BK309.out (by decide)) (fun _ hk => hk.2) (.int .i64 t331)) (fun _ hk => hk.2) (.slice Ao32 t332.length co32)) (fun _ hk => hk.2) (.slice Ao33 t335.length co33)) (fun _ hk => hk.2) (.slice Ao34 t338.length co34)) (fun _ hk => hk.2) (.slice Ao35 t341.length co35)) (fun _ hk => hk.2) (.int .i64 t344)) (fun _ hk => hk.2) (.int .i64 t345)) (fun _ hk => hk.2) (.slice Ao36 t346.length co36)) (fun _ hk => hk.2) (.slice Ao37 t349.length co37)) (fun _ hk => hk.2) (.slice Ao38 t352.length co38)) (fun _ hk => hk.2) (.slice Ao39 t355.length co39)) (fun _ hk => hk.2) (.int .i64 t358)) (fun _ hk => trivial), by (with_reducible repeat (first | apply a0_ | apply a1_ | apply a2_)); exact Kd.R_mono (Kd.R_far (p := ⟨gb309, 11, none⟩) (Kd.R_far (p := ⟨gb309, 10, none⟩) (Kd.R_far (p := ⟨gb309, 9, none⟩) (Kd.R_far (p := ⟨gb309, 8, none⟩) (Kd.R_far (p := ⟨gb309, 7, none⟩) (Kd.R_far (p := ⟨gb309, 6, none⟩) (Kd.R_far (p := ⟨gb309, 5, none⟩) (Kd.R_far (p := ⟨gb309, 4, none⟩) (Kd.R_far (p := ⟨gb309, 3, none⟩) (Kd.R_far (p := ⟨gb309, 2, none⟩) (Kd.R_far (p := ⟨gb309, 1, none⟩) (Kd.R_far (p := ⟨gb309, 0, none⟩) (Kd.R_types HO337.out BK309.out (by decide)) (fun _ hk => hk.2) (.int .i64 t331)) (fun _ hk => hk.2) (.slice Ao32 t332.length co32)) (fun _ hk => hk.2) (.slice Ao33 t335.length co33)) (fun _ hk => hk.2) (.slice Ao34 t338.length co34)) (fun _ hk => hk.2) (.slice Ao35 t341.length co35)) (fun _ hk => hk.2) (.int .i64 t344)) (fun _ hk => hk.2) (.int .i64 t345)) (fun _ hk => hk.2) (.slice Ao36 t346.length co36)) (fun _ hk => hk.2) (.slice Ao37 t349.length co37)) (fun _ hk => hk.2) (.slice Ao38 t352.length co38)) (fun _ hk => hk.2) (.slice Ao39 t355.length co39)) (fun _ hk => hk.2) (.int .i64 t358)) (fun _ hk => hk.1.1), by (with_reducible repeat (first | apply a0_ | apply a1_ | apply a2_)); exact Kd.R_mono (Kd.R_far (p := ⟨gb309, 11, none⟩) (Kd.R_far (p := ⟨gb309, 10, none⟩) (Kd.R_far (p := ⟨gb309, 9, none⟩) (Kd.R_far (p := ⟨gb309, 8, none⟩) (Kd.R_far (p := ⟨gb309, 7, none⟩) (Kd.R_far (p := ⟨gb309, 6, none⟩) (Kd.R_far (p := ⟨gb309, 5, none⟩) (Kd.R_far (p := ⟨gb309, 4, none⟩) (Kd.R_far (p := ⟨gb309, 3, none⟩) (Kd.R_far (p := ⟨gb309, 2, none⟩) (Kd.R_far (p := ⟨gb309, 1, none⟩) (Kd.R_far (p := ⟨gb309, 0, none⟩) (Kd.R_types HO340.out BK309.out (by decide)) (fun _ hk => hk.2) (.int .i64 t331)) (fun _ hk => hk.2) (.slice Ao32 t332.length co32)) (fun _ hk => hk.2) (.slice Ao33 t335.length co33)) (fun _ hk => hk.2) (.slice Ao34 t338.length co34)) (fun _ hk => hk.2) (.slice Ao35 t341.length co35)) (fun _ hk => hk.2) (.int .i64 t344)) (fun _ hk => hk.2) (.int .i64 t345)) (fun _ hk => hk.2) (.slice Ao36 t346.length co36)) (fun _ hk => hk.2) (.slice Ao37 t349.length co37)) (fun _ hk => hk.2) (.slice Ao38 t352.length co38)) (fun _ hk => hk.2) (.slice Ao39 t355.length co39)) (fun _ hk => hk.2) (.int .i64 t358)) (fun _ hk => ⟨hk.1.1.1.1.1.1, ⟨hk.1.1.1.1.1.2.1, hk.1.1.1.1.1.2.2⟩⟩), by (with_reducible repeat (first | apply a0_ | apply a1_ | apply a2_)); exact Kd.R_mono (Kd.R_far (p := ⟨gb309, 11, none⟩) (Kd.R_far (p := ⟨gb309, 10, none⟩) (Kd.R_far (p := ⟨gb309, 9, none⟩) (Kd.R_far (p := ⟨gb309, 8, none⟩) (Kd.R_far (p := ⟨gb309, 7, none⟩) (Kd.R_far (p := ⟨gb309, 6, none⟩) (Kd.R_far (p := ⟨gb309, 5, none⟩) (Kd.R_far (p := ⟨gb309, 4, none⟩) (Kd.R_far (p := ⟨gb309, 3, none⟩) (Kd.R_far (p := ⟨gb309, 2, none⟩) (Kd.R_far (p := ⟨gb309, 1, none⟩) (Kd.R_far (p := ⟨gb309, 0, none⟩) (Kd.R_types HO343.out BK309.out (by decide)) (fun _ hk => hk.2) (.int .i64 t331)) (fun _ hk => hk.2) (.slice Ao32 t332.length co32)) (fun _ hk => hk.2) (.slice Ao33 t335.length co33)) (fun _ hk => hk.2) (.slice Ao34 t338.length co34)) (fun _ hk => hk.2) (.slice Ao35 t341.length co35)) (fun _ hk => hk.2) (.int .i64 t344)) (fun _ hk => hk.2) (.int .i64 t345)) (fun _ hk => hk.2) (.slice Ao36 t346.length co36)) (fun _ hk => hk.2) (.slice Ao37 t349.length co37)) (fun _ hk => hk.2) (.slice Ao38 t352.length co38)) (fun _ hk => hk.2) (.slice Ao39 t355.length co39)) (fun _ hk => hk.2) (.int .i64 t358)) (fun _ hk => ⟨hk.1.1.1.1.1.1, ⟨hk.1.1.1.1.1.2.1, hk.1.1.1.1.1.2.2⟩⟩), by (with_reducible repeat (first | apply a0_ | apply a1_ | apply a2_)); exact Kd.R_mono (Kd.R_far (p := ⟨gb309, 11, none⟩) (Kd.R_far (p := ⟨gb309, 10, none⟩) (Kd.R_far (p := ⟨gb309, 9, none⟩) (Kd.R_far (p := ⟨gb309, 8, none⟩) (Kd.R_far (p := ⟨gb309, 7, none⟩) (Kd.R_far (p := ⟨gb309, 6, none⟩) (Kd.R_far (p := ⟨gb309, 5, none⟩) (Kd.R_far (p := ⟨gb309, 4, none⟩) (Kd.R_far (p := ⟨gb309, 3, none⟩) (Kd.R_far (p := ⟨gb309, 2, none⟩) (Kd.R_far (p := ⟨gb309, 1, none⟩) (Kd.R_far (p := ⟨gb309, 0, none⟩) (Kd.R_types HO348.out BK309.out (by decide)) (fun _ hk => hk.2) (.int .i64 t331)) (fun _ hk => hk.2) (.slice Ao32 t332.length co32)) (fun _ hk => hk.2) (.slice Ao33 t335.length co33)) (fun _ hk => hk.2) (.slice Ao34 t338.length co34)) (fun _ hk => hk.2) (.slice Ao35 t341.length co35)) (fun _ hk => hk.2) (.int .i64 t344)) (fun _ hk => hk.2) (.int .i64 t345)) (fun _ hk => hk.2) (.slice Ao36 t346.length co36)) (fun _ hk => hk.2) (.slice Ao37 t349.length co37)) (fun _ hk => hk.2) (.slice Ao38 t352.length co38)) (fun _ hk => hk.2) (.slice Ao39 t355.length co39)) (fun _ hk => hk.2) (.int .i64 t358)) (fun _ hk => ⟨hk.1.1.1.1.1.1, ⟨hk.1.1.1.1.1.2.1, hk.1.1.1.1.1.2.2⟩⟩), by (with_reducible repeat (first | apply Kd.S_alloc | apply Kd.S_drewN | apply Kd.S_drew)); exact Kd.S_mono (Kd.S_far (p := ⟨gb309, 11, none⟩) (Kd.S_far (p := ⟨gb309, 10, none⟩) (Kd.S_far (p := ⟨gb309, 9, none⟩) (Kd.S_far (p := ⟨gb309, 8, none⟩) (Kd.S_far (p := ⟨gb309, 7, none⟩) (Kd.S_far (p := ⟨gb309, 6, none⟩) (Kd.S_far (p := ⟨gb309, 5, none⟩) (Kd.S_far (p := ⟨gb309, 4, none⟩) (Kd.S_far (p := ⟨gb309, 3, none⟩) (Kd.S_far (p := ⟨gb309, 2, none⟩) (Kd.S_far (p := ⟨gb309, 1, none⟩) (Kd.S_far (p := ⟨gb309, 0, none⟩) (Kd.S_types HO351.out BK309.out (by decide)) (fun _ hk => hk.2) (.int .i64 t331)) (fun _ hk => hk.2) (.slice Ao32 t332.length co32)) (fun _ hk => hk.2) (.slice Ao33 t335.length co33)) (fun _ hk => hk.2) (.slice Ao34 t338.length co34)) (fun _ hk => hk.2) (.slice Ao35 t341.length co35)) (fun _ hk => hk.2) (.int .i64 t344)) (fun _ hk => hk.2) (.int .i64 t345)) (fun _ hk => hk.2) (.slice Ao36 t346.length co36)) (fun _ hk => hk.2) (.slice Ao37 t349.length co37)) (fun _ hk => hk.2) (.slice Ao38 t352.length co38)) (fun _ hk => hk.2) (.slice Ao39 t355.length co39)) (fun _ hk => hk.2) (.int .i64 t358)) (fun _ hk => ⟨hk.1.1.1.1.1.1, ⟨hk.1.1.1.1.1.2.1, ⟨hk.1.1.1.1.1.2.2.1, hk.1.1.1.1.1.2.2.2⟩⟩⟩), by (with_reducible repeat (first | apply a0_ | apply a1_ | apply a2_)); exact Kd.R_mono (Kd.R_far (p := ⟨gb309, 11, none⟩) (Kd.R_far (p := ⟨gb309, 10, none⟩) (Kd.R_far (p := ⟨gb309, 9, none⟩) (Kd.R_far (p := ⟨gb309, 8, none⟩) (Kd.R_far (p := ⟨gb309, 7, none⟩) (Kd.R_far (p := ⟨gb309, 6, none⟩) (Kd.R_far (p := ⟨gb309, 5, none⟩) (Kd.R_far (p := ⟨gb309, 4, none⟩) (Kd.R_far (p := ⟨gb309, 3, none⟩) (Kd.R_far (p := ⟨gb309, 2, none⟩) (Kd.R_far (p := ⟨gb309, 1, none⟩) (Kd.R_far (p := ⟨gb309, 0, none⟩) (Kd.R_types HO354.out BK309.out (by decide)) (fun _ hk => hk.2) (.int .i64 t331)) (fun _ hk => hk.2) (.slice Ao32 t332.length co32)) (fun _ hk => hk.2) (.slice Ao33 t335.length co33)) (fun _ hk => hk.2) (.slice Ao34 t338.length co34)) (fun _ hk => hk.2) (.slice Ao35 t341.length co35)) (fun _ hk => hk.2) (.int .i64 t344)) (fun _ hk => hk.2) (.int .i64 t345)) (fun _ hk => hk.2) (.slice Ao36 t346.length co36)) (fun _ hk => hk.2) (.slice Ao37 t349.length co37)) (fun _ hk => hk.2) (.slice Ao38 t352.length co38)) (fun _ hk => hk.2) (.slice Ao39 t355.length co39)) (fun _ hk => hk.2) (.int .i64 t358)) (fun _ hk => ⟨hk.1.1.1.1.1.1, ⟨hk.1.1.1.1.1.2.1, hk.1.1.1.1.1.2.2⟩⟩), by (with_reducible repeat (first | apply a0_ | apply a1_ | apply a2_)); exact Kd.R_mono (Kd.R_far (p := ⟨gb309, 11, none⟩) (Kd.R_far (p := ⟨gb309, 10, none⟩) (Kd.R_far (p := ⟨gb309, 9, none⟩) (Kd.R_far (p := ⟨gb309, 8, none⟩) (Kd.R_far (p := ⟨gb309, 7, none⟩) (Kd.R_far (p := ⟨gb309, 6, none⟩) (Kd.R_far (p := ⟨gb309, 5, none⟩) (Kd.R_far (p := ⟨gb309, 4, none⟩) (Kd.R_far (p := ⟨gb309, 3, none⟩) (Kd.R_far (p := ⟨gb309, 2, none⟩) (Kd.R_far (p := ⟨gb309, 1, none⟩) (Kd.R_far (p := ⟨gb309, 0, none⟩) (Kd.R_types HO357.out BK309.out (by decide)) (fun _ hk => hk.2) (.int .i64 t331)) (fun _ hk => hk.2) (.slice Ao32 t332.length co32)) (fun _ hk => hk.2) (.slice Ao33 t335.length co33)) (fun _ hk => hk.2) (.slice Ao34 t338.length co34)) (fun _ hk => hk.2) (.slice Ao35 t341.length co35)) (fun _ hk => hk.2) (.int .i64 t344)) (fun _ hk => hk.2) (.int .i64 t345)) (fun _ hk => hk.2) (.slice Ao36 t346.length co36)) (fun _ hk => hk.2) (.slice Ao37 t349.length co37)) (fun _ hk => hk.2) (.slice Ao38 t352.length co38)) (fun _ hk => hk.2) (.slice Ao39 t355.length co39)) (fun _ hk => hk.2) (.int .i64 t358)) (fun _ hk => hk.1.1), by repeat (first | (with_reducible first | exact HB.out | apply b0_ | apply b1_ | apply b2_ | refine below_set ?_ GE308.out | refine below_set ?_ GE309.out | refine below_set ?_ GE330.out) | exact HB.out)⟩
 ·rw [if_neg c3] at H
  have c3b0 : (t310 == 0) = false := beq_eq_false_iff_ne.mpr c3
  have c3b1 : (t310 != 0) = true := bne_iff_ne.mpr c3
  simp only [Option.some.injEq, Prod.mk.injEq] at H
  obtain ⟨rfl, rfl, rfl, rfl, rfl, rfl, rfl, rfl, rfl, rfl, rfl, rfl, rfl⟩ := H
  go_enter Try.func21, Try.ntmps21
  go_wp2_with (first | ((with_reducible refine gate_dst (N := 1) rfl ?_); refine box_event ?hg (N := 1) ?hd (cs := #[.int .i64 a0_0, .slice A0_1 l0_1.length c0_1, .slice A0_2 l0_2.length c0_2, .slice A0_3 l0_3.length c0_3, .slice A0_4 l0_4.length c0_4]) (t := 26) ?hr ?_; (case hd => rfl); (case hg => rfl); (case hr => first | (go_simp; done) | (go_simp; rfl)); intro gb308 hg w40 hbox hb; have n1_ := M_ (hbox); have n2_ := M_ ((by rw [hg]; exact (below_size (wl_ HB.out)) : w.heap.size ≤ gb308)); have n3_ := M_ ((by rw [hg]; exact (below_size (wl_ HB.out)) : w.heap.size ≤ gb308)); replace HB := wb_ HB hb; have BK308 := n1_; have GW308 := n2_; have GE308 := n3_; have gi308 : Ge _ _ := ⟨GE308.out⟩; clear n1_ n2_ n3_; clear hb hbox hg) | ((with_reducible refine gate_dst (N := 2) rfl ?_); refine box_event ?hg (N := 2) ?hd (cs := #[.int .i64 0, .slice none 0 0, .slice none 0 0, .slice none 0 0, .slice none 0 0, .int .i64 0, .int .i64 0, .slice none 0 0, .slice none 0 0, .slice none 0 0, .slice none 0 0, .int .i64 0]) (t := 55) ?hr ?_; (case hd => rfl); (case hg => rfl); (case hr => first | (go_simp; done) | (go_simp; rfl)); intro gb309 hg w41 hbox hb; have n2_ := M_ (hbox); have n3_ := M_ ((by rw [hg]; exact (below_size (ws_ HB.out)) : w.heap.size ≤ gb309)); have n4_ := M_ ((by rw [hg]; exact (below_size (ws_ HB.out)) : w.heap.size ≤ gb309)); have n5_ := M_ ((by rw [hg]; exact Nat.ne_of_lt (blk_lt (bl_ BK308.out)) : gb308 ≠ gb309)); have n6_ := M_ ((by rw [hg]; exact Nat.ne_of_gt (blk_lt (bl_ BK308.out)) : gb309 ≠ gb308)); replace BK308 := bb_ BK308 hb; replace HB := wb_ HB hb; have BK309 := n2_; have GW309 := n3_; have GE309 := n4_; have gi309 : Ge _ _ := ⟨GE309.out⟩; have NB308_309 := n5_; have NB309_308 := n6_; clear n2_ n3_ n4_ n5_ n6_; clear hb hbox hg; have hnb42 := NB308_309.out; have hnc42 := NB309_308.out; have hcz43_0 : w41.cell? ⟨gb308, 0, none⟩ = some (.int .i64 a0_0) := (blk_cell BK308.out 0).trans rfl; have hcz43_1 : w41.cell? ⟨gb308, 1, none⟩ = some (.slice A0_1 l0_1.length c0_1) := (blk_cell BK308.out 1).trans rfl; have hcz43_2 : w41.cell? ⟨gb308, 2, none⟩ = some (.slice A0_2 l0_2.length c0_2) := (blk_cell BK308.out 2).trans rfl; have hcz43_3 : w41.cell? ⟨gb308, 3, none⟩ = some (.slice A0_3 l0_3.length c0_3) := (blk_cell BK308.out 3).trans rfl; have hcz43_4 : w41.cell? ⟨gb308, 4, none⟩ = some (.slice A0_4 l0_4.length c0_4) := (blk_cell BK308.out 4).trans rfl; have hfz43_0 := blk_frozen BK308.out 0; have hfz43_1 := blk_frozen BK308.out 1; have hfz43_2 := blk_frozen BK308.out 2; have hfz43_3 := blk_frozen BK308.out 3; have hfz43_4 := blk_frozen BK308.out 4) | ((with_reducible refine gate_callee (f := 34) rfl ?_); refine goesL_ (some 8) rfl rfl Try.func34 (by kernel_rfl) rfl #[.agg #[.int .i64 a0_0, .slice A0_1 l0_1.length c0_1, .slice A0_2 l0_2.length c0_2, .slice A0_3 l0_3.length c0_3, .slice A0_4 l0_4.length c0_4]] rfl (by (try simp only [List.map_toArray, List.map_cons, List.map_nil]); first | done | rfl | (simp only [List.length_drop, List.length_take]; rfl)) ?_; (with_reducible refine (spiritlevelref02_Check.calls k a0_0 _ _ l0_1 _ _ l0_2 _ _ l0_3 _ _ l0_4 t310 _ ?side1 ?side2 ?side3 ?side4 ?side5 ?side6 ?side7 ?side8 A2.out).mono ?_); (case side1 => exact cl_ (Kd.C_below HR0_1.out HB.out)); (case side2 => exact HC0_1.out); (case side3 => exact cl_ (Kd.C_below HR0_2.out HB.out)); (case side4 => exact HC0_2.out); (case side5 => exact cl_ (Kd.C_below HR0_3.out HB.out)); (case side6 => exact HC0_3.out); (case side7 => exact cl_ (Kd.C_below HR0_4.out HB.out)); (case side8 => exact HC0_4.out); rintro e w44 ⟨rfl, hb⟩; refine ⟨_, rfl, ?_⟩; replace BK308 := bb_ BK308 hb; replace BK309 := bb_ BK309 hb; replace HB := wb_ HB hb; (try clear hb); (try clear hb2); (try clear hk); (try clear hi); have hcz45_0 : w44.cell? ⟨gb309, 0, none⟩ = some (.int .i64 0) := (blk_cell BK309.out 0).trans rfl; have hcz45_1 : w44.cell? ⟨gb309, 1, none⟩ = some (.slice none 0 0) := (blk_cell BK309.out 1).trans rfl; have hcz45_2 : w44.cell? ⟨gb309, 2, none⟩ = some (.slice none 0 0) := (blk_cell BK309.out 2).trans rfl; have hcz45_3 : w44.cell? ⟨gb309, 3, none⟩ = some (.slice none 0 0) := (blk_cell BK309.out 3).trans rfl; have hcz45_4 : w44.cell? ⟨gb309, 4, none⟩ = some (.slice none 0 0) := (blk_cell BK309.out 4).trans rfl; have hcz45_5 : w44.cell? ⟨gb309, 5, none⟩ = some (.int .i64 0) := (blk_cell BK309.out 5).trans rfl; have hcz45_6 : w44.cell? ⟨gb309, 6, none⟩ = some (.int .i64 0) := (blk_cell BK309.out 6).trans rfl; have hcz45_7 : w44.cell? ⟨gb309, 7, none⟩ = some (.slice none 0 0) := (blk_cell BK309.out 7).trans rfl; have hcz45_8 : w44.cell? ⟨gb309, 8, none⟩ = some (.slice none 0 0) := (blk_cell BK309.out 8).trans rfl; have hcz45_9 : w44.cell? ⟨gb309, 9, none⟩ = some (.slice none 0 0) := (blk_cell BK309.out 9).trans rfl; have hcz45_10 : w44.cell? ⟨gb309, 10, none⟩ = some (.slice none 0 0) := (blk_cell BK309.out 10).trans rfl; have hcz45_11 : w44.cell? ⟨gb309, 11, none⟩ = some (.int .i64 0) := (blk_cell BK309.out 11).trans rfl; have hfz45_0 := blk_frozen BK309.out 0; have hfz45_1 := blk_frozen BK309.out 1; have hfz45_2 := blk_frozen BK309.out 2; have hfz45_3 := blk_frozen BK309.out 3; have hfz45_4 := blk_frozen BK309.out 4; have hfz45_5 := blk_frozen BK309.out 5; have hfz45_6 := blk_frozen BK309.out 6; have hfz45_7 := blk_frozen BK309.out 7; have hfz45_8 := blk_frozen BK309.out 8; have hfz45_9 := blk_frozen BK309.out 9; have hfz45_10 := blk_frozen BK309.out 10; have hfz45_11 := blk_frozen BK309.out 11))
  refine bodyPost_ret (results_ct rfl _ _ gb309 55 #[.int .i64 0, .slice none 0 0, .slice none 0 0, .slice none 0 0, .slice none 0 0, .int .i64 0, .int .i64 0, .slice none 0 0, .slice none 0 0, .slice none 0 0, .slice none 0 0, .int .i64 0] (0, 0) _ rfl (by (with_reducible repeat (first | refine blk_drewN ?_ _ | refine blk_drew ?_ | refine blk_alloc ?_ _)); refine blk_put (cs := #[.int .i64 0, .slice none 0 0, .slice none 0 0, .slice none 0 0, .slice none 0 0, .int .i64 0, .int .i64 0, .slice none 0 0, .slice none 0 0, .slice none 0 0, .slice none 0 0, .int .i64 0]) ?_ 11 _ rfl; (with_reducible repeat (first | refine blk_drewN ?_ _ | refine blk_drew ?_ | refine blk_alloc ?_ _)); refine blk_put (cs := #[.int .i64 0, .slice none 0 0, .slice none 0 0, .slice none 0 0, .slice none 0 0, .int .i64 0, .int .i64 0, .slice none 0 0, .slice none 0 0, .slice none 0 0, .slice none 0 0, .int .i64 0]) ?_ 10 _ rfl; (with_reducible repeat (first | refine blk_drewN ?_ _ | refine blk_drew ?_ | refine blk_alloc ?_ _)); refine blk_put (cs := #[.int .i64 0, .slice none 0 0, .slice none 0 0, .slice none 0 0, .slice none 0 0, .int .i64 0, .int .i64 0, .slice none 0 0, .slice none 0 0, .slice none 0 0, .slice none 0 0, .int .i64 0]) ?_ 9 _ rfl; (with_reducible repeat (first | refine blk_drewN ?_ _ | refine blk_drew ?_ | refine blk_alloc ?_ _)); refine blk_put (cs := #[.int .i64 0, .slice none 0 0, .slice none 0 0, .slice none 0 0, .slice none 0 0, .int .i64 0, .int .i64 0, .slice none 0 0, .slice none 0 0, .slice none 0 0, .slice none 0 0, .int .i64 0]) ?_ 8 _ rfl; (with_reducible repeat (first | refine blk_drewN ?_ _ | refine blk_drew ?_ | refine blk_alloc ?_ _)); refine blk_put (cs := #[.int .i64 0, .slice none 0 0, .slice none 0 0, .slice none 0 0, .slice none 0 0, .int .i64 0, .int .i64 0, .slice none 0 0, .slice none 0 0, .slice none 0 0, .slice none 0 0, .int .i64 0]) ?_ 7 _ rfl; (with_reducible repeat (first | refine blk_drewN ?_ _ | refine blk_drew ?_ | refine blk_alloc ?_ _)); refine blk_put (cs := #[.int .i64 0, .slice none 0 0, .slice none 0 0, .slice none 0 0, .slice none 0 0, .int .i64 0, .int .i64 0, .slice none 0 0, .slice none 0 0, .slice none 0 0, .slice none 0 0, .int .i64 0]) ?_ 6 _ rfl; (with_reducible repeat (first | refine blk_drewN ?_ _ | refine blk_drew ?_ | refine blk_alloc ?_ _)); refine blk_put (cs := #[.int .i64 0, .slice none 0 0, .slice none 0 0, .slice none 0 0, .slice none 0 0, .int .i64 0, .int .i64 0, .slice none 0 0, .slice none 0 0, .slice none 0 0, .slice none 0 0, .int .i64 0]) ?_ 5 _ rfl; (with_reducible repeat (first | refine blk_drewN ?_ _ | refine blk_drew ?_ | refine blk_alloc ?_ _)); refine blk_put (cs := #[.int .i64 0, .slice none 0 0, .slice none 0 0, .slice none 0 0, .slice none 0 0, .int .i64 0, .int .i64 0, .slice none 0 0, .slice none 0 0, .slice none 0 0, .slice none 0 0, .int .i64 0]) ?_ 4 _ rfl; (with_reducible repeat (first | refine blk_drewN ?_ _ | refine blk_drew ?_ | refine blk_alloc ?_ _)); refine blk_put (cs := #[.int .i64 0, .slice none 0 0, .slice none 0 0, .slice none 0 0, .slice none 0 0, .int .i64 0, .int .i64 0, .slice none 0 0, .slice none 0 0, .slice none 0 0, .slice none 0 0, .int .i64 0]) ?_ 3 _ rfl; (with_reducible repeat (first | refine blk_drewN ?_ _ | refine blk_drew ?_ | refine blk_alloc ?_ _)); refine blk_put (cs := #[.int .i64 0, .slice none 0 0, .slice none 0 0, .slice none 0 0, .slice none 0 0, .int .i64 0, .int .i64 0, .slice none 0 0, .slice none 0 0, .slice none 0 0, .slice none 0 0, .int .i64 0]) ?_ 2 _ rfl; (with_reducible repeat (first | refine blk_drewN ?_ _ | refine blk_drew ?_ | refine blk_alloc ?_ _)); refine blk_put (cs := #[.int .i64 0, .slice none 0 0, .slice none 0 0, .slice none 0 0, .slice none 0 0, .int .i64 0, .int .i64 0, .slice none 0 0, .slice none 0 0, .slice none 0 0, .slice none 0 0, .int .i64 0]) ?_ 1 _ rfl; (with_reducible repeat (first | refine blk_drewN ?_ _ | refine blk_drew ?_ | refine blk_alloc ?_ _)); refine blk_put (cs := #[.int .i64 0, .slice none 0 0, .slice none 0 0, .slice none 0 0, .slice none 0 0, .int .i64 0, .int .i64 0, .slice none 0 0, .slice none 0 0, .slice none 0 0, .slice none 0 0, .int .i64 0]) ?_ 0 _ rfl; (with_reducible repeat (first | refine blk_drewN ?_ _ | refine blk_drew ?_ | refine blk_alloc ?_ _)); exact BK309.out) Try.underlying55 rfl (by kernel_rfl)) rfl ?_
  exact ⟨_, _, _, _, _, _, _, _, by first | rfl | (simp [errW_none, errW_some] <;> rfl) | (simp [*, errW_none, errW_some] <;> rfl), by first | exact Kd.R_nil _ _ _ _ _ | exact Kd.N_nil _ _ _ _ _ | exact Kd.V_nil _ _ _ _ _ | exact Kd.Q_nil _ _ _ _ _ | exact Kd.S_nil _ _ _ _ _, by first | exact Kd.R_nil _ _ _ _ _ | exact Kd.N_nil _ _ _ _ _ | exact Kd.V_nil _ _ _ _ _ | exact Kd.Q_nil _ _ _ _ _ | exact Kd.S_nil _ _ _ _ _, by first | exact Kd.R_nil _ _ _ _ _ | exact Kd.N_nil _ _ _ _ _ | exact Kd.V_nil _ _ _ _ _ | exact Kd.Q_nil _ _ _ _ _ | exact Kd.S_nil _ _ _ _ _, by first | exact Kd.R_nil _ _ _ _ _ | exact Kd.N_nil _ _ _ _ _ | exact Kd.V_nil _ _ _ _ _ | exact Kd.Q_nil _ _ _ _ _ | exact Kd.S_nil _ _ _ _ _, by first | exact Kd.R_nil _ _ _ _ _ | exact Kd.N_nil _ _ _ _ _ | exact Kd.V_nil _ _ _ _ _ | exact Kd.Q_nil _ _ _ _ _ | exact Kd.S_nil _ _ _ _ _, by first | exact Kd.S_nil _ _ _ _ _ | exact Kd.N_nil _ _ _ _ _ | exact Kd.V_nil _ _ _ _ _ | exact Kd.Q_nil _ _ _ _ _ | exact Kd.R_nil _ _ _ _ _, by first | exact Kd.R_nil _ _ _ _ _ | exact Kd.N_nil _ _ _ _ _ | exact Kd.V_nil _ _ _ _ _ | exact Kd.Q_nil _ _ _ _ _ | exact Kd.S_nil _ _ _ _ _, by first | exact Kd.R_nil _ _ _ _ _ | exact Kd.N_nil _ _ _ _ _ | exact Kd.V_nil _ _ _ _ _ | exact Kd.Q_nil _ _ _ _ _ | exact Kd.S_nil _ _ _ _ _, by repeat (first | (with_reducible first | exact HB.out | apply b0_ | apply b1_ | apply b2_ | refine below_set ?_ GE308.out | refine below_set ?_ GE309.out) | exact HB.out)⟩

end Go.Proofs.Ytnbccfecmpocaaa.QHashBuilds
