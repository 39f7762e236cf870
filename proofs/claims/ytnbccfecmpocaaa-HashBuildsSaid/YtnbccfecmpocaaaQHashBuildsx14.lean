-- Made by wip/myprint.sh (a patched print): a text of this session's own.
import Derived.Test.YtnbccfecmpocaaaLay
import Derived.Test.YtnbccfecmpocaaaQHashBuildsx0
import Derived.Test.YtnbccfecmpocaaaQHashBuildsx5
import Derived.Test.YtnbccfecmpocaaaQHashBuildsx7
import Derived.Test.YtnbccfecmpocaaaQHashBuildsx12
import Derived.Test.YtnbccfecmpocaaaQHashBuildsx13
namespace Go.Proofs.Ytnbccfecmpocaaa.QHashBuilds
open Go.RowKit Go.Proofs.YtnbccfecmpocaaaW.PrintWords Go.Proofs.YtnbccfecmpocaaaW.PrintLast Go.Proofs.YtnbccfecmpocaaaW.PrintMore
attribute [local go_sem] max2_int min2_int max_two min_two max_three min_three max_four min_four   -- for this text's walks alone
set_option linter.unusedVariables false
set_option linter.unusedSimpArgs false

/-! ### hash_Pass: function 20 -/
def hash_Pass.f (k : Nat) (a0_0 : Int) (l0_1 : List (S86)) (l0_2 : List (S67)) (l0_3 : List Int) (l0_4 : List Int) : Option (Int × (List (S86)) × (List (S67)) × List Int × List Int × Int × Int × List Int × (List (List Int)) × List Int × (List (S67)) × Int × Int) := (gates_Vars.f a0_0 l0_1 l0_2 l0_3 l0_4).bind fun bt205 => (if bt205.2 = 0 then ((slices_Repeat_int_int.f (([(-1)] : List Int)) (wrap64 (bt205.1 + 1))).bind fun t210 => ((hash_Build.f a0_0 l0_1 l0_2 l0_3 l0_4 t210).bind fun bt213 => ((lift_Identity.f k bt213.1 bt213.2.1 bt213.2.2.1 bt213.2.2.2.1 bt213.2.2.2.2.1).bind fun bt231 => (some (bt213.1, bt213.2.1, bt213.2.2.1, bt213.2.2.2.1, bt213.2.2.2.2.1, bt231.1, bt231.2.1, bt231.2.2.1, bt231.2.2.2.1, bt231.2.2.2.2.1, bt231.2.2.2.2.2.1, bt231.2.2.2.2.2.2.1, 0))))) else (some (0, ([] : List (S86)), ([] : List (S67)), ([] : List Int), ([] : List Int), 0, 0, ([] : List Int), ([] : List (List Int)), ([] : List Int), ([] : List (S67)), 0, bt205.2)))
theorem hash_Pass.mono : ∀ a0 a1 a2 a3 a4 k, LeO (hash_Pass.f k a0 a1 a2 a3 a4) (hash_Pass.f (k + 1) a0 a1 a2 a3 a4) := by
 intro a0 a1 a2 a3 a4 k
 unfold hash_Pass.f
 repeat' first
   | (with_reducible exact lift_Identity.mono _ _ _ _ _ _)
   | (with_reducible exact LeO.refl _)
   | (with_reducible exact LeO.none _)
   | (with_reducible refine LeO.ite ?_ ?_)
   | (with_reducible refine LeO.bind ?_ (fun _ => ?_))
   | exact lift_Identity.mono _ _ _ _ _ _
   | exact LeO.none _
   | refine LeO.ite ?_ ?_
   | refine LeO.bind ?_ (fun _ => ?_)
def hash_Pass.T4 : Bool × List (List Nat × List Nat) := (true, [([], []), ([], []), ([], []), ([2], [2]), ([1, 3], [1, 3]), ([0, 4, 4], [0, 4]), ([5], [5]), ([6], [6]), ([6], [6]), ([6], [6]), ([], []), ([10, 7, 5, 0, 1, 2, 3, 4, 5, 6, 7, 10], [7, 10]), ([8, 11, 0, 1, 2, 3, 4, 5, 6, 7, 8, 10, 11], [8]), ([9, 12, 0, 1, 2, 3, 4, 5, 6, 7, 8, 9, 10, 11, 12], [9])])
def hash_Pass.B4 : List Nat := [0, 0, 0, 4, 14, 31, 63, 127, 127, 127, 0, 1279, 3583, 8191]
theorem hash_Pass.tab4 : rtab .any (opsOf Try.f20 4) = hash_Pass.T4 := by kernel_rfl
theorem hash_Pass.bits4 : waitsOk hash_Pass.T4.2 hash_Pass.B4 = true := by kernel_rfl
set_option maxHeartbeats 8000000 in
set_option maxRecDepth 100000 in
theorem hash_Pass.calls (k : Nat) (a0_0 : Int) (A0_1 : Option Addr) (c0_1 : Nat) (l0_1 : List (S86)) (A0_2 : Option Addr) (c0_2 : Nat) (l0_2 : List (S67)) (A0_3 : Option Addr) (c0_3 : Nat) (l0_3 : List Int) (A0_4 : Option Addr) (c0_4 : Nat) (l0_4 : List Int) (r1 : Int) (r2 : List (S86)) (r3 : List (S67)) (r4 : List Int) (r5 : List Int) (r6 : Int) (r7 : Int) (r8 : List Int) (r9 : List (List Int)) (r10 : List Int) (r11 : List (S67)) (r12 : Int) (r13 : Int) (w : World) (hr0_1 : Kd.C k86 w A0_1 l0_1.length l0_1) (hc0_1 : l0_1.length ≤ c0_1) (hr0_2 : Kd.C k67 w A0_2 l0_2.length l0_2) (hc0_2 : l0_2.length ≤ c0_2) (hr0_3 : Kd.C (Kd.int .i64) w A0_3 l0_3.length l0_3) (hc0_3 : l0_3.length ≤ c0_3) (hr0_4 : Kd.C (Kd.int .i64) w A0_4 l0_4.length l0_4) (hc0_4 : l0_4.length ≤ c0_4) (h : hash_Pass.f k a0_0 l0_1 l0_2 l0_3 l0_4 = some (r1, r2, r3, r4, r5, r6, r7, r8, r9, r10, r11, r12, r13)) :
  Calls Try.prog 20 #[.agg #[.int .i64 a0_0, .slice A0_1 l0_1.length c0_1, .slice A0_2 l0_2.length c0_2, .slice A0_3 l0_3.length c0_3, .slice A0_4 l0_4.length c0_4]] w fun e w' => ∃ v1_ v2_ v3_ v4_ v7_ v8_ v9_ v10_ : Value, e = .returned (.tuple #[.agg #[.int .i64 r1, v1_, v2_, v3_, v4_, .int .i64 r6, .int .i64 r7, v7_, v8_, v9_, v10_, .int .i64 r12], .int .i64 r13]) ∧ Kd.R k86 86 w' w.heap.size (fun _ => True) v1_ r2 ∧ Kd.R k67 67 w' w.heap.size (fun k_ => some k_ ≠ (v10_ : Value).ownBlock) v2_ r3 ∧ Kd.R (Kd.int .i64) 3 w' w.heap.size (fun k_ => some k_ ≠ (v4_ : Value).ownBlock ∧ some k_ ≠ (v7_ : Value).ownBlock ∧ some k_ ≠ (v9_ : Value).ownBlock) v3_ r4 ∧ Kd.R (Kd.int .i64) 3 w' w.heap.size (fun k_ => some k_ ≠ (v3_ : Value).ownBlock ∧ some k_ ≠ (v7_ : Value).ownBlock ∧ some k_ ≠ (v9_ : Value).ownBlock) v4_ r5 ∧ Kd.R (Kd.int .i64) 3 w' w.heap.size (fun k_ => some k_ ≠ (v3_ : Value).ownBlock ∧ some k_ ≠ (v4_ : Value).ownBlock ∧ some k_ ≠ (v9_ : Value).ownBlock) v7_ r8 ∧ Kd.S (Kd.slice 3 (Kd.int .i64)) 24 w' w.heap.size (fun k_ => some k_ ≠ (v3_ : Value).ownBlock ∧ some k_ ≠ (v4_ : Value).ownBlock ∧ some k_ ≠ (v7_ : Value).ownBlock ∧ some k_ ≠ (v9_ : Value).ownBlock) v8_ r9 ∧ Kd.R (Kd.int .i64) 3 w' w.heap.size (fun k_ => some k_ ≠ (v3_ : Value).ownBlock ∧ some k_ ≠ (v4_ : Value).ownBlock ∧ some k_ ≠ (v7_ : Value).ownBlock) v9_ r10 ∧ Kd.R k67 67 w' w.heap.size (fun k_ => some k_ ≠ (v2_ : Value).ownBlock) v10_ r11 ∧ Below w.heap.size w w' := by
 have hu26 := Try.underlying26
 have hu55 := Try.underlying55
 have hu53 := Try.underlying53
 have HR0_1 := M_ hr0_1
 have HC0_1 := M_ hc0_1
 clear hr0_1 hc0_1
 have HR0_2 := M_ hr0_2
 have HC0_2 := M_ hc0_2
 clear hr0_2 hc0_2
 have HR0_3 := M_ hr0_3
 have HC0_3 := M_ hc0_3
 clear hr0_3 hc0_3
 have HR0_4 := M_ hr0_4
 have HC0_4 := M_ hc0_4
 clear hr0_4 hc0_4
 have HB := M_ (Below.refl w.heap.size w)
 have H : ((gates_Vars.f a0_0 l0_1 l0_2 l0_3 l0_4).bind fun bt205 => (if bt205.2 = 0 then ((slices_Repeat_int_int.f (([(-1)] : List Int)) (wrap64 (bt205.1 + 1))).bind fun t210 => ((hash_Build.f a0_0 l0_1 l0_2 l0_3 l0_4 t210).bind fun bt213 => ((lift_Identity.f k bt213.1 bt213.2.1 bt213.2.2.1 bt213.2.2.2.1 bt213.2.2.2.2.1).bind fun bt231 => (some (bt213.1, bt213.2.1, bt213.2.2.1, bt213.2.2.2.1, bt213.2.2.2.2.1, bt231.1, bt231.2.1, bt231.2.2.1, bt231.2.2.2.1, bt231.2.2.2.2.1, bt231.2.2.2.2.2.1, bt231.2.2.2.2.2.2.1, 0))))) else (some (0, ([] : List (S86)), ([] : List (S67)), ([] : List Int), ([] : List Int), 0, 0, ([] : List Int), ([] : List (List Int)), ([] : List Int), ([] : List (S67)), 0, bt205.2)))) = some (r1, r2, r3, r4, r5, r6, r7, r8, r9, r10, r11, r12, r13) := h
 clear h
 replace H := Option.bind_eq_some_iff.mp H
 obtain ⟨⟨t205, t206⟩, A20, H⟩ := H
 replace H : (if t206 = 0 then ((slices_Repeat_int_int.f (([(-1)] : List Int)) (wrap64 (t205 + 1))).bind fun t210 => ((hash_Build.f a0_0 l0_1 l0_2 l0_3 l0_4 t210).bind fun bt213 => ((lift_Identity.f k bt213.1 bt213.2.1 bt213.2.2.1 bt213.2.2.2.1 bt213.2.2.2.2.1).bind fun bt231 => (some (bt213.1, bt213.2.1, bt213.2.2.1, bt213.2.2.2.1, bt213.2.2.2.2.1, bt231.1, bt231.2.1, bt231.2.2.1, bt231.2.2.2.1, bt231.2.2.2.2.1, bt231.2.2.2.2.2.1, bt231.2.2.2.2.2.2.1, 0))))) else (some (0, ([] : List (S86)), ([] : List (S67)), ([] : List Int), ([] : List Int), 0, 0, ([] : List Int), ([] : List (List Int)), ([] : List Int), ([] : List (S67)), 0, t206))) = some (r1, r2, r3, r4, r5, r6, r7, r8, r9, r10, r11, r12, r13) := H
 have A2 := M_ A20
 clear A20
 by_cases c3 : t206 = 0
 ·rw [if_pos c3] at H
  have c3b0 : (t206 == 0) = true := beq_iff_eq.mpr c3
  have c3b1 : (t206 != 0) = false := bne_eq_false_iff_eq.mpr c3
  clear c3
  obtain ⟨y207, hy207⟩ : ∃ y_ : List Int, y_ = (([(-1)] : List Int)) := ⟨_, rfl⟩
  replace H : ((slices_Repeat_int_int.f y207 (wrap64 (t205 + 1))).bind fun t210 => ((hash_Build.f a0_0 l0_1 l0_2 l0_3 l0_4 t210).bind fun bt213 => ((lift_Identity.f k bt213.1 bt213.2.1 bt213.2.2.1 bt213.2.2.2.1 bt213.2.2.2.2.1).bind fun bt231 => (some (bt213.1, bt213.2.1, bt213.2.2.1, bt213.2.2.2.1, bt213.2.2.2.2.1, bt231.1, bt231.2.1, bt231.2.2.1, bt231.2.2.2.1, bt231.2.2.2.2.1, bt231.2.2.2.2.2.1, bt231.2.2.2.2.2.2.1, 0))))) = some (r1, r2, r3, r4, r5, r6, r7, r8, r9, r10, r11, r12, r13) := by first | (rw [hy207]; with_reducible exact H) | (have H2_ := (Option.bind_some _ _).symm.trans H; rw [hy207]; with_reducible exact H2_) | (have H2_ := (Option.bind_some _ _).symm.trans H; with_reducible exact H2_) | with_reducible exact H | (rw [hy207]; exact H) | exact H
  have Ny207 := M_ hy207
  clear hy207
  replace H := Option.bind_eq_some_iff.mp H
  obtain ⟨t210, A40, H⟩ := H
  replace H : ((hash_Build.f a0_0 l0_1 l0_2 l0_3 l0_4 t210).bind fun bt213 => ((lift_Identity.f k bt213.1 bt213.2.1 bt213.2.2.1 bt213.2.2.2.1 bt213.2.2.2.2.1).bind fun bt231 => (some (bt213.1, bt213.2.1, bt213.2.2.1, bt213.2.2.2.1, bt213.2.2.2.2.1, bt231.1, bt231.2.1, bt231.2.2.1, bt231.2.2.2.1, bt231.2.2.2.2.1, bt231.2.2.2.2.2.1, bt231.2.2.2.2.2.2.1, 0)))) = some (r1, r2, r3, r4, r5, r6, r7, r8, r9, r10, r11, r12, r13) := H
  have A4 := M_ A40
  clear A40
  replace H := Option.bind_eq_some_iff.mp H
  obtain ⟨⟨t213, t214, t217, t220, t223, t226, t229⟩, A50, H⟩ := H
  replace H : ((lift_Identity.f k t213 t214 t217 t220 t223).bind fun bt231 => (some (t213, t214, t217, t220, t223, bt231.1, bt231.2.1, bt231.2.2.1, bt231.2.2.2.1, bt231.2.2.2.2.1, bt231.2.2.2.2.2.1, bt231.2.2.2.2.2.2.1, 0))) = some (r1, r2, r3, r4, r5, r6, r7, r8, r9, r10, r11, r12, r13) := H
  have A5 := M_ A50
  clear A50
  replace H := Option.bind_eq_some_iff.mp H
  obtain ⟨⟨t231, t232, t233, t236, t239, t242, t245, t246⟩, A60, H⟩ := H
  replace H : (some (t213, t214, t217, t220, t223, t231, t232, t233, t236, t239, t242, t245, 0)) = some (r1, r2, r3, r4, r5, r6, r7, r8, r9, r10, r11, r12, r13) := H
  have A6 := M_ A60
  clear A60
  simp only [Option.some.injEq, Prod.mk.injEq] at H
  obtain ⟨rfl, rfl, rfl, rfl, rfl, rfl, rfl, rfl, rfl, rfl, rfl, rfl, rfl⟩ := H
  go_enter Try.func20, Try.ntmps20
  try go_wp2_with (first | ((with_reducible refine gate_dst (N := 1) rfl ?_); refine box_event ?hg (N := 1) ?hd (cs := #[.int .i64 a0_0, .slice A0_1 l0_1.length c0_1, .slice A0_2 l0_2.length c0_2, .slice A0_3 l0_3.length c0_3, .slice A0_4 l0_4.length c0_4]) (t := 26) ?hr ?_; (case hd => rfl); (case hg => rfl); (case hr => first | (go_simp; done) | (go_simp; rfl)); intro gb203 hg w7 hbox hb; have n1_ := M_ (hbox); have n2_ := M_ ((by rw [hg]; exact (below_size (wl_ HB.out)) : w.heap.size ≤ gb203)); have n3_ := M_ ((by rw [hg]; exact (below_size (wl_ HB.out)) : w.heap.size ≤ gb203)); replace HB := wb_ HB hb; have BK203 := n1_; have GW203 := n2_; have GE203 := n3_; have gi203 : Ge _ _ := ⟨GE203.out⟩; clear n1_ n2_ n3_; clear hb hbox hg) | ((with_reducible refine gate_dst (N := 2) rfl ?_); refine box_event ?hg (N := 2) ?hd (cs := #[.int .i64 0, .slice none 0 0, .slice none 0 0, .slice none 0 0, .slice none 0 0, .int .i64 0, .int .i64 0, .slice none 0 0, .slice none 0 0, .slice none 0 0, .slice none 0 0, .int .i64 0]) (t := 55) ?hr ?_; (case hd => rfl); (case hg => rfl); (case hr => first | (go_simp; done) | (go_simp; rfl)); intro gb204 hg w8 hbox hb; have n2_ := M_ (hbox); have n3_ := M_ ((by rw [hg]; exact (below_size (ws_ HB.out)) : w.heap.size ≤ gb204)); have n4_ := M_ ((by rw [hg]; exact (below_size (ws_ HB.out)) : w.heap.size ≤ gb204)); have n5_ := M_ ((by rw [hg]; exact Nat.ne_of_lt (blk_lt (bl_ BK203.out)) : gb203 ≠ gb204)); have n6_ := M_ ((by rw [hg]; exact Nat.ne_of_gt (blk_lt (bl_ BK203.out)) : gb204 ≠ gb203)); replace BK203 := bb_ BK203 hb; replace HB := wb_ HB hb; have BK204 := n2_; have GW204 := n3_; have GE204 := n4_; have gi204 : Ge _ _ := ⟨GE204.out⟩; have NB203_204 := n5_; have NB204_203 := n6_; clear n2_ n3_ n4_ n5_ n6_; clear hb hbox hg; have hnb9 := NB203_204.out; have hnc9 := NB204_203.out; have hcz10_0 : w8.cell? ⟨gb203, 0, none⟩ = some (.int .i64 a0_0) := (blk_cell BK203.out 0).trans rfl; have hcz10_1 : w8.cell? ⟨gb203, 1, none⟩ = some (.slice A0_1 l0_1.length c0_1) := (blk_cell BK203.out 1).trans rfl; have hcz10_2 : w8.cell? ⟨gb203, 2, none⟩ = some (.slice A0_2 l0_2.length c0_2) := (blk_cell BK203.out 2).trans rfl; have hcz10_3 : w8.cell? ⟨gb203, 3, none⟩ = some (.slice A0_3 l0_3.length c0_3) := (blk_cell BK203.out 3).trans rfl; have hcz10_4 : w8.cell? ⟨gb203, 4, none⟩ = some (.slice A0_4 l0_4.length c0_4) := (blk_cell BK203.out 4).trans rfl; have hfz10_0 := blk_frozen BK203.out 0; have hfz10_1 := blk_frozen BK203.out 1; have hfz10_2 := blk_frozen BK203.out 2; have hfz10_3 := blk_frozen BK203.out 3; have hfz10_4 := blk_frozen BK203.out 4) | ((with_reducible refine gate_callee (f := 30) rfl ?_); refine goesL_ (some 13) rfl rfl Try.func30 (by kernel_rfl) rfl #[.agg #[.int .i64 a0_0, .slice A0_1 l0_1.length c0_1, .slice A0_2 l0_2.length c0_2, .slice A0_3 l0_3.length c0_3, .slice A0_4 l0_4.length c0_4]] rfl (by (try simp only [List.map_toArray, List.map_cons, List.map_nil]); first | done | rfl | (simp only [List.length_drop, List.length_take]; rfl)) ?_; (with_reducible refine (gates_Vars.calls a0_0 _ _ l0_1 _ _ l0_2 _ _ l0_3 _ _ l0_4 t205 t206 _ ?side1 ?side2 ?side3 ?side4 ?side5 ?side6 ?side7 ?side8 A2.out).mono ?_); (case side1 => exact cl_ (Kd.C_below HR0_1.out HB.out)); (case side2 => exact HC0_1.out); (case side3 => exact cl_ (Kd.C_below HR0_2.out HB.out)); (case side4 => exact HC0_2.out); (case side5 => exact cl_ (Kd.C_below HR0_3.out HB.out)); (case side6 => exact HC0_3.out); (case side7 => exact cl_ (Kd.C_below HR0_4.out HB.out)); (case side8 => exact HC0_4.out); rintro e w11 ⟨rfl, hb⟩; refine ⟨_, rfl, ?_⟩; replace BK203 := bb_ BK203 hb; replace BK204 := bb_ BK204 hb; replace HB := wb_ HB hb; (try clear hb); (try clear hb2); (try clear hk); (try clear hi)))
  have n0_ := M_ (blk_drew BK203.out)
  have n1_ := M_ (blk_drew BK204.out)
  have n2_ := M_ (below_drew1 HB.out)
  clear BK203
  clear BK204
  clear HB
  have BK203 := n0_
  have BK204 := n1_
  have HB := n2_
  clear n0_ n1_ n2_
  refine start_ (n := 14) (S := fun w' => w'.cell? ⟨gb203, 0, none⟩ = some (.int .i64 a0_0) ∧ w'.cell? ⟨gb203, 1, none⟩ = some (.slice A0_1 l0_1.length c0_1) ∧ w'.cell? ⟨gb203, 2, none⟩ = some (.slice A0_2 l0_2.length c0_2) ∧ w'.cell? ⟨gb203, 3, none⟩ = some (.slice A0_3 l0_3.length c0_3) ∧ w'.cell? ⟨gb203, 4, none⟩ = some (.slice A0_4 l0_4.length c0_4)) (ds := []) z13_ (by kernel_rfl) rfl rfl ⟨(blk_cell BK203.out 0).trans rfl, (blk_cell BK203.out 1).trans rfl, (blk_cell BK203.out 2).trans rfl, (blk_cell BK203.out 3).trans rfl, (blk_cell BK203.out 4).trans rfl⟩ (fun hHeld => ?_); refine with_tabW hash_Pass.tab4 hash_Pass.bits4 (fun HT_ HW_ => ?_)
  generalize w11.drew = w12 at BK203 BK204 HB hHeld ⊢
  refine pure_ (i := 2) (N := some 23) (v := ?_) (a' := ?_) z14_ rfl rfl (any_of HT_.out (by kernel_rfl)) (fun _ _ _ h => h) (Or.inl ⟨by rfl, ?_⟩) ?_ ?_
  rotate_left
  ·intro w'
   go_simp
   with_reducible rfl
  rotate_left
  ·simp only [Act.put, e1_, e2_, e3_, i64_w, i32_w]
   rfl
  refine pure_ (i := 3) (N := some 24) (v := ?_) (a' := ?_) z15_ rfl rfl (any_of HT_.out (by kernel_rfl)) (fun _ _ _ h => h) (Or.inl ⟨by rfl, ?_⟩) ?_ ?_
  rotate_left
  ·intro w'
   go_simp
   with_reducible rfl
  rotate_left
  ·simp only [Act.put, e1_, e2_, e3_, i64_w, i32_w]
   rfl
  refine take_ (i := 0) (N := some 21) (v := ?_) (a' := ?_) z16_ rfl rfl (take_ofW HT_.out HW_.out (by kernel_rfl)) (fun _ _ _ h => h) (Or.inl ⟨by rfl, ?_⟩) hHeld ?_ ?_
  rotate_left
  ·rintro w' ⟨s0, s1, s2, s3, s4⟩
   go_simp
   with_reducible rfl
  rotate_left
  ·simp only [Act.put, e1_, e2_, e3_, i64_w, i32_w]
   rfl
  refine join_ (σ := Value × Value × Value × Value × Value × Value × Value × Nat) 3 z17_ (fun s_ => [(22, s_.1), (25, s_.2.1), (26, .tuple #[.agg #[.int .i64 t213, s_.2.2.1, s_.2.2.2.1, s_.2.2.2.2.1, s_.2.2.2.2.2.1], s_.2.2.2.2.2.2.1, .int .i64 t229]), (6, .pointer (some ⟨s_.2.2.2.2.2.2.2, 0, none⟩)), (20, .tuple #[.agg #[.int .i64 t213, s_.2.2.1, s_.2.2.2.1, s_.2.2.2.2.1, s_.2.2.2.2.2.1], s_.2.2.2.2.2.2.1, .int .i64 t229]), (27, .agg #[.int .i64 t213, s_.2.2.1, s_.2.2.2.1, s_.2.2.2.2.1, s_.2.2.2.2.2.1]), (28, s_.2.2.2.2.2.2.1), (29, .int .i64 t229)]) (fun s_ w' => (w'.cell? ⟨gb203, 0, none⟩ = some (.int .i64 a0_0) ∧ w'.cell? ⟨gb203, 1, none⟩ = some (.slice A0_1 l0_1.length c0_1) ∧ w'.cell? ⟨gb203, 2, none⟩ = some (.slice A0_2 l0_2.length c0_2) ∧ w'.cell? ⟨gb203, 3, none⟩ = some (.slice A0_3 l0_3.length c0_3) ∧ w'.cell? ⟨gb203, 4, none⟩ = some (.slice A0_4 l0_4.length c0_4)) ∧ (Kd.R (Kd.int .i64) 3 w' w.heap.size (fun k_ => some k_ ≠ (s_.2.1 : Value).ownBlock ∧ some k_ ≠ (s_.2.2.2.2.1 : Value).ownBlock ∧ some k_ ≠ (s_.2.2.2.2.2.1 : Value).ownBlock ∧ some k_ ≠ (s_.2.2.2.2.2.2.1 : Value).ownBlock) s_.1 y207) ∧ (Kd.R (Kd.int .i64) 3 w' w.heap.size (fun k_ => some k_ ≠ (s_.1 : Value).ownBlock ∧ some k_ ≠ (s_.2.2.2.2.1 : Value).ownBlock ∧ some k_ ≠ (s_.2.2.2.2.2.1 : Value).ownBlock ∧ some k_ ≠ (s_.2.2.2.2.2.2.1 : Value).ownBlock) s_.2.1 t210) ∧ (Kd.R k86 86 w' w.heap.size (fun _ => True) s_.2.2.1 t214) ∧ (Kd.R k67 67 w' w.heap.size (fun _ => True) s_.2.2.2.1 t217) ∧ (Kd.R (Kd.int .i64) 3 w' w.heap.size (fun k_ => some k_ ≠ (s_.1 : Value).ownBlock ∧ some k_ ≠ (s_.2.1 : Value).ownBlock ∧ some k_ ≠ (s_.2.2.2.2.2.1 : Value).ownBlock ∧ some k_ ≠ (s_.2.2.2.2.2.2.1 : Value).ownBlock) s_.2.2.2.2.1 t220) ∧ (Kd.R (Kd.int .i64) 3 w' w.heap.size (fun k_ => some k_ ≠ (s_.1 : Value).ownBlock ∧ some k_ ≠ (s_.2.1 : Value).ownBlock ∧ some k_ ≠ (s_.2.2.2.2.1 : Value).ownBlock ∧ some k_ ≠ (s_.2.2.2.2.2.2.1 : Value).ownBlock) s_.2.2.2.2.2.1 t223) ∧ (Kd.R (Kd.int .i64) 3 w' w.heap.size (fun k_ => some k_ ≠ (s_.1 : Value).ownBlock ∧ some k_ ≠ (s_.2.1 : Value).ownBlock ∧ some k_ ≠ (s_.2.2.2.2.1 : Value).ownBlock ∧ some k_ ≠ (s_.2.2.2.2.2.1 : Value).ownBlock) s_.2.2.2.2.2.2.1 t226) ∧ (w'.heap[gb203]? = some (.cells #[.int .i64 a0_0, .slice A0_1 l0_1.length c0_1, .slice A0_2 l0_2.length c0_2, .slice A0_3 l0_3.length c0_3, .slice A0_4 l0_4.length c0_4] 26 (0, 0))) ∧ (w'.heap[gb204]? = some (.cells #[.int .i64 0, .slice none 0 0, .slice none 0 0, .slice none 0 0, .slice none 0 0, .int .i64 0, .int .i64 0, .slice none 0 0, .slice none 0 0, .slice none 0 0, .slice none 0 0, .int .i64 0] 55 (0, 0))) ∧ (w'.heap[s_.2.2.2.2.2.2.2]? = some (.cells #[.int .i64 0, .slice none 0 0, .slice none 0 0, .slice none 0 0, .slice none 0 0] 26 (0, 0))) ∧ (w.heap.size ≤ s_.2.2.2.2.2.2.2) ∧ (w.heap.size ≤ s_.2.2.2.2.2.2.2) ∧ (gb203 ≠ s_.2.2.2.2.2.2.2) ∧ (s_.2.2.2.2.2.2.2 ≠ gb203) ∧ (gb204 ≠ s_.2.2.2.2.2.2.2) ∧ (s_.2.2.2.2.2.2.2 ≠ gb204) ∧ (Below w.heap.size w w')) ?_ ?_
  rotate_left
  ·intro hCont
   refine two_ (i := 1) (j := 10) (Ni := some 22) (Nj := some 6) z18_ z19_ rfl rfl rfl rfl (two_of HT_.out (by kernel_rfl)) (by decide) (by decide) (fun K hK => ?_) (fun K hK => ?_)
   ·skip
    refine Kd.R_lit_step (Kd.int .i64) _ 3 ?hg (N := 22) ?hd (xs := ([(-1)] : List Int)) (inner := [.int .i64 (-1)]) (ok := fun _ => True) (okp := fun _ => True) ?hr ?hp (fun _ hk => hk) trivial (Below.refl _ _) (Nat.le_refl _) (by simp) ?_; (case hd => rfl); (case hg => rfl); (case hr => first | (go_simp; done) | (go_simp; rfl)); (case hp => exact (Reps.one (show Kd.M (Kd.int .i64) _ _ _ (-1) [.int .i64 (-1)] from rfl) (Reps.none _ _)))
    intro v208 w13 ho14 hb hg_ hnew_
    clear hg_ hnew_
    (first | rw [← Ny207.out] at ho14 | (simp only [Int.reduceToNat] at ho14; rw [← Ny207.out] at ho14))
    have n0_ := M_ (Kd.R_lower ho14 (below_size (ws_ HB.out)))
    have n1_ := bb_ BK203 hb
    have n2_ := bb_ BK204 hb
    have n3_ := wb_ HB hb
    clear BK203
    clear BK204
    clear HB
    have HO209 := n0_
    have BK203 := n1_
    have BK204 := n2_
    have HB := n3_
    clear n0_ n1_ n2_ n3_
    clear hb ho14
    obtain ⟨Ao15, co15, eo15⟩ := Kd.R_slice HO209.out
    (first | subst eo15 | (injection eo15 with f1_ f2_ f3_; have f4_ := f1_.symm; have f5_ := f3_.symm; clear f1_ f2_ f3_; subst f4_; subst f5_))
    refine hK.out _ _ ⟨(blk_cell BK203.out 0).trans rfl, (blk_cell BK203.out 1).trans rfl, (blk_cell BK203.out 2).trans rfl, (blk_cell BK203.out 3).trans rfl, (blk_cell BK203.out 4).trans rfl⟩ (fun hHeld => ?_)
    clear hK K
    refine norm_ (a' := ?_) ?_ ?_
    rotate_left
    ·show Act.put _ (some 22) _ = _
     simp only [Act.put, e1_, e2_, e3_, i64_w, i32_w]
     rfl
    refine two_ (i := 4) (j := 10) (Ni := some 25) (Nj := some 6) z20_ z21_ rfl rfl rfl rfl (two_of HT_.out (by kernel_rfl)) (by decide) (by decide) (fun K hK => ?_) (fun K hK => ?_)
    ·skip
     refine goes_ Try.func40 (by kernel_rfl) rfl #[.slice Ao15 y207.length co15, .int .i64 (wrap64 (t205 + 1))] (by rfl) rfl rfl (by (try simp only [List.map_toArray, List.map_cons, List.map_nil]); first | done | rfl | (simp only [List.length_drop, List.length_take]; rfl)) ?_
     with_reducible refine (slices_Repeat_int_int.calls _ _ y207 (wrap64 (t205 + 1)) t210 _ ?side1 ?side2 A4.out).mono ?_
     (case side1 => exact cl_ (Kd.R_reads' HO209.out).2.2)
     (case side2 => exact (Kd.R_reads' HO209.out).2.1)
     rintro e w16 ⟨v211, rfl, ho0, hb⟩
     refine ⟨_, rfl, ?_⟩
     have n0_ := M_ (Kd.R_elder' (rl_ HO209.out) (Kd.R_base ho0) hb)
     have n1_ := M_ (Kd.R_lower (Kd.R_new' ho0 (Kd.R_lt (rl_ HO209.out))) (below_size (ws_ HB.out)))
     have n2_ := bb_ BK203 hb
     have n3_ := bb_ BK204 hb
     have n4_ := wb_ HB hb
     clear HO209
     clear BK203
     clear BK204
     clear HB
     have HO209 := n0_
     have HO212 := n1_
     have BK203 := n2_
     have BK204 := n3_
     have HB := n4_
     clear n0_ n1_ n2_ n3_ n4_
     (try clear hb)
     (try clear hb2)
     (try clear hk)
     (try clear hi)
     (try clear ho0)
     obtain ⟨Ao17, co17, eo17⟩ := Kd.R_slice HO212.out
     (first | subst eo17 | (injection eo17 with f1_ f2_ f3_; have f4_ := f1_.symm; have f5_ := f3_.symm; clear f1_ f2_ f3_; subst f4_; subst f5_))
     refine hK.out _ _ ⟨(blk_cell BK203.out 0).trans rfl, (blk_cell BK203.out 1).trans rfl, (blk_cell BK203.out 2).trans rfl, (blk_cell BK203.out 3).trans rfl, (blk_cell BK203.out 4).trans rfl⟩ (fun hHeld => ?_)
     clear hK K
     refine norm_ (a' := ?_) ?_ ?_
     rotate_left
     ·show Act.put _ (some 25) _ = _
      simp only [Act.put, e1_, e2_, e3_, i64_w, i32_w]
      rfl
     refine two_ (i := 5) (j := 10) (Ni := some 26) (Nj := some 6) z22_ z23_ rfl rfl rfl rfl (two_of HT_.out (by kernel_rfl)) (by decide) (by decide) (fun K hK => ?_) (fun K hK => ?_)
     ·skip
      refine goes_ Try.func18 (by kernel_rfl) rfl #[.agg #[.int .i64 a0_0, .slice A0_1 l0_1.length c0_1, .slice A0_2 l0_2.length c0_2, .slice A0_3 l0_3.length c0_3, .slice A0_4 l0_4.length c0_4], .slice Ao17 t210.length co17] (by rfl) rfl rfl (by (try simp only [List.map_toArray, List.map_cons, List.map_nil]); first | done | rfl | (simp only [List.length_drop, List.length_take]; rfl)) ?_
      with_reducible refine (hash_Build.calls a0_0 _ _ l0_1 _ _ l0_2 _ _ l0_3 _ _ l0_4 _ _ t210 t213 t214 t217 t220 t223 t226 t229 _ ?side1 ?side2 ?side3 ?side4 ?side5 ?side6 ?side7 ?side8 ?side9 ?side10 A5.out).mono ?_
      (case side1 => exact cl_ (Kd.C_below HR0_1.out HB.out))
      (case side2 => exact HC0_1.out)
      (case side3 => exact cl_ (Kd.C_below HR0_2.out HB.out))
      (case side4 => exact HC0_2.out)
      (case side5 => exact cl_ (Kd.C_below HR0_3.out HB.out))
      (case side6 => exact HC0_3.out)
      (case side7 => exact cl_ (Kd.C_below HR0_4.out HB.out))
      (case side8 => exact HC0_4.out)
      (case side9 => exact cl_ (Kd.R_reads' HO212.out).2.2)
      (case side10 => exact (Kd.R_reads' HO212.out).2.1)
      rintro e w18 ⟨v215, v218, v221, v224, v227, rfl, ho0, ho1, ho2, ho3, ho4, hb⟩
      refine ⟨_, rfl, ?_⟩
      have n0_ := M_ (Kd.R_mono (Kd.R_told (Kd.R_told (Kd.R_told (Kd.R_old (rl_ HO209.out) hb) (Kd.R_base ho2)) (Kd.R_base ho3)) (Kd.R_base ho4)) (fun _ h_ => h_.1))
      have n1_ := M_ (Kd.R_mono (Kd.R_told (Kd.R_told (Kd.R_told (Kd.R_old (rl_ HO212.out) hb) (Kd.R_base ho2)) (Kd.R_base ho3)) (Kd.R_base ho4)) (fun _ h_ => h_.1))
      have n2_ := M_ (Kd.R_lower ho0 (below_size (ws_ HB.out)))
      have n3_ := M_ (Kd.R_lower ho1 (below_size (ws_ HB.out)))
      have n4_ := M_ (Kd.R_lower (Kd.R_new' (Kd.R_new' ho2 (Kd.R_lt (rl_ HO209.out))) (Kd.R_lt (rl_ HO212.out))) (below_size (ws_ HB.out)))
      have n5_ := M_ (Kd.R_lower (Kd.R_new' (Kd.R_new' ho3 (Kd.R_lt (rl_ HO209.out))) (Kd.R_lt (rl_ HO212.out))) (below_size (ws_ HB.out)))
      have n6_ := M_ (Kd.R_lower (Kd.R_new' (Kd.R_new' ho4 (Kd.R_lt (rl_ HO209.out))) (Kd.R_lt (rl_ HO212.out))) (below_size (ws_ HB.out)))
      have n7_ := bb_ BK203 hb
      have n8_ := bb_ BK204 hb
      have n9_ := wb_ HB hb
      clear HO209
      clear HO212
      clear BK203
      clear BK204
      clear HB
      have HO209 := n0_
      have HO212 := n1_
      have HO216 := n2_
      have HO219 := n3_
      have HO222 := n4_
      have HO225 := n5_
      have HO228 := n6_
      have BK203 := n7_
      have BK204 := n8_
      have HB := n9_
      clear n0_ n1_ n2_ n3_ n4_ n5_ n6_ n7_ n8_ n9_
      (try clear hb)
      (try clear hb2)
      (try clear hk)
      (try clear hi)
      (try clear ho0)
      (try clear ho1)
      (try clear ho2)
      (try clear ho3)
      (try clear ho4)
      refine hK.out _ _ ⟨(blk_cell BK203.out 0).trans rfl, (blk_cell BK203.out 1).trans rfl, (blk_cell BK203.out 2).trans rfl, (blk_cell BK203.out 3).trans rfl, (blk_cell BK203.out 4).trans rfl⟩ (fun hHeld => ?_)
      clear hK K
      refine norm_ (a' := ?_) ?_ ?_
      rotate_left
      ·show Act.put _ (some 26) _ = _
       simp only [Act.put, e1_, e2_, e3_, i64_w, i32_w]
       rfl
      refine pure_ (i := 6) (N := some 20) (v := ?_) (a' := ?_) z24_ rfl rfl (any_of HT_.out (by kernel_rfl)) (fun _ _ _ h => h) (Or.inl ⟨by rfl, ?_⟩) ?_ ?_
      rotate_left
      ·intro w'
       go_simp
       with_reducible rfl
      rotate_left
      ·simp only [Act.put, e1_, e2_, e3_, i64_w, i32_w]
       rfl
      refine pure_ (i := 7) (N := some 27) (v := ?_) (a' := ?_) z25_ rfl rfl (any_of HT_.out (by kernel_rfl)) (fun _ _ _ h => h) (Or.inl ⟨by rfl, ?_⟩) ?_ ?_
      rotate_left
      ·intro w'
       go_simp
       with_reducible rfl
      rotate_left
      ·simp only [Act.put, e1_, e2_, e3_, i64_w, i32_w]
       rfl
      refine pure_ (i := 8) (N := some 28) (v := ?_) (a' := ?_) z26_ rfl rfl (any_of HT_.out (by kernel_rfl)) (fun _ _ _ h => h) (Or.inl ⟨by rfl, ?_⟩) ?_ ?_
      rotate_left
      ·intro w'
       go_simp
       with_reducible rfl
      rotate_left
      ·simp only [Act.put, e1_, e2_, e3_, i64_w, i32_w]
       rfl
      refine pure_ (i := 9) (N := some 29) (v := ?_) (a' := ?_) z27_ rfl rfl (any_of HT_.out (by kernel_rfl)) (fun _ _ _ h => h) (Or.inl ⟨by rfl, ?_⟩) ?_ ?_
      rotate_left
      ·intro w'
       go_simp
       with_reducible rfl
      rotate_left
      ·simp only [Act.put, e1_, e2_, e3_, i64_w, i32_w]
       rfl
      refine one_ (i := 10) (N := some 6) z17_ rfl rfl (one_of HT_.out (by kernel_rfl)) (by decide) (fun K hK => ?_)
      refine box_step ?hg (N := 6) ?hd (cs := #[.int .i64 0, .slice none 0 0, .slice none 0 0, .slice none 0 0, .slice none 0 0]) (t := 26) ?hr ?_; (case hd => rfl); (case hg => rfl); (case hr => first | (go_simp; done) | (go_simp; rfl))
      intro gb230 hg w19 hbox hb
      have n0_ := rb_ HO209 hb
      have n1_ := rb_ HO212 hb
      have n2_ := rb_ HO216 hb
      have n3_ := rb_ HO219 hb
      have n4_ := rb_ HO222 hb
      have n5_ := rb_ HO225 hb
      have n6_ := rb_ HO228 hb
      have n7_ := bb_ BK203 hb
      have n8_ := bb_ BK204 hb
      have n9_ := wb_ HB hb
      have n10_ := M_ (hbox)
      have n11_ := M_ ((by rw [hg]; exact (below_size (ws_ HB.out)) : w.heap.size ≤ gb230))
      have n12_ := M_ ((by rw [hg]; exact (below_size (ws_ HB.out)) : w.heap.size ≤ gb230))
      have n13_ := M_ ((by rw [hg]; exact Nat.ne_of_lt (blk_lt (bl_ BK203.out)) : gb203 ≠ gb230))
      have n14_ := M_ ((by rw [hg]; exact Nat.ne_of_gt (blk_lt (bl_ BK203.out)) : gb230 ≠ gb203))
      have n15_ := M_ ((by rw [hg]; exact Nat.ne_of_lt (blk_lt (bl_ BK204.out)) : gb204 ≠ gb230))
      have n16_ := M_ ((by rw [hg]; exact Nat.ne_of_gt (blk_lt (bl_ BK204.out)) : gb230 ≠ gb204))
      clear HO209
      clear HO212
      clear HO216
      clear HO219
      clear HO222
      clear HO225
      clear HO228
      clear BK203
      clear BK204
      clear HB
      have HO209 := n0_
      have HO212 := n1_
      have HO216 := n2_
      have HO219 := n3_
      have HO222 := n4_
      have HO225 := n5_
      have HO228 := n6_
      have BK203 := n7_
      have BK204 := n8_
      have HB := n9_
      have BK230 := n10_
      have GW230 := n11_
      have GE230 := n12_; have gi230 : Ge _ _ := ⟨GE230.out⟩
      have NB203_230 := n13_
      have NB230_203 := n14_
      have NB204_230 := n15_
      have NB230_204 := n16_
      clear n0_ n1_ n2_ n3_ n4_ n5_ n6_ n7_ n8_ n9_ n10_ n11_ n12_ n13_ n14_ n15_ n16_
      clear hb hbox hg
      refine hK.out _ _ ⟨(blk_cell BK203.out 0).trans rfl, (blk_cell BK203.out 1).trans rfl, (blk_cell BK203.out 2).trans rfl, (blk_cell BK203.out 3).trans rfl, (blk_cell BK203.out 4).trans rfl⟩ (fun hHeld => ?_)
      clear hK K
      refine norm_ (a' := ?_) ?_ ?_
      rotate_left
      ·show Act.put _ (some 6) _ = _
       simp only [Act.put, e1_, e2_, e3_, i64_w, i32_w]
       rfl
      exact norm_ (by simp only [putAll, Act.put, e1_, e2_, e3_]) (hCont (.slice Ao15 y207.length co15, .slice Ao17 t210.length co17, v215, v218, v221, v224, v227, gb230) _ ⟨hHeld, (rl_ (Kd.R_mono HO209.out (fun _ hk => ⟨hk.1.1.1.2, ⟨hk.1.1.2, ⟨hk.1.2, hk.2⟩⟩⟩))), (rl_ (Kd.R_mono HO212.out (fun _ hk => ⟨hk.1.1.1.2, ⟨hk.1.1.2, ⟨hk.1.2, hk.2⟩⟩⟩))), (rl_ HO216.out), (rl_ HO219.out), (rl_ (Kd.R_mono HO222.out (fun _ hk => ⟨hk.1.2, ⟨hk.2, ⟨hk.1.1.1, hk.1.1.2⟩⟩⟩))), (rl_ (Kd.R_mono HO225.out (fun _ hk => ⟨hk.1.2, ⟨hk.2, ⟨hk.1.1.1, hk.1.1.2⟩⟩⟩))), (rl_ (Kd.R_mono HO228.out (fun _ hk => ⟨hk.1.2, ⟨hk.2, ⟨hk.1.1.1, hk.1.1.2⟩⟩⟩))), (bl_ BK203.out), (bl_ BK204.out), (bl_ BK230.out), GW230.out, GE230.out, NB203_230.out, NB230_203.out, NB204_230.out, NB230_204.out, (ws_ HB.out)⟩)
     ·skip
      refine box_step ?hg (N := 6) ?hd (cs := #[.int .i64 0, .slice none 0 0, .slice none 0 0, .slice none 0 0, .slice none 0 0]) (t := 26) ?hr ?_; (case hd => rfl); (case hg => rfl); (case hr => first | (go_simp; done) | (go_simp; rfl))
      intro gb230 hg w17 hbox hb
      have n0_ := rb_ HO209 hb
      have n1_ := rb_ HO212 hb
      have n2_ := bb_ BK203 hb
      have n3_ := bb_ BK204 hb
      have n4_ := wb_ HB hb
      have n5_ := M_ (hbox)
      have n6_ := M_ ((by rw [hg]; exact (below_size (ws_ HB.out)) : w.heap.size ≤ gb230))
      have n7_ := M_ ((by rw [hg]; exact (below_size (ws_ HB.out)) : w.heap.size ≤ gb230))
      have n8_ := M_ ((by rw [hg]; exact Nat.ne_of_lt (blk_lt (bl_ BK203.out)) : gb203 ≠ gb230))
      have n9_ := M_ ((by rw [hg]; exact Nat.ne_of_gt (blk_lt (bl_ BK203.out)) : gb230 ≠ gb203))
      have n10_ := M_ ((by rw [hg]; exact Nat.ne_of_lt (blk_lt (bl_ BK204.out)) : gb204 ≠ gb230))
      have n11_ := M_ ((by rw [hg]; exact Nat.ne_of_gt (blk_lt (bl_ BK204.out)) : gb230 ≠ gb204))
      clear HO209
      clear HO212
      clear BK203
      clear BK204
      clear HB
      have HO209 := n0_
      have HO212 := n1_
      have BK203 := n2_
      have BK204 := n3_
      have HB := n4_
      have BK230 := n5_
      have GW230 := n6_
      have GE230 := n7_; have gi230 : Ge _ _ := ⟨GE230.out⟩
      have NB203_230 := n8_
      have NB230_203 := n9_
      have NB204_230 := n10_
      have NB230_204 := n11_
      clear n0_ n1_ n2_ n3_ n4_ n5_ n6_ n7_ n8_ n9_ n10_ n11_
      clear hb hbox hg
      obtain ⟨Ao18, co18, eo18⟩ := Kd.R_slice HO212.out
      (first | subst eo18 | (injection eo18 with f1_ f2_ f3_; have f4_ := f1_.symm; have f5_ := f3_.symm; clear f1_ f2_ f3_; subst f4_; subst f5_))
      refine hK.out _ _ ⟨(blk_cell BK203.out 0).trans rfl, (blk_cell BK203.out 1).trans rfl, (blk_cell BK203.out 2).trans rfl, (blk_cell BK203.out 3).trans rfl, (blk_cell BK203.out 4).trans rfl⟩ (fun hHeld => ?_)
      clear hK K
      refine norm_ (a' := ?_) ?_ ?_
      rotate_left
      ·show Act.put _ (some 6) _ = _
       simp only [Act.put, e1_, e2_, e3_, i64_w, i32_w]
       rfl
      refine one_ (i := 5) (N := some 26) z28_ rfl rfl (one_of HT_.out (by kernel_rfl)) (by decide) (fun K hK => ?_)
      refine goes_ Try.func18 (by kernel_rfl) rfl #[.agg #[.int .i64 a0_0, .slice A0_1 l0_1.length c0_1, .slice A0_2 l0_2.length c0_2, .slice A0_3 l0_3.length c0_3, .slice A0_4 l0_4.length c0_4], .slice Ao18 t210.length co18] (by rfl) rfl rfl (by (try simp only [List.map_toArray, List.map_cons, List.map_nil]); first | done | rfl | (simp only [List.length_drop, List.length_take]; rfl)) ?_
      with_reducible refine (hash_Build.calls a0_0 _ _ l0_1 _ _ l0_2 _ _ l0_3 _ _ l0_4 _ _ t210 t213 t214 t217 t220 t223 t226 t229 _ ?side1 ?side2 ?side3 ?side4 ?side5 ?side6 ?side7 ?side8 ?side9 ?side10 A5.out).mono ?_
      (case side1 => exact cl_ (Kd.C_below HR0_1.out HB.out))
      (case side2 => exact HC0_1.out)
      (case side3 => exact cl_ (Kd.C_below HR0_2.out HB.out))
      (case side4 => exact HC0_2.out)
      (case side5 => exact cl_ (Kd.C_below HR0_3.out HB.out))
      (case side6 => exact HC0_3.out)
      (case side7 => exact cl_ (Kd.C_below HR0_4.out HB.out))
      (case side8 => exact HC0_4.out)
      (case side9 => exact cl_ (Kd.R_reads' HO212.out).2.2)
      (case side10 => exact (Kd.R_reads' HO212.out).2.1)
      rintro e w19 ⟨v215, v218, v221, v224, v227, rfl, ho0, ho1, ho2, ho3, ho4, hb⟩
      refine ⟨_, rfl, ?_⟩
      have n0_ := M_ (Kd.R_mono (Kd.R_told (Kd.R_told (Kd.R_told (Kd.R_old (rl_ HO209.out) hb) (Kd.R_base ho2)) (Kd.R_base ho3)) (Kd.R_base ho4)) (fun _ h_ => h_.1))
      have n1_ := M_ (Kd.R_mono (Kd.R_told (Kd.R_told (Kd.R_told (Kd.R_old (rl_ HO212.out) hb) (Kd.R_base ho2)) (Kd.R_base ho3)) (Kd.R_base ho4)) (fun _ h_ => h_.1))
      have n2_ := M_ (Kd.R_lower ho0 (below_size (ws_ HB.out)))
      have n3_ := M_ (Kd.R_lower ho1 (below_size (ws_ HB.out)))
      have n4_ := M_ (Kd.R_lower (Kd.R_new' (Kd.R_new' ho2 (Kd.R_lt (rl_ HO209.out))) (Kd.R_lt (rl_ HO212.out))) (below_size (ws_ HB.out)))
      have n5_ := M_ (Kd.R_lower (Kd.R_new' (Kd.R_new' ho3 (Kd.R_lt (rl_ HO209.out))) (Kd.R_lt (rl_ HO212.out))) (below_size (ws_ HB.out)))
      have n6_ := M_ (Kd.R_lower (Kd.R_new' (Kd.R_new' ho4 (Kd.R_lt (rl_ HO209.out))) (Kd.R_lt (rl_ HO212.out))) (below_size (ws_ HB.out)))
      have n7_ := bb_ BK203 hb
      have n8_ := bb_ BK204 hb
      have n9_ := bb_ BK230 hb
      have n10_ := wb_ HB hb
      clear HO209
      clear HO212
      clear BK203
      clear BK204
      clear BK230
      clear HB
      have HO209 := n0_
      have HO212 := n1_
      have HO216 := n2_
      have HO219 := n3_
      have HO222 := n4_
      have HO225 := n5_
      have HO228 := n6_
      have BK203 := n7_
      have BK204 := n8_
      have BK230 := n9_
      have HB := n10_
      clear n0_ n1_ n2_ n3_ n4_ n5_ n6_ n7_ n8_ n9_ n10_
      (try clear hb)
      (try clear hb2)
      (try clear hk)
      (try clear hi)
      (try clear ho0)
      (try clear ho1)
      (try clear ho2)
      (try clear ho3)
      (try clear ho4)
      refine hK.out _ _ ⟨(blk_cell BK203.out 0).trans rfl, (blk_cell BK203.out 1).trans rfl, (blk_cell BK203.out 2).trans rfl, (blk_cell BK203.out 3).trans rfl, (blk_cell BK203.out 4).trans rfl⟩ (fun hHeld => ?_)
      clear hK K
      refine norm_ (a' := ?_) ?_ ?_
      rotate_left
      ·show Act.put _ (some 26) _ = _
       simp only [Act.put, e1_, e2_, e3_, i64_w, i32_w]
       rfl
      refine pure_ (i := 6) (N := some 20) (v := ?_) (a' := ?_) z29_ rfl rfl (any_of HT_.out (by kernel_rfl)) (fun _ _ _ h => h) (Or.inl ⟨by rfl, ?_⟩) ?_ ?_
      rotate_left
      ·intro w'
       go_simp
       with_reducible rfl
      rotate_left
      ·simp only [Act.put, e1_, e2_, e3_, i64_w, i32_w]
       rfl
      refine pure_ (i := 7) (N := some 27) (v := ?_) (a' := ?_) z30_ rfl rfl (any_of HT_.out (by kernel_rfl)) (fun _ _ _ h => h) (Or.inl ⟨by rfl, ?_⟩) ?_ ?_
      rotate_left
      ·intro w'
       go_simp
       with_reducible rfl
      rotate_left
      ·simp only [Act.put, e1_, e2_, e3_, i64_w, i32_w]
       rfl
      refine pure_ (i := 8) (N := some 28) (v := ?_) (a' := ?_) z31_ rfl rfl (any_of HT_.out (by kernel_rfl)) (fun _ _ _ h => h) (Or.inl ⟨by rfl, ?_⟩) ?_ ?_
      rotate_left
      ·intro w'
       go_simp
       with_reducible rfl
      rotate_left
      ·simp only [Act.put, e1_, e2_, e3_, i64_w, i32_w]
       rfl
      refine pure_ (i := 9) (N := some 29) (v := ?_) (a' := ?_) z17_ rfl rfl (any_of HT_.out (by kernel_rfl)) (fun _ _ _ h => h) (Or.inl ⟨by rfl, ?_⟩) ?_ ?_
      rotate_left
      ·intro w'
       go_simp
       with_reducible rfl
      rotate_left
      ·simp only [Act.put, e1_, e2_, e3_, i64_w, i32_w]
       rfl
      exact norm_ (by simp only [putAll, Act.put, e1_, e2_, e3_]) (hCont (.slice Ao15 y207.length co15, .slice Ao18 t210.length co18, v215, v218, v221, v224, v227, gb230) _ ⟨hHeld, (rl_ (Kd.R_mono HO209.out (fun _ hk => ⟨hk.1.1.1.2, ⟨hk.1.1.2, ⟨hk.1.2, hk.2⟩⟩⟩))), (rl_ (Kd.R_mono HO212.out (fun _ hk => ⟨hk.1.1.1.2, ⟨hk.1.1.2, ⟨hk.1.2, hk.2⟩⟩⟩))), (rl_ HO216.out), (rl_ HO219.out), (rl_ (Kd.R_mono HO222.out (fun _ hk => ⟨hk.1.2, ⟨hk.2, ⟨hk.1.1.1, hk.1.1.2⟩⟩⟩))), (rl_ (Kd.R_mono HO225.out (fun _ hk => ⟨hk.1.2, ⟨hk.2, ⟨hk.1.1.1, hk.1.1.2⟩⟩⟩))), (rl_ (Kd.R_mono HO228.out (fun _ hk => ⟨hk.1.2, ⟨hk.2, ⟨hk.1.1.1, hk.1.1.2⟩⟩⟩))), (bl_ BK203.out), (bl_ BK204.out), (bl_ BK230.out), GW230.out, GE230.out, NB203_230.out, NB230_203.out, NB204_230.out, NB230_204.out, (ws_ HB.out)⟩)
    ·skip
     refine box_step ?hg (N := 6) ?hd (cs := #[.int .i64 0, .slice none 0 0, .slice none 0 0, .slice none 0 0, .slice none 0 0]) (t := 26) ?hr ?_; (case hd => rfl); (case hg => rfl); (case hr => first | (go_simp; done) | (go_simp; rfl))
     intro gb230 hg w15 hbox hb
     have n0_ := rb_ HO209 hb
     have n1_ := bb_ BK203 hb
     have n2_ := bb_ BK204 hb
     have n3_ := wb_ HB hb
     have n4_ := M_ (hbox)
     have n5_ := M_ ((by rw [hg]; exact (below_size (ws_ HB.out)) : w.heap.size ≤ gb230))
     have n6_ := M_ ((by rw [hg]; exact (below_size (ws_ HB.out)) : w.heap.size ≤ gb230))
     have n7_ := M_ ((by rw [hg]; exact Nat.ne_of_lt (blk_lt (bl_ BK203.out)) : gb203 ≠ gb230))
     have n8_ := M_ ((by rw [hg]; exact Nat.ne_of_gt (blk_lt (bl_ BK203.out)) : gb230 ≠ gb203))
     have n9_ := M_ ((by rw [hg]; exact Nat.ne_of_lt (blk_lt (bl_ BK204.out)) : gb204 ≠ gb230))
     have n10_ := M_ ((by rw [hg]; exact Nat.ne_of_gt (blk_lt (bl_ BK204.out)) : gb230 ≠ gb204))
     clear HO209
     clear BK203
     clear BK204
     clear HB
     have HO209 := n0_
     have BK203 := n1_
     have BK204 := n2_
     have HB := n3_
     have BK230 := n4_
     have GW230 := n5_
     have GE230 := n6_; have gi230 : Ge _ _ := ⟨GE230.out⟩
     have NB203_230 := n7_
     have NB230_203 := n8_
     have NB204_230 := n9_
     have NB230_204 := n10_
     clear n0_ n1_ n2_ n3_ n4_ n5_ n6_ n7_ n8_ n9_ n10_
     clear hb hbox hg
     obtain ⟨Ao16, co16, eo16⟩ := Kd.R_slice HO209.out
     (first | subst eo16 | (injection eo16 with f1_ f2_ f3_; have f4_ := f1_.symm; have f5_ := f3_.symm; clear f1_ f2_ f3_; subst f4_; subst f5_))
     refine hK.out _ _ ⟨(blk_cell BK203.out 0).trans rfl, (blk_cell BK203.out 1).trans rfl, (blk_cell BK203.out 2).trans rfl, (blk_cell BK203.out 3).trans rfl, (blk_cell BK203.out 4).trans rfl⟩ (fun hHeld => ?_)
     clear hK K
     refine norm_ (a' := ?_) ?_ ?_
     rotate_left
     ·show Act.put _ (some 6) _ = _
      simp only [Act.put, e1_, e2_, e3_, i64_w, i32_w]
      rfl
     refine one_ (i := 4) (N := some 25) z23_ rfl rfl (one_of HT_.out (by kernel_rfl)) (by decide) (fun K hK => ?_)
     refine goes_ Try.func40 (by kernel_rfl) rfl #[.slice Ao16 y207.length co16, .int .i64 (wrap64 (t205 + 1))] (by rfl) rfl rfl (by (try simp only [List.map_toArray, List.map_cons, List.map_nil]); first | done | rfl | (simp only [List.length_drop, List.length_take]; rfl)) ?_
     with_reducible refine (slices_Repeat_int_int.calls _ _ y207 (wrap64 (t205 + 1)) t210 _ ?side1 ?side2 A4.out).mono ?_
     (case side1 => exact cl_ (Kd.R_reads' HO209.out).2.2)
     (case side2 => exact (Kd.R_reads' HO209.out).2.1)
     rintro e w17 ⟨v211, rfl, ho0, hb⟩
     refine ⟨_, rfl, ?_⟩
     have n0_ := M_ (Kd.R_elder' (rl_ HO209.out) (Kd.R_base ho0) hb)
     have n1_ := M_ (Kd.R_lower (Kd.R_new' ho0 (Kd.R_lt (rl_ HO209.out))) (below_size (ws_ HB.out)))
     have n2_ := bb_ BK203 hb
     have n3_ := bb_ BK204 hb
     have n4_ := bb_ BK230 hb
     have n5_ := wb_ HB hb
     clear HO209
     clear BK203
     clear BK204
     clear BK230
     clear HB
     have HO209 := n0_
     have HO212 := n1_
     have BK203 := n2_
     have BK204 := n3_
     have BK230 := n4_
     have HB := n5_
     clear n0_ n1_ n2_ n3_ n4_ n5_
     (try clear hb)
     (try clear hb2)
     (try clear hk)
     (try clear hi)
     (try clear ho0)
     obtain ⟨Ao18, co18, eo18⟩ := Kd.R_slice HO212.out
     (first | subst eo18 | (injection eo18 with f1_ f2_ f3_; have f4_ := f1_.symm; have f5_ := f3_.symm; clear f1_ f2_ f3_; subst f4_; subst f5_))
     refine hK.out _ _ ⟨(blk_cell BK203.out 0).trans rfl, (blk_cell BK203.out 1).trans rfl, (blk_cell BK203.out 2).trans rfl, (blk_cell BK203.out 3).trans rfl, (blk_cell BK203.out 4).trans rfl⟩ (fun hHeld => ?_)
     clear hK K
     refine norm_ (a' := ?_) ?_ ?_
     rotate_left
     ·show Act.put _ (some 25) _ = _
      simp only [Act.put, e1_, e2_, e3_, i64_w, i32_w]
      rfl
     refine one_ (i := 5) (N := some 26) z28_ rfl rfl (one_of HT_.out (by kernel_rfl)) (by decide) (fun K hK => ?_)
     refine goes_ Try.func18 (by kernel_rfl) rfl #[.agg #[.int .i64 a0_0, .slice A0_1 l0_1.length c0_1, .slice A0_2 l0_2.length c0_2, .slice A0_3 l0_3.length c0_3, .slice A0_4 l0_4.length c0_4], .slice Ao18 t210.length co18] (by rfl) rfl rfl (by (try simp only [List.map_toArray, List.map_cons, List.map_nil]); first | done | rfl | (simp only [List.length_drop, List.length_take]; rfl)) ?_
     with_reducible refine (hash_Build.calls a0_0 _ _ l0_1 _ _ l0_2 _ _ l0_3 _ _ l0_4 _ _ t210 t213 t214 t217 t220 t223 t226 t229 _ ?side1 ?side2 ?side3 ?side4 ?side5 ?side6 ?side7 ?side8 ?side9 ?side10 A5.out).mono ?_
     (case side1 => exact cl_ (Kd.C_below HR0_1.out HB.out))
     (case side2 => exact HC0_1.out)
     (case side3 => exact cl_ (Kd.C_below HR0_2.out HB.out))
     (case side4 => exact HC0_2.out)
     (case side5 => exact cl_ (Kd.C_below HR0_3.out HB.out))
     (case side6 => exact HC0_3.out)
     (case side7 => exact cl_ (Kd.C_below HR0_4.out HB.out))
     (case side8 => exact HC0_4.out)
     (case side9 => exact cl_ (Kd.R_reads' HO212.out).2.2)
     (case side10 => exact (Kd.R_reads' HO212.out).2.1)
     rintro e w19 ⟨v215, v218, v221, v224, v227, rfl, ho0, ho1, ho2, ho3, ho4, hb⟩
     refine ⟨_, rfl, ?_⟩
     have n0_ := M_ (Kd.R_mono (Kd.R_told (Kd.R_told (Kd.R_told (Kd.R_old (rl_ HO209.out) hb) (Kd.R_base ho2)) (Kd.R_base ho3)) (Kd.R_base ho4)) (fun _ h_ => h_.1))
     have n1_ := M_ (Kd.R_mono (Kd.R_told (Kd.R_told (Kd.R_told (Kd.R_old (rl_ HO212.out) hb) (Kd.R_base ho2)) (Kd.R_base ho3)) (Kd.R_base ho4)) (fun _ h_ => h_.1))
     have n2_ := M_ (Kd.R_lower ho0 (below_size (ws_ HB.out)))
     have n3_ := M_ (Kd.R_lower ho1 (below_size (ws_ HB.out)))
     have n4_ := M_ (Kd.R_lower (Kd.R_new' (Kd.R_new' ho2 (Kd.R_lt (rl_ HO209.out))) (Kd.R_lt (rl_ HO212.out))) (below_size (ws_ HB.out)))
     have n5_ := M_ (Kd.R_lower (Kd.R_new' (Kd.R_new' ho3 (Kd.R_lt (rl_ HO209.out))) (Kd.R_lt (rl_ HO212.out))) (below_size (ws_ HB.out)))
     have n6_ := M_ (Kd.R_lower (Kd.R_new' (Kd.R_new' ho4 (Kd.R_lt (rl_ HO209.out))) (Kd.R_lt (rl_ HO212.out))) (below_size (ws_ HB.out)))
     have n7_ := bb_ BK203 hb
     have n8_ := bb_ BK204 hb
     have n9_ := bb_ BK230 hb
     have n10_ := wb_ HB hb
     clear HO209
     clear HO212
     clear BK203
     clear BK204
     clear BK230
     clear HB
     have HO209 := n0_
     have HO212 := n1_
     have HO216 := n2_
     have HO219 := n3_
     have HO222 := n4_
     have HO225 := n5_
     have HO228 := n6_
     have BK203 := n7_
     have BK204 := n8_
     have BK230 := n9_
     have HB := n10_
     clear n0_ n1_ n2_ n3_ n4_ n5_ n6_ n7_ n8_ n9_ n10_
     (try clear hb)
     (try clear hb2)
     (try clear hk)
     (try clear hi)
     (try clear ho0)
     (try clear ho1)
     (try clear ho2)
     (try clear ho3)
     (try clear ho4)
     refine hK.out _ _ ⟨(blk_cell BK203.out 0).trans rfl, (blk_cell BK203.out 1).trans rfl, (blk_cell BK203.out 2).trans rfl, (blk_cell BK203.out 3).trans rfl, (blk_cell BK203.out 4).trans rfl⟩ (fun hHeld => ?_)
     clear hK K
     refine norm_ (a' := ?_) ?_ ?_
     rotate_left
     ·show Act.put _ (some 26) _ = _
      simp only [Act.put, e1_, e2_, e3_, i64_w, i32_w]
      rfl
     refine pure_ (i := 6) (N := some 20) (v := ?_) (a' := ?_) z29_ rfl rfl (any_of HT_.out (by kernel_rfl)) (fun _ _ _ h => h) (Or.inl ⟨by rfl, ?_⟩) ?_ ?_
     rotate_left
     ·intro w'
      go_simp
      with_reducible rfl
     rotate_left
     ·simp only [Act.put, e1_, e2_, e3_, i64_w, i32_w]
      rfl
     refine pure_ (i := 7) (N := some 27) (v := ?_) (a' := ?_) z30_ rfl rfl (any_of HT_.out (by kernel_rfl)) (fun _ _ _ h => h) (Or.inl ⟨by rfl, ?_⟩) ?_ ?_
     rotate_left
     ·intro w'
      go_simp
      with_reducible rfl
     rotate_left
     ·simp only [Act.put, e1_, e2_, e3_, i64_w, i32_w]
      rfl
     refine pure_ (i := 8) (N := some 28) (v := ?_) (a' := ?_) z31_ rfl rfl (any_of HT_.out (by kernel_rfl)) (fun _ _ _ h => h) (Or.inl ⟨by rfl, ?_⟩) ?_ ?_
     rotate_left
     ·intro w'
      go_simp
      with_reducible rfl
     rotate_left
     ·simp only [Act.put, e1_, e2_, e3_, i64_w, i32_w]
      rfl
     refine pure_ (i := 9) (N := some 29) (v := ?_) (a' := ?_) z17_ rfl rfl (any_of HT_.out (by kernel_rfl)) (fun _ _ _ h => h) (Or.inl ⟨by rfl, ?_⟩) ?_ ?_
     rotate_left
     ·intro w'
      go_simp
      with_reducible rfl
     rotate_left
     ·simp only [Act.put, e1_, e2_, e3_, i64_w, i32_w]
      rfl
     exact norm_ (by simp only [putAll, Act.put, e1_, e2_, e3_]) (hCont (.slice Ao16 y207.length co16, .slice Ao18 t210.length co18, v215, v218, v221, v224, v227, gb230) _ ⟨hHeld, (rl_ (Kd.R_mono HO209.out (fun _ hk => ⟨hk.1.1.1.2, ⟨hk.1.1.2, ⟨hk.1.2, hk.2⟩⟩⟩))), (rl_ (Kd.R_mono HO212.out (fun _ hk => ⟨hk.1.1.1.2, ⟨hk.1.1.2, ⟨hk.1.2, hk.2⟩⟩⟩))), (rl_ HO216.out), (rl_ HO219.out), (rl_ (Kd.R_mono HO222.out (fun _ hk => ⟨hk.1.2, ⟨hk.2, ⟨hk.1.1.1, hk.1.1.2⟩⟩⟩))), (rl_ (Kd.R_mono HO225.out (fun _ hk => ⟨hk.1.2, ⟨hk.2, ⟨hk.1.1.1, hk.1.1.2⟩⟩⟩))), (rl_ (Kd.R_mono HO228.out (fun _ hk => ⟨hk.1.2, ⟨hk.2, ⟨hk.1.1.1, hk.1.1.2⟩⟩⟩))), (bl_ BK203.out), (bl_ BK204.out), (bl_ BK230.out), GW230.out, GE230.out, NB203_230.out, NB230_203.out, NB204_230.out, NB230_204.out, (ws_ HB.out)⟩)
   ·skip
    refine box_step ?hg (N := 6) ?hd (cs := #[.int .i64 0, .slice none 0 0, .slice none 0 0, .slice none 0 0, .slice none 0 0]) (t := 26) ?hr ?_; (case hd => rfl); (case hg => rfl); (case hr => first | (go_simp; done) | (go_simp; rfl))
    intro gb230 hg w13 hbox hb
    have n0_ := bb_ BK203 hb
    have n1_ := bb_ BK204 hb
    have n2_ := wb_ HB hb
    have n3_ := M_ (hbox)
    have n4_ := M_ ((by rw [hg]; exact (below_size (ws_ HB.out)) : w.heap.size ≤ gb230))
    have n5_ := M_ ((by rw [hg]; exact (below_size (ws_ HB.out)) : w.heap.size ≤ gb230))
    have n6_ := M_ ((by rw [hg]; exact Nat.ne_of_lt (blk_lt (bl_ BK203.out)) : gb203 ≠ gb230))
    have n7_ := M_ ((by rw [hg]; exact Nat.ne_of_gt (blk_lt (bl_ BK203.out)) : gb230 ≠ gb203))
    have n8_ := M_ ((by rw [hg]; exact Nat.ne_of_lt (blk_lt (bl_ BK204.out)) : gb204 ≠ gb230))
    have n9_ := M_ ((by rw [hg]; exact Nat.ne_of_gt (blk_lt (bl_ BK204.out)) : gb230 ≠ gb204))
    clear BK203
    clear BK204
    clear HB
    have BK203 := n0_
    have BK204 := n1_
    have HB := n2_
    have BK230 := n3_
    have GW230 := n4_
    have GE230 := n5_; have gi230 : Ge _ _ := ⟨GE230.out⟩
    have NB203_230 := n6_
    have NB230_203 := n7_
    have NB204_230 := n8_
    have NB230_204 := n9_
    clear n0_ n1_ n2_ n3_ n4_ n5_ n6_ n7_ n8_ n9_
    clear hb hbox hg
    refine hK.out _ _ ⟨(blk_cell BK203.out 0).trans rfl, (blk_cell BK203.out 1).trans rfl, (blk_cell BK203.out 2).trans rfl, (blk_cell BK203.out 3).trans rfl, (blk_cell BK203.out 4).trans rfl⟩ (fun hHeld => ?_)
    clear hK K
    refine norm_ (a' := ?_) ?_ ?_
    rotate_left
    ·show Act.put _ (some 6) _ = _
     simp only [Act.put, e1_, e2_, e3_, i64_w, i32_w]
     rfl
    refine one_ (i := 1) (N := some 22) z21_ rfl rfl (one_of HT_.out (by kernel_rfl)) (by decide) (fun K hK => ?_)
    refine Kd.R_lit_step (Kd.int .i64) _ 3 ?hg (N := 22) ?hd (xs := ([(-1)] : List Int)) (inner := [.int .i64 (-1)]) (ok := fun _ => True) (okp := fun _ => True) ?hr ?hp (fun _ hk => hk) trivial (Below.refl _ _) (Nat.le_refl _) (by simp) ?_; (case hd => rfl); (case hg => rfl); (case hr => first | (go_simp; done) | (go_simp; rfl)); (case hp => exact (Reps.one (show Kd.M (Kd.int .i64) _ _ _ (-1) [.int .i64 (-1)] from rfl) (Reps.none _ _)))
    intro v208 w14 ho15 hb hg_ hnew_
    clear hg_ hnew_
    (first | rw [← Ny207.out] at ho15 | (simp only [Int.reduceToNat] at ho15; rw [← Ny207.out] at ho15))
    have n0_ := M_ (Kd.R_lower ho15 (below_size (ws_ HB.out)))
    have n1_ := bb_ BK203 hb
    have n2_ := bb_ BK204 hb
    have n3_ := bb_ BK230 hb
    have n4_ := wb_ HB hb
    clear BK203
    clear BK204
    clear BK230
    clear HB
    have HO209 := n0_
    have BK203 := n1_
    have BK204 := n2_
    have BK230 := n3_
    have HB := n4_
    clear n0_ n1_ n2_ n3_ n4_
    clear hb ho15
    obtain ⟨Ao16, co16, eo16⟩ := Kd.R_slice HO209.out
    (first | subst eo16 | (injection eo16 with f1_ f2_ f3_; have f4_ := f1_.symm; have f5_ := f3_.symm; clear f1_ f2_ f3_; subst f4_; subst f5_))
    refine hK.out _ _ ⟨(blk_cell BK203.out 0).trans rfl, (blk_cell BK203.out 1).trans rfl, (blk_cell BK203.out 2).trans rfl, (blk_cell BK203.out 3).trans rfl, (blk_cell BK203.out 4).trans rfl⟩ (fun hHeld => ?_)
    clear hK K
    refine norm_ (a' := ?_) ?_ ?_
    rotate_left
    ·show Act.put _ (some 22) _ = _
     simp only [Act.put, e1_, e2_, e3_, i64_w, i32_w]
     rfl
    refine one_ (i := 4) (N := some 25) z23_ rfl rfl (one_of HT_.out (by kernel_rfl)) (by decide) (fun K hK => ?_)
    refine goes_ Try.func40 (by kernel_rfl) rfl #[.slice Ao16 y207.length co16, .int .i64 (wrap64 (t205 + 1))] (by rfl) rfl rfl (by (try simp only [List.map_toArray, List.map_cons, List.map_nil]); first | done | rfl | (simp only [List.length_drop, List.length_take]; rfl)) ?_
    with_reducible refine (slices_Repeat_int_int.calls _ _ y207 (wrap64 (t205 + 1)) t210 _ ?side1 ?side2 A4.out).mono ?_
    (case side1 => exact cl_ (Kd.R_reads' HO209.out).2.2)
    (case side2 => exact (Kd.R_reads' HO209.out).2.1)
    rintro e w17 ⟨v211, rfl, ho0, hb⟩
    refine ⟨_, rfl, ?_⟩
    have n0_ := M_ (Kd.R_elder' (rl_ HO209.out) (Kd.R_base ho0) hb)
    have n1_ := M_ (Kd.R_lower (Kd.R_new' ho0 (Kd.R_lt (rl_ HO209.out))) (below_size (ws_ HB.out)))
    have n2_ := bb_ BK203 hb
    have n3_ := bb_ BK204 hb
    have n4_ := bb_ BK230 hb
    have n5_ := wb_ HB hb
    clear HO209
    clear BK203
    clear BK204
    clear BK230
    clear HB
    have HO209 := n0_
    have HO212 := n1_
    have BK203 := n2_
    have BK204 := n3_
    have BK230 := n4_
    have HB := n5_
    clear n0_ n1_ n2_ n3_ n4_ n5_
    (try clear hb)
    (try clear hb2)
    (try clear hk)
    (try clear hi)
    (try clear ho0)
    obtain ⟨Ao18, co18, eo18⟩ := Kd.R_slice HO212.out
    (first | subst eo18 | (injection eo18 with f1_ f2_ f3_; have f4_ := f1_.symm; have f5_ := f3_.symm; clear f1_ f2_ f3_; subst f4_; subst f5_))
    refine hK.out _ _ ⟨(blk_cell BK203.out 0).trans rfl, (blk_cell BK203.out 1).trans rfl, (blk_cell BK203.out 2).trans rfl, (blk_cell BK203.out 3).trans rfl, (blk_cell BK203.out 4).trans rfl⟩ (fun hHeld => ?_)
    clear hK K
    refine norm_ (a' := ?_) ?_ ?_
    rotate_left
    ·show Act.put _ (some 25) _ = _
     simp only [Act.put, e1_, e2_, e3_, i64_w, i32_w]
     rfl
    refine one_ (i := 5) (N := some 26) z28_ rfl rfl (one_of HT_.out (by kernel_rfl)) (by decide) (fun K hK => ?_)
    refine goes_ Try.func18 (by kernel_rfl) rfl #[.agg #[.int .i64 a0_0, .slice A0_1 l0_1.length c0_1, .slice A0_2 l0_2.length c0_2, .slice A0_3 l0_3.length c0_3, .slice A0_4 l0_4.length c0_4], .slice Ao18 t210.length co18] (by rfl) rfl rfl (by (try simp only [List.map_toArray, List.map_cons, List.map_nil]); first | done | rfl | (simp only [List.length_drop, List.length_take]; rfl)) ?_
    with_reducible refine (hash_Build.calls a0_0 _ _ l0_1 _ _ l0_2 _ _ l0_3 _ _ l0_4 _ _ t210 t213 t214 t217 t220 t223 t226 t229 _ ?side1 ?side2 ?side3 ?side4 ?side5 ?side6 ?side7 ?side8 ?side9 ?side10 A5.out).mono ?_
    (case side1 => exact cl_ (Kd.C_below HR0_1.out HB.out))
    (case side2 => exact HC0_1.out)
    (case side3 => exact cl_ (Kd.C_below HR0_2.out HB.out))
    (case side4 => exact HC0_2.out)
    (case side5 => exact cl_ (Kd.C_below HR0_3.out HB.out))
    (case side6 => exact HC0_3.out)
    (case side7 => exact cl_ (Kd.C_below HR0_4.out HB.out))
    (case side8 => exact HC0_4.out)
    (case side9 => exact cl_ (Kd.R_reads' HO212.out).2.2)
    (case side10 => exact (Kd.R_reads' HO212.out).2.1)
    rintro e w19 ⟨v215, v218, v221, v224, v227, rfl, ho0, ho1, ho2, ho3, ho4, hb⟩
    refine ⟨_, rfl, ?_⟩
    have n0_ := M_ (Kd.R_mono (Kd.R_told (Kd.R_told (Kd.R_told (Kd.R_old (rl_ HO209.out) hb) (Kd.R_base ho2)) (Kd.R_base ho3)) (Kd.R_base ho4)) (fun _ h_ => h_.1))
    have n1_ := M_ (Kd.R_mono (Kd.R_told (Kd.R_told (Kd.R_told (Kd.R_old (rl_ HO212.out) hb) (Kd.R_base ho2)) (Kd.R_base ho3)) (Kd.R_base ho4)) (fun _ h_ => h_.1))
    have n2_ := M_ (Kd.R_lower ho0 (below_size (ws_ HB.out)))
    have n3_ := M_ (Kd.R_lower ho1 (below_size (ws_ HB.out)))
    have n4_ := M_ (Kd.R_lower (Kd.R_new' (Kd.R_new' ho2 (Kd.R_lt (rl_ HO209.out))) (Kd.R_lt (rl_ HO212.out))) (below_size (ws_ HB.out)))
    have n5_ := M_ (Kd.R_lower (Kd.R_new' (Kd.R_new' ho3 (Kd.R_lt (rl_ HO209.out))) (Kd.R_lt (rl_ HO212.out))) (below_size (ws_ HB.out)))
    have n6_ := M_ (Kd.R_lower (Kd.R_new' (Kd.R_new' ho4 (Kd.R_lt (rl_ HO209.out))) (Kd.R_lt (rl_ HO212.out))) (below_size (ws_ HB.out)))
    have n7_ := bb_ BK203 hb
    have n8_ := bb_ BK204 hb
    have n9_ := bb_ BK230 hb
    have n10_ := wb_ HB hb
    clear HO209
    clear HO212
    clear BK203
    clear BK204
    clear BK230
    clear HB
    have HO209 := n0_
    have HO212 := n1_
    have HO216 := n2_
    have HO219 := n3_
    have HO222 := n4_
    have HO225 := n5_
    have HO228 := n6_
    have BK203 := n7_
    have BK204 := n8_
    have BK230 := n9_
    have HB := n10_
    clear n0_ n1_ n2_ n3_ n4_ n5_ n6_ n7_ n8_ n9_ n10_
    (try clear hb)
    (try clear hb2)
    (try clear hk)
    (try clear hi)
    (try clear ho0)
    (try clear ho1)
    (try clear ho2)
    (try clear ho3)
    (try clear ho4)
    refine hK.out _ _ ⟨(blk_cell BK203.out 0).trans rfl, (blk_cell BK203.out 1).trans rfl, (blk_cell BK203.out 2).trans rfl, (blk_cell BK203.out 3).trans rfl, (blk_cell BK203.out 4).trans rfl⟩ (fun hHeld => ?_)
    clear hK K
    refine norm_ (a' := ?_) ?_ ?_
    rotate_left
    ·show Act.put _ (some 26) _ = _
     simp only [Act.put, e1_, e2_, e3_, i64_w, i32_w]
     rfl
    refine pure_ (i := 6) (N := some 20) (v := ?_) (a' := ?_) z29_ rfl rfl (any_of HT_.out (by kernel_rfl)) (fun _ _ _ h => h) (Or.inl ⟨by rfl, ?_⟩) ?_ ?_
    rotate_left
    ·intro w'
     go_simp
     with_reducible rfl
    rotate_left
    ·simp only [Act.put, e1_, e2_, e3_, i64_w, i32_w]
     rfl
    refine pure_ (i := 7) (N := some 27) (v := ?_) (a' := ?_) z30_ rfl rfl (any_of HT_.out (by kernel_rfl)) (fun _ _ _ h => h) (Or.inl ⟨by rfl, ?_⟩) ?_ ?_
    rotate_left
    ·intro w'
     go_simp
     with_reducible rfl
    rotate_left
    ·simp only [Act.put, e1_, e2_, e3_, i64_w, i32_w]
     rfl
    refine pure_ (i := 8) (N := some 28) (v := ?_) (a' := ?_) z31_ rfl rfl (any_of HT_.out (by kernel_rfl)) (fun _ _ _ h => h) (Or.inl ⟨by rfl, ?_⟩) ?_ ?_
    rotate_left
    ·intro w'
     go_simp
     with_reducible rfl
    rotate_left
    ·simp only [Act.put, e1_, e2_, e3_, i64_w, i32_w]
     rfl
    refine pure_ (i := 9) (N := some 29) (v := ?_) (a' := ?_) z17_ rfl rfl (any_of HT_.out (by kernel_rfl)) (fun _ _ _ h => h) (Or.inl ⟨by rfl, ?_⟩) ?_ ?_
    rotate_left
    ·intro w'
     go_simp
     with_reducible rfl
    rotate_left
    ·simp only [Act.put, e1_, e2_, e3_, i64_w, i32_w]
     rfl
    exact norm_ (by simp only [putAll, Act.put, e1_, e2_, e3_]) (hCont (.slice Ao16 y207.length co16, .slice Ao18 t210.length co18, v215, v218, v221, v224, v227, gb230) _ ⟨hHeld, (rl_ (Kd.R_mono HO209.out (fun _ hk => ⟨hk.1.1.1.2, ⟨hk.1.1.2, ⟨hk.1.2, hk.2⟩⟩⟩))), (rl_ (Kd.R_mono HO212.out (fun _ hk => ⟨hk.1.1.1.2, ⟨hk.1.1.2, ⟨hk.1.2, hk.2⟩⟩⟩))), (rl_ HO216.out), (rl_ HO219.out), (rl_ (Kd.R_mono HO222.out (fun _ hk => ⟨hk.1.2, ⟨hk.2, ⟨hk.1.1.1, hk.1.1.2⟩⟩⟩))), (rl_ (Kd.R_mono HO225.out (fun _ hk => ⟨hk.1.2, ⟨hk.2, ⟨hk.1.1.1, hk.1.1.2⟩⟩⟩))), (rl_ (Kd.R_mono HO228.out (fun _ hk => ⟨hk.1.2, ⟨hk.2, ⟨hk.1.1.1, hk.1.1.2⟩⟩⟩))), (bl_ BK203.out), (bl_ BK204.out), (bl_ BK230.out), GW230.out, GE230.out, NB203_230.out, NB230_203.out, NB204_230.out, NB230_204.out, (ws_ HB.out)⟩)
  rintro ⟨v208, v211, v215, v218, v221, v224, v227, gb230⟩ w20 ⟨hS_, h0_, h1_, h2_, h3_, h4_, h5_, h6_, h7_, h8_, h9_, h10_, h11_, h12_, h13_, h14_, h15_, h16_⟩
  have n0_ : Aside0 (Kd.R (Kd.int .i64) 3 w20 w.heap.size (fun k_ => some k_ ≠ (v211 : Value).ownBlock ∧ some k_ ≠ (v221 : Value).ownBlock ∧ some k_ ≠ (v224 : Value).ownBlock ∧ some k_ ≠ (v227 : Value).ownBlock) v208 y207) := ⟨h0_⟩
  have n1_ : Aside0 (Kd.R (Kd.int .i64) 3 w20 w.heap.size (fun k_ => some k_ ≠ (v208 : Value).ownBlock ∧ some k_ ≠ (v221 : Value).ownBlock ∧ some k_ ≠ (v224 : Value).ownBlock ∧ some k_ ≠ (v227 : Value).ownBlock) v211 t210) := ⟨h1_⟩
  have n2_ : Aside0 (Kd.R k86 86 w20 w.heap.size (fun _ => True) v215 t214) := ⟨h2_⟩
  have n3_ : Aside0 (Kd.R k67 67 w20 w.heap.size (fun _ => True) v218 t217) := ⟨h3_⟩
  have n4_ : Aside0 (Kd.R (Kd.int .i64) 3 w20 w.heap.size (fun k_ => some k_ ≠ (v208 : Value).ownBlock ∧ some k_ ≠ (v211 : Value).ownBlock ∧ some k_ ≠ (v224 : Value).ownBlock ∧ some k_ ≠ (v227 : Value).ownBlock) v221 t220) := ⟨h4_⟩
  have n5_ : Aside0 (Kd.R (Kd.int .i64) 3 w20 w.heap.size (fun k_ => some k_ ≠ (v208 : Value).ownBlock ∧ some k_ ≠ (v211 : Value).ownBlock ∧ some k_ ≠ (v221 : Value).ownBlock ∧ some k_ ≠ (v227 : Value).ownBlock) v224 t223) := ⟨h5_⟩
  have n6_ : Aside0 (Kd.R (Kd.int .i64) 3 w20 w.heap.size (fun k_ => some k_ ≠ (v208 : Value).ownBlock ∧ some k_ ≠ (v211 : Value).ownBlock ∧ some k_ ≠ (v221 : Value).ownBlock ∧ some k_ ≠ (v224 : Value).ownBlock) v227 t226) := ⟨h6_⟩
  have n7_ : Aside0 (w20.heap[gb203]? = some (.cells #[.int .i64 a0_0, .slice A0_1 l0_1.length c0_1, .slice A0_2 l0_2.length c0_2, .slice A0_3 l0_3.length c0_3, .slice A0_4 l0_4.length c0_4] 26 (0, 0))) := ⟨h7_⟩
  have n8_ : Aside0 (w20.heap[gb204]? = some (.cells #[.int .i64 0, .slice none 0 0, .slice none 0 0, .slice none 0 0, .slice none 0 0, .int .i64 0, .int .i64 0, .slice none 0 0, .slice none 0 0, .slice none 0 0, .slice none 0 0, .int .i64 0] 55 (0, 0))) := ⟨h8_⟩
  have n9_ : Aside0 (w20.heap[gb230]? = some (.cells #[.int .i64 0, .slice none 0 0, .slice none 0 0, .slice none 0 0, .slice none 0 0] 26 (0, 0))) := ⟨h9_⟩
  have n10_ : Aside0 (w.heap.size ≤ gb230) := ⟨h10_⟩
  have n11_ : Aside0 (w.heap.size ≤ gb230) := ⟨h11_⟩
  have n12_ : Aside0 (gb203 ≠ gb230) := ⟨h12_⟩
  have n13_ : Aside0 (gb230 ≠ gb203) := ⟨h13_⟩
  have n14_ : Aside0 (gb204 ≠ gb230) := ⟨h14_⟩
  have n15_ : Aside0 (gb230 ≠ gb204) := ⟨h15_⟩
  have n16_ : Aside0 (Below w.heap.size w w20) := ⟨h16_⟩
  clear BK203
  clear BK204
  clear HB
  clear h0_ h1_ h2_ h3_ h4_ h5_ h6_ h7_ h8_ h9_ h10_ h11_ h12_ h13_ h14_ h15_ h16_
  have HO209 := n0_
  have HO212 := n1_
  have HO216 := n2_
  have HO219 := n3_
  have HO222 := n4_
  have HO225 := n5_
  have HO228 := n6_
  have BK203 := n7_
  have BK204 := n8_
  have BK230 := n9_
  have GW230 := n10_
  have GE230 := n11_; have gi230 : Ge _ _ := ⟨GE230.out⟩
  have NB203_230 := n12_
  have NB230_203 := n13_
  have NB204_230 := n14_
  have NB230_204 := n15_
  have HB := n16_
  clear n0_ n1_ n2_ n3_ n4_ n5_ n6_ n7_ n8_ n9_ n10_ n11_ n12_ n13_ n14_ n15_ n16_
  have hHeld : w20.cell? ⟨gb203, 0, none⟩ = some (.int .i64 a0_0) ∧ w20.cell? ⟨gb203, 1, none⟩ = some (.slice A0_1 l0_1.length c0_1) ∧ w20.cell? ⟨gb203, 2, none⟩ = some (.slice A0_2 l0_2.length c0_2) ∧ w20.cell? ⟨gb203, 3, none⟩ = some (.slice A0_3 l0_3.length c0_3) ∧ w20.cell? ⟨gb203, 4, none⟩ = some (.slice A0_4 l0_4.length c0_4) := hS_
  obtain ⟨Ao22, co22, eo22⟩ := Kd.R_slice HO216.out
  (first | subst eo22 | (injection eo22 with f1_ f2_ f3_; have f4_ := f1_.symm; have f5_ := f3_.symm; clear f1_ f2_ f3_; subst f4_; subst f5_))
  obtain ⟨Ao24, co24, eo24⟩ := Kd.R_slice HO219.out
  (first | subst eo24 | (injection eo24 with f1_ f2_ f3_; have f4_ := f1_.symm; have f5_ := f3_.symm; clear f1_ f2_ f3_; subst f4_; subst f5_))
  obtain ⟨Ao26, co26, eo26⟩ := Kd.R_slice HO222.out
  (first | subst eo26 | (injection eo26 with f1_ f2_ f3_; have f4_ := f1_.symm; have f5_ := f3_.symm; clear f1_ f2_ f3_; subst f4_; subst f5_))
  obtain ⟨Ao28, co28, eo28⟩ := Kd.R_slice HO225.out
  (first | subst eo28 | (injection eo28 with f1_ f2_ f3_; have f4_ := f1_.symm; have f5_ := f3_.symm; clear f1_ f2_ f3_; subst f4_; subst f5_))
  refine norm_ (a' := ?_) ?_ ?_
  rotate_left
  ·simp only [putAll, Act.put, e1_, e2_, e3_]
   rfl
  refine one_ (i := 11) (N := none) z32_ rfl rfl (one_of HT_.out (by kernel_rfl)) (by decide) (fun K hK => ?_)
  have hs21 : w20.cell? ⟨gb230, 0, none⟩ = some (.int .i64 0) := (blk_cell BK230.out 0).trans rfl
  have hfs21 := blk_frozen BK230.out 0
  have hns21_0 := NB203_230.out
  have hns21_1 := NB204_230.out
  have hms21_0 := NB230_203.out
  have hms21_1 := NB230_204.out
  have hs23 : w20.cell? ⟨gb230, 1, none⟩ = some (.slice none 0 0) := (blk_cell BK230.out 1).trans rfl
  have hfs23 := blk_frozen BK230.out 1
  have hns23_0 := NB203_230.out
  have hns23_1 := NB204_230.out
  have hms23_0 := NB230_203.out
  have hms23_1 := NB230_204.out
  have hs25 : w20.cell? ⟨gb230, 2, none⟩ = some (.slice none 0 0) := (blk_cell BK230.out 2).trans rfl
  have hfs25 := blk_frozen BK230.out 2
  have hns25_0 := NB203_230.out
  have hns25_1 := NB204_230.out
  have hms25_0 := NB230_203.out
  have hms25_1 := NB230_204.out
  have hs27 : w20.cell? ⟨gb230, 3, none⟩ = some (.slice none 0 0) := (blk_cell BK230.out 3).trans rfl
  have hfs27 := blk_frozen BK230.out 3
  have hns27_0 := NB203_230.out
  have hns27_1 := NB204_230.out
  have hms27_0 := NB230_203.out
  have hms27_1 := NB230_204.out
  have hs29 : w20.cell? ⟨gb230, 4, none⟩ = some (.slice none 0 0) := (blk_cell BK230.out 4).trans rfl
  have hfs29 := blk_frozen BK230.out 4
  have hns29_0 := NB203_230.out
  have hns29_1 := NB204_230.out
  have hms29_0 := NB230_203.out
  have hms29_1 := NB230_204.out
  refine skip_ (w1 := ?_) (by rfl) rfl ?_ ?_
  rotate_left
  ·go_simp
   rfl
  refine hK.out _ _ ⟨((cell_far (p := ⟨gb230, _, none⟩) NB203_230.out _).trans (((cell_far (p := ⟨gb230, _, none⟩) NB203_230.out _).trans (((cell_far (p := ⟨gb230, _, none⟩) NB203_230.out _).trans (((cell_far (p := ⟨gb230, _, none⟩) NB203_230.out _).trans (((cell_far (p := ⟨gb230, _, none⟩) NB203_230.out _).trans (hHeld.1)))))))))), ((cell_far (p := ⟨gb230, _, none⟩) NB203_230.out _).trans (((cell_far (p := ⟨gb230, _, none⟩) NB203_230.out _).trans (((cell_far (p := ⟨gb230, _, none⟩) NB203_230.out _).trans (((cell_far (p := ⟨gb230, _, none⟩) NB203_230.out _).trans (((cell_far (p := ⟨gb230, _, none⟩) NB203_230.out _).trans (hHeld.2.1)))))))))), ((cell_far (p := ⟨gb230, _, none⟩) NB203_230.out _).trans (((cell_far (p := ⟨gb230, _, none⟩) NB203_230.out _).trans (((cell_far (p := ⟨gb230, _, none⟩) NB203_230.out _).trans (((cell_far (p := ⟨gb230, _, none⟩) NB203_230.out _).trans (((cell_far (p := ⟨gb230, _, none⟩) NB203_230.out _).trans (hHeld.2.2.1)))))))))), ((cell_far (p := ⟨gb230, _, none⟩) NB203_230.out _).trans (((cell_far (p := ⟨gb230, _, none⟩) NB203_230.out _).trans (((cell_far (p := ⟨gb230, _, none⟩) NB203_230.out _).trans (((cell_far (p := ⟨gb230, _, none⟩) NB203_230.out _).trans (((cell_far (p := ⟨gb230, _, none⟩) NB203_230.out _).trans (hHeld.2.2.2.1)))))))))), ((cell_far (p := ⟨gb230, _, none⟩) NB203_230.out _).trans (((cell_far (p := ⟨gb230, _, none⟩) NB203_230.out _).trans (((cell_far (p := ⟨gb230, _, none⟩) NB203_230.out _).trans (((cell_far (p := ⟨gb230, _, none⟩) NB203_230.out _).trans (((cell_far (p := ⟨gb230, _, none⟩) NB203_230.out _).trans (hHeld.2.2.2.2))))))))))⟩ (fun hHeld => ?_)
  clear hK K
  refine pure_ (i := 12) (N := some 7) (v := ?_) (a' := ?_) z33_ rfl rfl (any_of HT_.out (by kernel_rfl)) (fun _ _ _ h => h) (Or.inl ⟨by rfl, ?_⟩) ?_ ?_
  rotate_left
  ·intro w'
   go_simp
   with_reducible rfl
  rotate_left
  ·simp only [Act.put, e1_, e2_, e3_, i64_w, i32_w]
   rfl
  refine pure_ (i := 13) (N := some 8) (v := ?_) (a' := ?_) z34_ rfl rfl (any_of HT_.out (by kernel_rfl)) (fun _ _ _ h => h) (Or.inl ⟨by rfl, ?_⟩) ?_ ?_
  rotate_left
  ·intro w'
   go_simp
   with_reducible rfl
  rotate_left
  ·simp only [Act.put, e1_, e2_, e3_, i64_w, i32_w]
   rfl
  refine done_ (done_of HT_.out (by kernel_rfl)) ?_
  have hnb30 := NB230_203.out
  have hnc30 := NB203_230.out
  have hnb31 := NB230_204.out
  have hnc31 := NB204_230.out
  obtain ⟨hcz32_0, hcz32_1, hcz32_2, hcz32_3, hcz32_4⟩ := cz5_ BK230.out
  obtain ⟨hfz32_0, hfz32_1, hfz32_2, hfz32_3, hfz32_4⟩ := fz5_ BK230.out
  try go_wp2_with (first | ((with_reducible refine gate_callee (f := 41) rfl ?_); have q1_ := M_ (Kd.R_far (p := ⟨gb230, 4, none⟩) (Kd.R_far (p := ⟨gb230, 3, none⟩) (Kd.R_far (p := ⟨gb230, 2, none⟩) (Kd.R_far (p := ⟨gb230, 1, none⟩) (Kd.R_far (p := ⟨gb230, 0, none⟩) (Kd.R_types HO216.out BK230.out (by decide)) (fun _ hk => hk.2) (.int .i64 t213)) (fun _ hk => hk.2) (.slice Ao22 t214.length co22)) (fun _ hk => hk.2) (.slice Ao24 t217.length co24)) (fun _ hk => hk.2) (.slice Ao26 t220.length co26)) (fun _ hk => hk.2) (.slice Ao28 t223.length co28)); have q2_ := M_ (Kd.R_far (p := ⟨gb230, 4, none⟩) (Kd.R_far (p := ⟨gb230, 3, none⟩) (Kd.R_far (p := ⟨gb230, 2, none⟩) (Kd.R_far (p := ⟨gb230, 1, none⟩) (Kd.R_far (p := ⟨gb230, 0, none⟩) (Kd.R_types HO219.out BK230.out (by decide)) (fun _ hk => hk.2) (.int .i64 t213)) (fun _ hk => hk.2) (.slice Ao22 t214.length co22)) (fun _ hk => hk.2) (.slice Ao24 t217.length co24)) (fun _ hk => hk.2) (.slice Ao26 t220.length co26)) (fun _ hk => hk.2) (.slice Ao28 t223.length co28)); have q3_ := M_ (Kd.R_far (p := ⟨gb230, 4, none⟩) (Kd.R_far (p := ⟨gb230, 3, none⟩) (Kd.R_far (p := ⟨gb230, 2, none⟩) (Kd.R_far (p := ⟨gb230, 1, none⟩) (Kd.R_far (p := ⟨gb230, 0, none⟩) (Kd.R_types HO222.out BK230.out (by decide)) (fun _ hk => hk.2) (.int .i64 t213)) (fun _ hk => hk.2) (.slice Ao22 t214.length co22)) (fun _ hk => hk.2) (.slice Ao24 t217.length co24)) (fun _ hk => hk.2) (.slice Ao26 t220.length co26)) (fun _ hk => hk.2) (.slice Ao28 t223.length co28)); have q4_ := M_ (Kd.R_far (p := ⟨gb230, 4, none⟩) (Kd.R_far (p := ⟨gb230, 3, none⟩) (Kd.R_far (p := ⟨gb230, 2, none⟩) (Kd.R_far (p := ⟨gb230, 1, none⟩) (Kd.R_far (p := ⟨gb230, 0, none⟩) (Kd.R_types HO225.out BK230.out (by decide)) (fun _ hk => hk.2) (.int .i64 t213)) (fun _ hk => hk.2) (.slice Ao22 t214.length co22)) (fun _ hk => hk.2) (.slice Ao24 t217.length co24)) (fun _ hk => hk.2) (.slice Ao26 t220.length co26)) (fun _ hk => hk.2) (.slice Ao28 t223.length co28)); have q5_ := M_ (Kd.R_far (p := ⟨gb230, 4, none⟩) (Kd.R_far (p := ⟨gb230, 3, none⟩) (Kd.R_far (p := ⟨gb230, 2, none⟩) (Kd.R_far (p := ⟨gb230, 1, none⟩) (Kd.R_far (p := ⟨gb230, 0, none⟩) (Kd.R_types HO209.out BK230.out (by decide)) (fun _ hk => hk.2) (.int .i64 t213)) (fun _ hk => hk.2) (.slice Ao22 t214.length co22)) (fun _ hk => hk.2) (.slice Ao24 t217.length co24)) (fun _ hk => hk.2) (.slice Ao26 t220.length co26)) (fun _ hk => hk.2) (.slice Ao28 t223.length co28)); have q6_ := M_ (Kd.R_far (p := ⟨gb230, 4, none⟩) (Kd.R_far (p := ⟨gb230, 3, none⟩) (Kd.R_far (p := ⟨gb230, 2, none⟩) (Kd.R_far (p := ⟨gb230, 1, none⟩) (Kd.R_far (p := ⟨gb230, 0, none⟩) (Kd.R_types HO212.out BK230.out (by decide)) (fun _ hk => hk.2) (.int .i64 t213)) (fun _ hk => hk.2) (.slice Ao22 t214.length co22)) (fun _ hk => hk.2) (.slice Ao24 t217.length co24)) (fun _ hk => hk.2) (.slice Ao26 t220.length co26)) (fun _ hk => hk.2) (.slice Ao28 t223.length co28)); have q7_ := M_ (Kd.R_far (p := ⟨gb230, 4, none⟩) (Kd.R_far (p := ⟨gb230, 3, none⟩) (Kd.R_far (p := ⟨gb230, 2, none⟩) (Kd.R_far (p := ⟨gb230, 1, none⟩) (Kd.R_far (p := ⟨gb230, 0, none⟩) (Kd.R_types HO228.out BK230.out (by decide)) (fun _ hk => hk.2) (.int .i64 t213)) (fun _ hk => hk.2) (.slice Ao22 t214.length co22)) (fun _ hk => hk.2) (.slice Ao24 t217.length co24)) (fun _ hk => hk.2) (.slice Ao26 t220.length co26)) (fun _ hk => hk.2) (.slice Ao28 t223.length co28)); refine goesL_ (some 32) rfl rfl Try.func41 (by kernel_rfl) rfl #[.agg #[.int .i64 t213, .slice Ao22 t214.length co22, .slice Ao24 t217.length co24, .slice Ao26 t220.length co26, .slice Ao28 t223.length co28]] rfl (by (try simp only [List.map_toArray, List.map_cons, List.map_nil]); first | done | rfl | (simp only [List.length_drop, List.length_take]; rfl)) ?_; (with_reducible refine (lift_Identity.calls k t213 _ _ t214 _ _ t217 _ _ t220 _ _ t223 t231 t232 t233 t236 t239 t242 t245 t246 _ ?side1 ?side2 ?side3 ?side4 ?side5 ?side6 ?side7 ?side8 A6.out).mono ?_); (case side1 => refine (Kd.R_reads' (e := 86) (base := w.heap.size) (ok := fun k_ => True) (n := t214.length) (c := co22) ?_).2.2; exact (rl_ (Kd.R_mono q1_.out (fun _ h_ => h_.1)))); (case side2 => exact (Kd.R_reads' HO216.out).2.1); (case side3 => refine (Kd.R_reads' (e := 67) (base := w.heap.size) (ok := fun k_ => True) (n := t217.length) (c := co24) ?_).2.2; exact (rl_ (Kd.R_mono q2_.out (fun _ h_ => h_.1)))); (case side4 => exact (Kd.R_reads' HO219.out).2.1); (case side5 => refine (Kd.R_reads' (e := 3) (base := w.heap.size) (ok := fun k_ => (some k_ ≠ (v208 : Value).ownBlock ∧ (some k_ ≠ (v211 : Value).ownBlock ∧ (some k_ ≠ (.slice Ao28 t223.length co28 : Value).ownBlock ∧ some k_ ≠ (v227 : Value).ownBlock)))) (n := t220.length) (c := co26) ?_).2.2; exact (rl_ (Kd.R_mono q3_.out (fun _ h_ => h_.1)))); (case side6 => exact (Kd.R_reads' HO222.out).2.1); (case side7 => refine (Kd.R_reads' (e := 3) (base := w.heap.size) (ok := fun k_ => (some k_ ≠ (v208 : Value).ownBlock ∧ (some k_ ≠ (v211 : Value).ownBlock ∧ (some k_ ≠ (.slice Ao26 t220.length co26 : Value).ownBlock ∧ some k_ ≠ (v227 : Value).ownBlock)))) (n := t223.length) (c := co28) ?_).2.2; exact (rl_ (Kd.R_mono q4_.out (fun _ h_ => h_.1)))); (case side8 => exact (Kd.R_reads' HO225.out).2.1); rintro e w33 ⟨v234, v237, v240, v243, rfl, ho0, ho1, ho2, ho3, hb⟩; refine ⟨_, rfl, ?_⟩; have n0_ := M_ (Kd.R_mono (Kd.R_told (Kd.R_told (Kd.R_old (rl_ (Kd.R_mono q5_.out (fun _ h_ => h_.1))) hb) (Kd.R_base ho0)) (Kd.R_base ho2)) (fun _ h_ => h_.1)); have n1_ := M_ (Kd.R_mono (Kd.R_told (Kd.R_told (Kd.R_old (rl_ (Kd.R_mono q6_.out (fun _ h_ => h_.1))) hb) (Kd.R_base ho0)) (Kd.R_base ho2)) (fun _ h_ => h_.1)); have n2_ := M_ (Kd.R_below (rl_ (Kd.R_mono q1_.out (fun _ h_ => h_.1))) hb); have n3_ := M_ (Kd.R_elder' (rl_ (Kd.R_mono q2_.out (fun _ h_ => h_.1))) (Kd.R_base ho3) hb); have n4_ := M_ (Kd.R_mono (Kd.R_told (Kd.R_told (Kd.R_old (rl_ (Kd.R_mono q3_.out (fun _ h_ => h_.1))) hb) (Kd.R_base ho0)) (Kd.R_base ho2)) (fun _ h_ => h_.1)); have n5_ := M_ (Kd.R_mono (Kd.R_told (Kd.R_told (Kd.R_old (rl_ (Kd.R_mono q4_.out (fun _ h_ => h_.1))) hb) (Kd.R_base ho0)) (Kd.R_base ho2)) (fun _ h_ => h_.1)); have n6_ := M_ (Kd.R_mono (Kd.R_told (Kd.R_told (Kd.R_old (rl_ (Kd.R_mono q7_.out (fun _ h_ => h_.1))) hb) (Kd.R_base ho0)) (Kd.R_base ho2)) (fun _ h_ => h_.1)); have n7_ := M_ (Kd.R_lower (Kd.R_new' (Kd.R_new' (Kd.R_new' (Kd.R_new' (Kd.R_new' ho0 (Kd.R_lt (rl_ (Kd.R_mono q5_.out (fun _ h_ => h_.1))))) (Kd.R_lt (rl_ (Kd.R_mono q6_.out (fun _ h_ => h_.1))))) (Kd.R_lt (rl_ (Kd.R_mono q3_.out (fun _ h_ => h_.1))))) (Kd.R_lt (rl_ (Kd.R_mono q4_.out (fun _ h_ => h_.1))))) (Kd.R_lt (rl_ (Kd.R_mono q7_.out (fun _ h_ => h_.1))))) (below_size (ws_ HB.out))); have n8_ := M_ (Kd.S_lower (Kd.S_new' (Kd.S_new' (Kd.S_new' (Kd.S_new' (Kd.S_new' ho1 (Kd.R_lt (rl_ (Kd.R_mono q5_.out (fun _ h_ => h_.1))))) (Kd.R_lt (rl_ (Kd.R_mono q6_.out (fun _ h_ => h_.1))))) (Kd.R_lt (rl_ (Kd.R_mono q3_.out (fun _ h_ => h_.1))))) (Kd.R_lt (rl_ (Kd.R_mono q4_.out (fun _ h_ => h_.1))))) (Kd.R_lt (rl_ (Kd.R_mono q7_.out (fun _ h_ => h_.1))))) (below_size (ws_ HB.out))); have n9_ := M_ (Kd.R_lower (Kd.R_new' (Kd.R_new' (Kd.R_new' (Kd.R_new' (Kd.R_new' ho2 (Kd.R_lt (rl_ (Kd.R_mono q5_.out (fun _ h_ => h_.1))))) (Kd.R_lt (rl_ (Kd.R_mono q6_.out (fun _ h_ => h_.1))))) (Kd.R_lt (rl_ (Kd.R_mono q3_.out (fun _ h_ => h_.1))))) (Kd.R_lt (rl_ (Kd.R_mono q4_.out (fun _ h_ => h_.1))))) (Kd.R_lt (rl_ (Kd.R_mono q7_.out (fun _ h_ => h_.1))))) (below_size (ws_ HB.out))); have n10_ := M_ (Kd.R_lower (Kd.R_new' ho3 (Kd.R_lt (rl_ (Kd.R_mono q2_.out (fun _ h_ => h_.1))))) (below_size (ws_ HB.out))); have n11_ := M_ (blk_below (g := gb203) (o := .cells #[.int .i64 a0_0, .slice A0_1 l0_1.length c0_1, .slice A0_2 l0_2.length c0_2, .slice A0_3 l0_3.length c0_3, .slice A0_4 l0_4.length c0_4] 26 (0, 0)) (by (with_reducible repeat (first | refine blk_drewN ?_ _ | refine blk_drew ?_ | refine blk_alloc ?_ _)); refine blk_far ?_ NB203_230.out _; (with_reducible repeat (first | refine blk_drewN ?_ _ | refine blk_drew ?_ | refine blk_alloc ?_ _)); refine blk_far ?_ NB203_230.out _; (with_reducible repeat (first | refine blk_drewN ?_ _ | refine blk_drew ?_ | refine blk_alloc ?_ _)); refine blk_far ?_ NB203_230.out _; (with_reducible repeat (first | refine blk_drewN ?_ _ | refine blk_drew ?_ | refine blk_alloc ?_ _)); refine blk_far ?_ NB203_230.out _; (with_reducible repeat (first | refine blk_drewN ?_ _ | refine blk_drew ?_ | refine blk_alloc ?_ _)); refine blk_far ?_ NB203_230.out _; (with_reducible repeat (first | refine blk_drewN ?_ _ | refine blk_drew ?_ | refine blk_alloc ?_ _)); exact BK203.out) hb); have n12_ := M_ (blk_below (g := gb204) (o := .cells #[.int .i64 0, .slice none 0 0, .slice none 0 0, .slice none 0 0, .slice none 0 0, .int .i64 0, .int .i64 0, .slice none 0 0, .slice none 0 0, .slice none 0 0, .slice none 0 0, .int .i64 0] 55 (0, 0)) (by (with_reducible repeat (first | refine blk_drewN ?_ _ | refine blk_drew ?_ | refine blk_alloc ?_ _)); refine blk_far ?_ NB204_230.out _; (with_reducible repeat (first | refine blk_drewN ?_ _ | refine blk_drew ?_ | refine blk_alloc ?_ _)); refine blk_far ?_ NB204_230.out _; (with_reducible repeat (first | refine blk_drewN ?_ _ | refine blk_drew ?_ | refine blk_alloc ?_ _)); refine blk_far ?_ NB204_230.out _; (with_reducible repeat (first | refine blk_drewN ?_ _ | refine blk_drew ?_ | refine blk_alloc ?_ _)); refine blk_far ?_ NB204_230.out _; (with_reducible repeat (first | refine blk_drewN ?_ _ | refine blk_drew ?_ | refine blk_alloc ?_ _)); refine blk_far ?_ NB204_230.out _; (with_reducible repeat (first | refine blk_drewN ?_ _ | refine blk_drew ?_ | refine blk_alloc ?_ _)); exact BK204.out) hb); have n13_ := M_ (blk_below (g := gb230) (o := .cells #[.int .i64 t213, .slice Ao22 t214.length co22, .slice Ao24 t217.length co24, .slice Ao26 t220.length co26, .slice Ao28 t223.length co28] 26 (0, 0)) (by (with_reducible repeat (first | refine blk_drewN ?_ _ | refine blk_drew ?_ | refine blk_alloc ?_ _)); refine blk_put (cs := #[.int .i64 t213, .slice Ao22 t214.length co22, .slice Ao24 t217.length co24, .slice Ao26 t220.length co26, .slice none 0 0]) ?_ 4 _ rfl; (with_reducible repeat (first | refine blk_drewN ?_ _ | refine blk_drew ?_ | refine blk_alloc ?_ _)); refine blk_put (cs := #[.int .i64 t213, .slice Ao22 t214.length co22, .slice Ao24 t217.length co24, .slice none 0 0, .slice none 0 0]) ?_ 3 _ rfl; (with_reducible repeat (first | refine blk_drewN ?_ _ | refine blk_drew ?_ | refine blk_alloc ?_ _)); refine blk_put (cs := #[.int .i64 t213, .slice Ao22 t214.length co22, .slice none 0 0, .slice none 0 0, .slice none 0 0]) ?_ 2 _ rfl; (with_reducible repeat (first | refine blk_drewN ?_ _ | refine blk_drew ?_ | refine blk_alloc ?_ _)); refine blk_put (cs := #[.int .i64 t213, .slice none 0 0, .slice none 0 0, .slice none 0 0, .slice none 0 0]) ?_ 1 _ rfl; (with_reducible repeat (first | refine blk_drewN ?_ _ | refine blk_drew ?_ | refine blk_alloc ?_ _)); refine blk_put (cs := #[.int .i64 0, .slice none 0 0, .slice none 0 0, .slice none 0 0, .slice none 0 0]) ?_ 0 _ rfl; (with_reducible repeat (first | refine blk_drewN ?_ _ | refine blk_drew ?_ | refine blk_alloc ?_ _)); exact BK230.out) hb); clear HO209; clear HO212; clear HO216; clear HO219; clear HO222; clear HO225; clear HO228; clear BK203; clear BK204; clear BK230; have HO209 := n0_; have HO212 := n1_; have HO216 := n2_; have HO219 := n3_; have HO222 := n4_; have HO225 := n5_; have HO228 := n6_; have HO235 := n7_; have HO238 := n8_; have HO241 := n9_; have HO244 := n10_; have BK203 := n11_; have BK204 := n12_; have BK230 := n13_; replace HB := wb_ HB hb; clear n0_ n1_ n2_ n3_ n4_ n5_ n6_ n7_ n8_ n9_ n10_ n11_ n12_ n13_; (try clear hb); (try clear hb2); (try clear hk); (try clear hi); (try clear ho0); (try clear ho1); (try clear ho2); (try clear ho3)) | ((with_reducible refine gate_dst (N := 9) rfl ?_); refine box_event ?hg (N := 9) ?hd (cs := #[.int .i64 0, .int .i64 0, .slice none 0 0, .slice none 0 0, .slice none 0 0, .slice none 0 0, .int .i64 0]) (t := 53) ?hr ?_; (case hd => rfl); (case hg => rfl); (case hr => first | (go_simp; done) | (go_simp; rfl)); intro gb247 hg w34 hbox hb; have n8_ := M_ (Kd.S_below (by (with_reducible repeat (first | apply Kd.S_alloc | apply Kd.S_drewN | apply Kd.S_drew)); exact HO238.out) hb); have n15_ := M_ (hbox); have n16_ := M_ ((by rw [hg]; exact (below_size (ws_ HB.out)) : w.heap.size ≤ gb247)); have n17_ := M_ ((by rw [hg]; exact (below_size (ws_ HB.out)) : w.heap.size ≤ gb247)); have n18_ := M_ ((by rw [hg]; exact Nat.ne_of_lt (blk_lt (bl_ BK203.out)) : gb203 ≠ gb247)); have n19_ := M_ ((by rw [hg]; exact Nat.ne_of_gt (blk_lt (bl_ BK203.out)) : gb247 ≠ gb203)); have n20_ := M_ ((by rw [hg]; exact Nat.ne_of_lt (blk_lt (bl_ BK204.out)) : gb204 ≠ gb247)); have n21_ := M_ ((by rw [hg]; exact Nat.ne_of_gt (blk_lt (bl_ BK204.out)) : gb247 ≠ gb204)); have n22_ := M_ ((by rw [hg]; exact Nat.ne_of_lt (blk_lt (bl_ BK230.out)) : gb230 ≠ gb247)); have n23_ := M_ ((by rw [hg]; exact Nat.ne_of_gt (blk_lt (bl_ BK230.out)) : gb247 ≠ gb230)); clear HO238; replace HO209 := rb_ HO209 hb; replace HO212 := rb_ HO212 hb; replace HO216 := rb_ HO216 hb; replace HO219 := rb_ HO219 hb; replace HO222 := rb_ HO222 hb; replace HO225 := rb_ HO225 hb; replace HO228 := rb_ HO228 hb; replace HO235 := rb_ HO235 hb; have HO238 := n8_; replace HO241 := rb_ HO241 hb; replace HO244 := rb_ HO244 hb; replace BK203 := bb_ BK203 hb; replace BK204 := bb_ BK204 hb; replace BK230 := bb_ BK230 hb; replace HB := wb_ HB hb; have BK247 := n15_; have GW247 := n16_; have GE247 := n17_; have gi247 : Ge _ _ := ⟨GE247.out⟩; have NB203_247 := n18_; have NB247_203 := n19_; have NB204_247 := n20_; have NB247_204 := n21_; have NB230_247 := n22_; have NB247_230 := n23_; clear n8_ n15_ n16_ n17_ n18_ n19_ n20_ n21_ n22_ n23_; clear hb hbox hg; have hnb35 := NB247_203.out; have hnc35 := NB203_247.out; have hnb36 := NB247_204.out; have hnc36 := NB204_247.out; have hnb37 := NB247_230.out; have hnc37 := NB230_247.out; have hcz38_0 : w34.cell? ⟨gb247, 0, none⟩ = some (.int .i64 0) := (blk_cell BK247.out 0).trans rfl; have hcz38_1 : w34.cell? ⟨gb247, 1, none⟩ = some (.int .i64 0) := (blk_cell BK247.out 1).trans rfl; have hcz38_2 : w34.cell? ⟨gb247, 2, none⟩ = some (.slice none 0 0) := (blk_cell BK247.out 2).trans rfl; have hcz38_3 : w34.cell? ⟨gb247, 3, none⟩ = some (.slice none 0 0) := (blk_cell BK247.out 3).trans rfl; have hcz38_4 : w34.cell? ⟨gb247, 4, none⟩ = some (.slice none 0 0) := (blk_cell BK247.out 4).trans rfl; have hcz38_5 : w34.cell? ⟨gb247, 5, none⟩ = some (.slice none 0 0) := (blk_cell BK247.out 5).trans rfl; have hcz38_6 : w34.cell? ⟨gb247, 6, none⟩ = some (.int .i64 0) := (blk_cell BK247.out 6).trans rfl; have hfz38_0 := blk_frozen BK247.out 0; have hfz38_1 := blk_frozen BK247.out 1; have hfz38_2 := blk_frozen BK247.out 2; have hfz38_3 := blk_frozen BK247.out 3; have hfz38_4 := blk_frozen BK247.out 4; have hfz38_5 := blk_frozen BK247.out 5; have hfz38_6 := blk_frozen BK247.out 6; obtain ⟨Ao39, co39, eo39⟩ := Kd.R_slice HO235.out; subst eo39; obtain ⟨Ao40, co40, eo40⟩ := Kd.S_slice HO238.out; subst eo40; obtain ⟨Ao41, co41, eo41⟩ := Kd.R_slice HO241.out; subst eo41; obtain ⟨Ao42, co42, eo42⟩ := Kd.R_slice HO244.out; subst eo42; have hcz43_0 : w34.cell? ⟨gb230, 0, none⟩ = some (.int .i64 t213) := (blk_cell BK230.out 0).trans rfl; have hcz43_1 : w34.cell? ⟨gb230, 1, none⟩ = some (.slice Ao22 t214.length co22) := (blk_cell BK230.out 1).trans rfl; have hcz43_2 : w34.cell? ⟨gb230, 2, none⟩ = some (.slice Ao24 t217.length co24) := (blk_cell BK230.out 2).trans rfl; have hcz43_3 : w34.cell? ⟨gb230, 3, none⟩ = some (.slice Ao26 t220.length co26) := (blk_cell BK230.out 3).trans rfl; have hcz43_4 : w34.cell? ⟨gb230, 4, none⟩ = some (.slice Ao28 t223.length co28) := (blk_cell BK230.out 4).trans rfl; have hfz43_0 := blk_frozen BK230.out 0; have hfz43_1 := blk_frozen BK230.out 1; have hfz43_2 := blk_frozen BK230.out 2; have hfz43_3 := blk_frozen BK230.out 3; have hfz43_4 := blk_frozen BK230.out 4; have hcz44_0 : w34.cell? ⟨gb204, 0, none⟩ = some (.int .i64 0) := (blk_cell BK204.out 0).trans rfl; have hcz44_1 : w34.cell? ⟨gb204, 1, none⟩ = some (.slice none 0 0) := (blk_cell BK204.out 1).trans rfl; have hcz44_2 : w34.cell? ⟨gb204, 2, none⟩ = some (.slice none 0 0) := (blk_cell BK204.out 2).trans rfl; have hcz44_3 : w34.cell? ⟨gb204, 3, none⟩ = some (.slice none 0 0) := (blk_cell BK204.out 3).trans rfl; have hcz44_4 : w34.cell? ⟨gb204, 4, none⟩ = some (.slice none 0 0) := (blk_cell BK204.out 4).trans rfl; have hcz44_5 : w34.cell? ⟨gb204, 5, none⟩ = some (.int .i64 0) := (blk_cell BK204.out 5).trans rfl; have hcz44_6 : w34.cell? ⟨gb204, 6, none⟩ = some (.int .i64 0) := (blk_cell BK204.out 6).trans rfl; have hcz44_7 : w34.cell? ⟨gb204, 7, none⟩ = some (.slice none 0 0) := (blk_cell BK204.out 7).trans rfl; have hcz44_8 : w34.cell? ⟨gb204, 8, none⟩ = some (.slice none 0 0) := (blk_cell BK204.out 8).trans rfl; have hcz44_9 : w34.cell? ⟨gb204, 9, none⟩ = some (.slice none 0 0) := (blk_cell BK204.out 9).trans rfl; have hcz44_10 : w34.cell? ⟨gb204, 10, none⟩ = some (.slice none 0 0) := (blk_cell BK204.out 10).trans rfl; have hcz44_11 : w34.cell? ⟨gb204, 11, none⟩ = some (.int .i64 0) := (blk_cell BK204.out 11).trans rfl; have hfz44_0 := blk_frozen BK204.out 0; have hfz44_1 := blk_frozen BK204.out 1; have hfz44_2 := blk_frozen BK204.out 2; have hfz44_3 := blk_frozen BK204.out 3; have hfz44_4 := blk_frozen BK204.out 4; have hfz44_5 := blk_frozen BK204.out 5; have hfz44_6 := blk_frozen BK204.out 6; have hfz44_7 := blk_frozen BK204.out 7; have hfz44_8 := blk_frozen BK204.out 8; have hfz44_9 := blk_frozen BK204.out 9; have hfz44_10 := blk_frozen BK204.out 10; have hfz44_11 := blk_frozen BK204.out 11))
  refine bodyPost_ret (results_ct rfl _ _ gb204 55 #[.int .i64 t213, .slice Ao22 t214.length co22, .slice Ao24 t217.length co24, .slice Ao26 t220.length co26, .slice Ao28 t223.length co28, .int .i64 t231, .int .i64 t232, .slice Ao39 t233.length co39, .slice Ao40 t236.length co40, .slice Ao41 t239.length co41, .slice Ao42 t242.length co42, .int .i64 t245] (0, 0) _ rfl (by (with_reducible repeat (first | refine blk_drewN ?_ _ | refine blk_drew ?_ | refine blk_alloc ?_ _)); refine blk_put (cs := #[.int .i64 t213, .slice Ao22 t214.length co22, .slice Ao24 t217.length co24, .slice Ao26 t220.length co26, .slice Ao28 t223.length co28, .int .i64 t231, .int .i64 t232, .slice Ao39 t233.length co39, .slice Ao40 t236.length co40, .slice Ao41 t239.length co41, .slice Ao42 t242.length co42, .int .i64 0]) ?_ 11 _ rfl; (with_reducible repeat (first | refine blk_drewN ?_ _ | refine blk_drew ?_ | refine blk_alloc ?_ _)); refine blk_put (cs := #[.int .i64 t213, .slice Ao22 t214.length co22, .slice Ao24 t217.length co24, .slice Ao26 t220.length co26, .slice Ao28 t223.length co28, .int .i64 t231, .int .i64 t232, .slice Ao39 t233.length co39, .slice Ao40 t236.length co40, .slice Ao41 t239.length co41, .slice none 0 0, .int .i64 0]) ?_ 10 _ rfl; (with_reducible repeat (first | refine blk_drewN ?_ _ | refine blk_drew ?_ | refine blk_alloc ?_ _)); refine blk_put (cs := #[.int .i64 t213, .slice Ao22 t214.length co22, .slice Ao24 t217.length co24, .slice Ao26 t220.length co26, .slice Ao28 t223.length co28, .int .i64 t231, .int .i64 t232, .slice Ao39 t233.length co39, .slice Ao40 t236.length co40, .slice none 0 0, .slice none 0 0, .int .i64 0]) ?_ 9 _ rfl; (with_reducible repeat (first | refine blk_drewN ?_ _ | refine blk_drew ?_ | refine blk_alloc ?_ _)); refine blk_put (cs := #[.int .i64 t213, .slice Ao22 t214.length co22, .slice Ao24 t217.length co24, .slice Ao26 t220.length co26, .slice Ao28 t223.length co28, .int .i64 t231, .int .i64 t232, .slice Ao39 t233.length co39, .slice none 0 0, .slice none 0 0, .slice none 0 0, .int .i64 0]) ?_ 8 _ rfl; (with_reducible repeat (first | refine blk_drewN ?_ _ | refine blk_drew ?_ | refine blk_alloc ?_ _)); refine blk_put (cs := #[.int .i64 t213, .slice Ao22 t214.length co22, .slice Ao24 t217.length co24, .slice Ao26 t220.length co26, .slice Ao28 t223.length co28, .int .i64 t231, .int .i64 t232, .slice none 0 0, .slice none 0 0, .slice none 0 0, .slice none 0 0, .int .i64 0]) ?_ 7 _ rfl; (with_reducible repeat (first | refine blk_drewN ?_ _ | refine blk_drew ?_ | refine blk_alloc ?_ _)); refine blk_put (cs := #[.int .i64 t213, .slice Ao22 t214.length co22, .slice Ao24 t217.length co24, .slice Ao26 t220.length co26, .slice Ao28 t223.length co28, .int .i64 t231, .int .i64 0, .slice none 0 0, .slice none 0 0, .slice none 0 0, .slice none 0 0, .int .i64 0]) ?_ 6 _ rfl; (with_reducible repeat (first | refine blk_drewN ?_ _ | refine blk_drew ?_ | refine blk_alloc ?_ _)); refine blk_put (cs := #[.int .i64 t213, .slice Ao22 t214.length co22, .slice Ao24 t217.length co24, .slice Ao26 t220.length co26, .slice Ao28 t223.length co28, .int .i64 0, .int .i64 0, .slice none 0 0, .slice none 0 0, .slice none 0 0, .slice none 0 0, .int .i64 0]) ?_ 5 _ rfl; (with_reducible repeat (first | refine blk_drewN ?_ _ | refine blk_drew ?_ | refine blk_alloc ?_ _)); refine blk_put (cs := #[.int .i64 t213, .slice Ao22 t214.length co22, .slice Ao24 t217.length co24, .slice Ao26 t220.length co26, .slice none 0 0, .int .i64 0, .int .i64 0, .slice none 0 0, .slice none 0 0, .slice none 0 0, .slice none 0 0, .int .i64 0]) ?_ 4 _ rfl; (with_reducible repeat (first | refine blk_drewN ?_ _ | refine blk_drew ?_ | refine blk_alloc ?_ _)); refine blk_put (cs := #[.int .i64 t213, .slice Ao22 t214.length co22, .slice Ao24 t217.length co24, .slice none 0 0, .slice none 0 0, .int .i64 0, .int .i64 0, .slice none 0 0, .slice none 0 0, .slice none 0 0, .slice none 0 0, .int .i64 0]) ?_ 3 _ rfl; (with_reducible repeat (first | refine blk_drewN ?_ _ | refine blk_drew ?_ | refine blk_alloc ?_ _)); refine blk_put (cs := #[.int .i64 t213, .slice Ao22 t214.length co22, .slice none 0 0, .slice none 0 0, .slice none 0 0, .int .i64 0, .int .i64 0, .slice none 0 0, .slice none 0 0, .slice none 0 0, .slice none 0 0, .int .i64 0]) ?_ 2 _ rfl; (with_reducible repeat (first | refine blk_drewN ?_ _ | refine blk_drew ?_ | refine blk_alloc ?_ _)); refine blk_put (cs := #[.int .i64 t213, .slice none 0 0, .slice none 0 0, .slice none 0 0, .slice none 0 0, .int .i64 0, .int .i64 0, .slice none 0 0, .slice none 0 0, .slice none 0 0, .slice none 0 0, .int .i64 0]) ?_ 1 _ rfl; (with_reducible repeat (first | refine blk_drewN ?_ _ | refine blk_drew ?_ | refine blk_alloc ?_ _)); refine blk_put (cs := #[.int .i64 0, .slice none 0 0, .slice none 0 0, .slice none 0 0, .slice none 0 0, .int .i64 0, .int .i64 0, .slice none 0 0, .slice none 0 0, .slice none 0 0, .slice none 0 0, .int .i64 0]) ?_ 0 _ rfl; (with_reducible repeat (first | refine blk_drewN ?_ _ | refine blk_drew ?_ | refine blk_alloc ?_ _)); refine blk_far ?_ NB204_247.out _; (with_reducible repeat (first | refine blk_drewN ?_ _ | refine blk_drew ?_ | refine blk_alloc ?_ _)); refine blk_far ?_ NB204_247.out _; (with_reducible repeat (first | refine blk_drewN ?_ _ | refine blk_drew ?_ | refine blk_alloc ?_ _)); refine blk_far ?_ NB204_247.out _; (with_reducible repeat (first | refine blk_drewN ?_ _ | refine blk_drew ?_ | refine blk_alloc ?_ _)); refine blk_far ?_ NB204_247.out _; (with_reducible repeat (first | refine blk_drewN ?_ _ | refine blk_drew ?_ | refine blk_alloc ?_ _)); refine blk_far ?_ NB204_247.out _; (with_reducible repeat (first | refine blk_drewN ?_ _ | refine blk_drew ?_ | refine blk_alloc ?_ _)); refine blk_far ?_ NB204_247.out _; (with_reducible repeat (first | refine blk_drewN ?_ _ | refine blk_drew ?_ | refine blk_alloc ?_ _)); refine blk_far ?_ NB204_247.out _; (with_reducible repeat (first | refine blk_drewN ?_ _ | refine blk_drew ?_ | refine blk_alloc ?_ _)); exact BK204.out) Try.underlying55 rfl (by kernel_rfl)) rfl ?_
  exact ⟨_, _, _, _, _, _, _, _, by first | rfl | (simp [errW_none, errW_some] <;> rfl) | (simp [*, errW_none, errW_some] <;> rfl), by (with_reducible repeat (first | apply a0_ | apply a1_ | apply a2_)); exact Kd.R_mono (Kd.R_far (p := ⟨gb204, 11, none⟩) (Kd.R_far (p := ⟨gb204, 10, none⟩) (Kd.R_far (p := ⟨gb204, 9, none⟩) (Kd.R_far (p := ⟨gb204, 8, none⟩) (Kd.R_far (p := ⟨gb204, 7, none⟩) (Kd.R_far (p := ⟨gb204, 6, none⟩) (Kd.R_far (p := ⟨gb204, 5, none⟩) (Kd.R_far (p := ⟨gb204, 4, none⟩) (Kd.R_far (p := ⟨gb204, 3, none⟩) (Kd.R_far (p := ⟨gb204, 2, none⟩) (Kd.R_far (p := ⟨gb204, 1, none⟩) (Kd.R_far (p := ⟨gb204, 0, none⟩) (Kd.R_far (p := ⟨gb247, 6, none⟩) (Kd.R_far (p := ⟨gb247, 5, none⟩) (Kd.R_far (p := ⟨gb247, 4, none⟩) (Kd.R_far (p := ⟨gb247, 3, none⟩) (Kd.R_far (p := ⟨gb247, 2, none⟩) (Kd.R_far (p := ⟨gb247, 1, none⟩) (Kd.R_far (p := ⟨gb247, 0, none⟩) (Kd.R_types (Kd.R_types HO216.out BK247.out (by decide)) BK204.out (by decide)) (fun _ hk => hk.1.2) (.int .i64 t231)) (fun _ hk => hk.1.2) (.int .i64 t232)) (fun _ hk => hk.1.2) (.slice Ao39 t233.length co39)) (fun _ hk => hk.1.2) (.slice Ao40 t236.length co40)) (fun _ hk => hk.1.2) (.slice Ao41 t239.length co41)) (fun _ hk => hk.1.2) (.slice Ao42 t242.length co42)) (fun _ hk => hk.1.2) (.int .i64 t245)) (fun _ hk => hk.2) (.int .i64 t213)) (fun _ hk => hk.2) (.slice Ao22 t214.length co22)) (fun _ hk => hk.2) (.slice Ao24 t217.length co24)) (fun _ hk => hk.2) (.slice Ao26 t220.length co26)) (fun _ hk => hk.2) (.slice Ao28 t223.length co28)) (fun _ hk => hk.2) (.int .i64 t231)) (fun _ hk => hk.2) (.int .i64 t232)) (fun _ hk => hk.2) (.slice Ao39 t233.length co39)) (fun _ hk => hk.2) (.slice Ao40 t236.length co40)) (fun _ hk => hk.2) (.slice Ao41 t239.length co41)) (fun _ hk => hk.2) (.slice Ao42 t242.length co42)) (fun _ hk => hk.2) (.int .i64 t245)) (fun _ hk => trivial), by (with_reducible repeat (first | apply a0_ | apply a1_ | apply a2_)); exact Kd.R_mono (Kd.R_far (p := ⟨gb204, 11, none⟩) (Kd.R_far (p := ⟨gb204, 10, none⟩) (Kd.R_far (p := ⟨gb204, 9, none⟩) (Kd.R_far (p := ⟨gb204, 8, none⟩) (Kd.R_far (p := ⟨gb204, 7, none⟩) (Kd.R_far (p := ⟨gb204, 6, none⟩) (Kd.R_far (p := ⟨gb204, 5, none⟩) (Kd.R_far (p := ⟨gb204, 4, none⟩) (Kd.R_far (p := ⟨gb204, 3, none⟩) (Kd.R_far (p := ⟨gb204, 2, none⟩) (Kd.R_far (p := ⟨gb204, 1, none⟩) (Kd.R_far (p := ⟨gb204, 0, none⟩) (Kd.R_far (p := ⟨gb247, 6, none⟩) (Kd.R_far (p := ⟨gb247, 5, none⟩) (Kd.R_far (p := ⟨gb247, 4, none⟩) (Kd.R_far (p := ⟨gb247, 3, none⟩) (Kd.R_far (p := ⟨gb247, 2, none⟩) (Kd.R_far (p := ⟨gb247, 1, none⟩) (Kd.R_far (p := ⟨gb247, 0, none⟩) (Kd.R_types (Kd.R_types HO219.out BK247.out (by decide)) BK204.out (by decide)) (fun _ hk => hk.1.2) (.int .i64 t231)) (fun _ hk => hk.1.2) (.int .i64 t232)) (fun _ hk => hk.1.2) (.slice Ao39 t233.length co39)) (fun _ hk => hk.1.2) (.slice Ao40 t236.length co40)) (fun _ hk => hk.1.2) (.slice Ao41 t239.length co41)) (fun _ hk => hk.1.2) (.slice Ao42 t242.length co42)) (fun _ hk => hk.1.2) (.int .i64 t245)) (fun _ hk => hk.2) (.int .i64 t213)) (fun _ hk => hk.2) (.slice Ao22 t214.length co22)) (fun _ hk => hk.2) (.slice Ao24 t217.length co24)) (fun _ hk => hk.2) (.slice Ao26 t220.length co26)) (fun _ hk => hk.2) (.slice Ao28 t223.length co28)) (fun _ hk => hk.2) (.int .i64 t231)) (fun _ hk => hk.2) (.int .i64 t232)) (fun _ hk => hk.2) (.slice Ao39 t233.length co39)) (fun _ hk => hk.2) (.slice Ao40 t236.length co40)) (fun _ hk => hk.2) (.slice Ao41 t239.length co41)) (fun _ hk => hk.2) (.slice Ao42 t242.length co42)) (fun _ hk => hk.2) (.int .i64 t245)) (fun _ hk => hk.1.1.2), by (with_reducible repeat (first | apply a0_ | apply a1_ | apply a2_)); exact Kd.R_mono (Kd.R_far (p := ⟨gb204, 11, none⟩) (Kd.R_far (p := ⟨gb204, 10, none⟩) (Kd.R_far (p := ⟨gb204, 9, none⟩) (Kd.R_far (p := ⟨gb204, 8, none⟩) (Kd.R_far (p := ⟨gb204, 7, none⟩) (Kd.R_far (p := ⟨gb204, 6, none⟩) (Kd.R_far (p := ⟨gb204, 5, none⟩) (Kd.R_far (p := ⟨gb204, 4, none⟩) (Kd.R_far (p := ⟨gb204, 3, none⟩) (Kd.R_far (p := ⟨gb204, 2, none⟩) (Kd.R_far (p := ⟨gb204, 1, none⟩) (Kd.R_far (p := ⟨gb204, 0, none⟩) (Kd.R_far (p := ⟨gb247, 6, none⟩) (Kd.R_far (p := ⟨gb247, 5, none⟩) (Kd.R_far (p := ⟨gb247, 4, none⟩) (Kd.R_far (p := ⟨gb247, 3, none⟩) (Kd.R_far (p := ⟨gb247, 2, none⟩) (Kd.R_far (p := ⟨gb247, 1, none⟩) (Kd.R_far (p := ⟨gb247, 0, none⟩) (Kd.R_types (Kd.R_types HO222.out BK247.out (by decide)) BK204.out (by decide)) (fun _ hk => hk.1.2) (.int .i64 t231)) (fun _ hk => hk.1.2) (.int .i64 t232)) (fun _ hk => hk.1.2) (.slice Ao39 t233.length co39)) (fun _ hk => hk.1.2) (.slice Ao40 t236.length co40)) (fun _ hk => hk.1.2) (.slice Ao41 t239.length co41)) (fun _ hk => hk.1.2) (.slice Ao42 t242.length co42)) (fun _ hk => hk.1.2) (.int .i64 t245)) (fun _ hk => hk.2) (.int .i64 t213)) (fun _ hk => hk.2) (.slice Ao22 t214.length co22)) (fun _ hk => hk.2) (.slice Ao24 t217.length co24)) (fun _ hk => hk.2) (.slice Ao26 t220.length co26)) (fun _ hk => hk.2) (.slice Ao28 t223.length co28)) (fun _ hk => hk.2) (.int .i64 t231)) (fun _ hk => hk.2) (.int .i64 t232)) (fun _ hk => hk.2) (.slice Ao39 t233.length co39)) (fun _ hk => hk.2) (.slice Ao40 t236.length co40)) (fun _ hk => hk.2) (.slice Ao41 t239.length co41)) (fun _ hk => hk.2) (.slice Ao42 t242.length co42)) (fun _ hk => hk.2) (.int .i64 t245)) (fun _ hk => ⟨hk.1.1.1.1.2.2.1, ⟨hk.1.1.1.2, hk.1.1.2⟩⟩), by (with_reducible repeat (first | apply a0_ | apply a1_ | apply a2_)); exact Kd.R_mono (Kd.R_far (p := ⟨gb204, 11, none⟩) (Kd.R_far (p := ⟨gb204, 10, none⟩) (Kd.R_far (p := ⟨gb204, 9, none⟩) (Kd.R_far (p := ⟨gb204, 8, none⟩) (Kd.R_far (p := ⟨gb204, 7, none⟩) (Kd.R_far (p := ⟨gb204, 6, none⟩) (Kd.R_far (p := ⟨gb204, 5, none⟩) (Kd.R_far (p := ⟨gb204, 4, none⟩) (Kd.R_far (p := ⟨gb204, 3, none⟩) (Kd.R_far (p := ⟨gb204, 2, none⟩) (Kd.R_far (p := ⟨gb204, 1, none⟩) (Kd.R_far (p := ⟨gb204, 0, none⟩) (Kd.R_far (p := ⟨gb247, 6, none⟩) (Kd.R_far (p := ⟨gb247, 5, none⟩) (Kd.R_far (p := ⟨gb247, 4, none⟩) (Kd.R_far (p := ⟨gb247, 3, none⟩) (Kd.R_far (p := ⟨gb247, 2, none⟩) (Kd.R_far (p := ⟨gb247, 1, none⟩) (Kd.R_far (p := ⟨gb247, 0, none⟩) (Kd.R_types (Kd.R_types HO225.out BK247.out (by decide)) BK204.out (by decide)) (fun _ hk => hk.1.2) (.int .i64 t231)) (fun _ hk => hk.1.2) (.int .i64 t232)) (fun _ hk => hk.1.2) (.slice Ao39 t233.length co39)) (fun _ hk => hk.1.2) (.slice Ao40 t236.length co40)) (fun _ hk => hk.1.2) (.slice Ao41 t239.length co41)) (fun _ hk => hk.1.2) (.slice Ao42 t242.length co42)) (fun _ hk => hk.1.2) (.int .i64 t245)) (fun _ hk => hk.2) (.int .i64 t213)) (fun _ hk => hk.2) (.slice Ao22 t214.length co22)) (fun _ hk => hk.2) (.slice Ao24 t217.length co24)) (fun _ hk => hk.2) (.slice Ao26 t220.length co26)) (fun _ hk => hk.2) (.slice Ao28 t223.length co28)) (fun _ hk => hk.2) (.int .i64 t231)) (fun _ hk => hk.2) (.int .i64 t232)) (fun _ hk => hk.2) (.slice Ao39 t233.length co39)) (fun _ hk => hk.2) (.slice Ao40 t236.length co40)) (fun _ hk => hk.2) (.slice Ao41 t239.length co41)) (fun _ hk => hk.2) (.slice Ao42 t242.length co42)) (fun _ hk => hk.2) (.int .i64 t245)) (fun _ hk => ⟨hk.1.1.1.1.2.2.1, ⟨hk.1.1.1.2, hk.1.1.2⟩⟩), by (with_reducible repeat (first | apply a0_ | apply a1_ | apply a2_)); exact Kd.R_mono (Kd.R_far (p := ⟨gb204, 11, none⟩) (Kd.R_far (p := ⟨gb204, 10, none⟩) (Kd.R_far (p := ⟨gb204, 9, none⟩) (Kd.R_far (p := ⟨gb204, 8, none⟩) (Kd.R_far (p := ⟨gb204, 7, none⟩) (Kd.R_far (p := ⟨gb204, 6, none⟩) (Kd.R_far (p := ⟨gb204, 5, none⟩) (Kd.R_far (p := ⟨gb204, 4, none⟩) (Kd.R_far (p := ⟨gb204, 3, none⟩) (Kd.R_far (p := ⟨gb204, 2, none⟩) (Kd.R_far (p := ⟨gb204, 1, none⟩) (Kd.R_far (p := ⟨gb204, 0, none⟩) (Kd.R_far (p := ⟨gb247, 6, none⟩) (Kd.R_far (p := ⟨gb247, 5, none⟩) (Kd.R_far (p := ⟨gb247, 4, none⟩) (Kd.R_far (p := ⟨gb247, 3, none⟩) (Kd.R_far (p := ⟨gb247, 2, none⟩) (Kd.R_far (p := ⟨gb247, 1, none⟩) (Kd.R_far (p := ⟨gb247, 0, none⟩) (Kd.R_types (Kd.R_types HO235.out BK247.out (by decide)) BK204.out (by decide)) (fun _ hk => hk.1.2) (.int .i64 t231)) (fun _ hk => hk.1.2) (.int .i64 t232)) (fun _ hk => hk.1.2) (.slice Ao39 t233.length co39)) (fun _ hk => hk.1.2) (.slice Ao40 t236.length co40)) (fun _ hk => hk.1.2) (.slice Ao41 t239.length co41)) (fun _ hk => hk.1.2) (.slice Ao42 t242.length co42)) (fun _ hk => hk.1.2) (.int .i64 t245)) (fun _ hk => hk.2) (.int .i64 t213)) (fun _ hk => hk.2) (.slice Ao22 t214.length co22)) (fun _ hk => hk.2) (.slice Ao24 t217.length co24)) (fun _ hk => hk.2) (.slice Ao26 t220.length co26)) (fun _ hk => hk.2) (.slice Ao28 t223.length co28)) (fun _ hk => hk.2) (.int .i64 t231)) (fun _ hk => hk.2) (.int .i64 t232)) (fun _ hk => hk.2) (.slice Ao39 t233.length co39)) (fun _ hk => hk.2) (.slice Ao40 t236.length co40)) (fun _ hk => hk.2) (.slice Ao41 t239.length co41)) (fun _ hk => hk.2) (.slice Ao42 t242.length co42)) (fun _ hk => hk.2) (.int .i64 t245)) (fun _ hk => ⟨hk.1.1.1.1.2, ⟨hk.1.1.1.2, hk.1.1.1.1.1.1.1⟩⟩), by (with_reducible repeat (first | apply Kd.S_alloc | apply Kd.S_drewN | apply Kd.S_drew)); exact Kd.S_mono (Kd.S_far (p := ⟨gb204, 11, none⟩) (Kd.S_far (p := ⟨gb204, 10, none⟩) (Kd.S_far (p := ⟨gb204, 9, none⟩) (Kd.S_far (p := ⟨gb204, 8, none⟩) (Kd.S_far (p := ⟨gb204, 7, none⟩) (Kd.S_far (p := ⟨gb204, 6, none⟩) (Kd.S_far (p := ⟨gb204, 5, none⟩) (Kd.S_far (p := ⟨gb204, 4, none⟩) (Kd.S_far (p := ⟨gb204, 3, none⟩) (Kd.S_far (p := ⟨gb204, 2, none⟩) (Kd.S_far (p := ⟨gb204, 1, none⟩) (Kd.S_far (p := ⟨gb204, 0, none⟩) (Kd.S_far (p := ⟨gb247, 6, none⟩) (Kd.S_far (p := ⟨gb247, 5, none⟩) (Kd.S_far (p := ⟨gb247, 4, none⟩) (Kd.S_far (p := ⟨gb247, 3, none⟩) (Kd.S_far (p := ⟨gb247, 2, none⟩) (Kd.S_far (p := ⟨gb247, 1, none⟩) (Kd.S_far (p := ⟨gb247, 0, none⟩) (Kd.S_types (Kd.S_types HO238.out BK247.out (by decide)) BK204.out (by decide)) (fun _ hk => hk.1.2) (.int .i64 t231)) (fun _ hk => hk.1.2) (.int .i64 t232)) (fun _ hk => hk.1.2) (.slice Ao39 t233.length co39)) (fun _ hk => hk.1.2) (.slice Ao40 t236.length co40)) (fun _ hk => hk.1.2) (.slice Ao41 t239.length co41)) (fun _ hk => hk.1.2) (.slice Ao42 t242.length co42)) (fun _ hk => hk.1.2) (.int .i64 t245)) (fun _ hk => hk.2) (.int .i64 t213)) (fun _ hk => hk.2) (.slice Ao22 t214.length co22)) (fun _ hk => hk.2) (.slice Ao24 t217.length co24)) (fun _ hk => hk.2) (.slice Ao26 t220.length co26)) (fun _ hk => hk.2) (.slice Ao28 t223.length co28)) (fun _ hk => hk.2) (.int .i64 t231)) (fun _ hk => hk.2) (.int .i64 t232)) (fun _ hk => hk.2) (.slice Ao39 t233.length co39)) (fun _ hk => hk.2) (.slice Ao40 t236.length co40)) (fun _ hk => hk.2) (.slice Ao41 t239.length co41)) (fun _ hk => hk.2) (.slice Ao42 t242.length co42)) (fun _ hk => hk.2) (.int .i64 t245)) (fun _ hk => ⟨hk.1.1.1.1.2, ⟨hk.1.1.1.2, ⟨hk.1.1.1.1.1.1.1.1, hk.1.1.1.1.1.1.1.2⟩⟩⟩), by (with_reducible repeat (first | apply a0_ | apply a1_ | apply a2_)); exact Kd.R_mono (Kd.R_far (p := ⟨gb204, 11, none⟩) (Kd.R_far (p := ⟨gb204, 10, none⟩) (Kd.R_far (p := ⟨gb204, 9, none⟩) (Kd.R_far (p := ⟨gb204, 8, none⟩) (Kd.R_far (p := ⟨gb204, 7, none⟩) (Kd.R_far (p := ⟨gb204, 6, none⟩) (Kd.R_far (p := ⟨gb204, 5, none⟩) (Kd.R_far (p := ⟨gb204, 4, none⟩) (Kd.R_far (p := ⟨gb204, 3, none⟩) (Kd.R_far (p := ⟨gb204, 2, none⟩) (Kd.R_far (p := ⟨gb204, 1, none⟩) (Kd.R_far (p := ⟨gb204, 0, none⟩) (Kd.R_far (p := ⟨gb247, 6, none⟩) (Kd.R_far (p := ⟨gb247, 5, none⟩) (Kd.R_far (p := ⟨gb247, 4, none⟩) (Kd.R_far (p := ⟨gb247, 3, none⟩) (Kd.R_far (p := ⟨gb247, 2, none⟩) (Kd.R_far (p := ⟨gb247, 1, none⟩) (Kd.R_far (p := ⟨gb247, 0, none⟩) (Kd.R_types (Kd.R_types HO241.out BK247.out (by decide)) BK204.out (by decide)) (fun _ hk => hk.1.2) (.int .i64 t231)) (fun _ hk => hk.1.2) (.int .i64 t232)) (fun _ hk => hk.1.2) (.slice Ao39 t233.length co39)) (fun _ hk => hk.1.2) (.slice Ao40 t236.length co40)) (fun _ hk => hk.1.2) (.slice Ao41 t239.length co41)) (fun _ hk => hk.1.2) (.slice Ao42 t242.length co42)) (fun _ hk => hk.1.2) (.int .i64 t245)) (fun _ hk => hk.2) (.int .i64 t213)) (fun _ hk => hk.2) (.slice Ao22 t214.length co22)) (fun _ hk => hk.2) (.slice Ao24 t217.length co24)) (fun _ hk => hk.2) (.slice Ao26 t220.length co26)) (fun _ hk => hk.2) (.slice Ao28 t223.length co28)) (fun _ hk => hk.2) (.int .i64 t231)) (fun _ hk => hk.2) (.int .i64 t232)) (fun _ hk => hk.2) (.slice Ao39 t233.length co39)) (fun _ hk => hk.2) (.slice Ao40 t236.length co40)) (fun _ hk => hk.2) (.slice Ao41 t239.length co41)) (fun _ hk => hk.2) (.slice Ao42 t242.length co42)) (fun _ hk => hk.2) (.int .i64 t245)) (fun _ hk => ⟨hk.1.1.1.1.2, ⟨hk.1.1.1.2, hk.1.1.1.1.1.1.1⟩⟩), by (with_reducible repeat (first | apply a0_ | apply a1_ | apply a2_)); exact Kd.R_mono (Kd.R_far (p := ⟨gb204, 11, none⟩) (Kd.R_far (p := ⟨gb204, 10, none⟩) (Kd.R_far (p := ⟨gb204, 9, none⟩) (Kd.R_far (p := ⟨gb204, 8, none⟩) (Kd.R_far (p := ⟨gb204, 7, none⟩) (Kd.R_far (p := ⟨gb204, 6, none⟩) (Kd.R_far (p := ⟨gb204, 5, none⟩) (Kd.R_far (p := ⟨gb204, 4, none⟩) (Kd.R_far (p := ⟨gb204, 3, none⟩) (Kd.R_far (p := ⟨gb204, 2, none⟩) (Kd.R_far (p := ⟨gb204, 1, none⟩) (Kd.R_far (p := ⟨gb204, 0, none⟩) (Kd.R_far (p := ⟨gb247, 6, none⟩) (Kd.R_far (p := ⟨gb247, 5, none⟩) (Kd.R_far (p := ⟨gb247, 4, none⟩) (Kd.R_far (p := ⟨gb247, 3, none⟩) (Kd.R_far (p := ⟨gb247, 2, none⟩) (Kd.R_far (p := ⟨gb247, 1, none⟩) (Kd.R_far (p := ⟨gb247, 0, none⟩) (Kd.R_types (Kd.R_types HO244.out BK247.out (by decide)) BK204.out (by decide)) (fun _ hk => hk.1.2) (.int .i64 t231)) (fun _ hk => hk.1.2) (.int .i64 t232)) (fun _ hk => hk.1.2) (.slice Ao39 t233.length co39)) (fun _ hk => hk.1.2) (.slice Ao40 t236.length co40)) (fun _ hk => hk.1.2) (.slice Ao41 t239.length co41)) (fun _ hk => hk.1.2) (.slice Ao42 t242.length co42)) (fun _ hk => hk.1.2) (.int .i64 t245)) (fun _ hk => hk.2) (.int .i64 t213)) (fun _ hk => hk.2) (.slice Ao22 t214.length co22)) (fun _ hk => hk.2) (.slice Ao24 t217.length co24)) (fun _ hk => hk.2) (.slice Ao26 t220.length co26)) (fun _ hk => hk.2) (.slice Ao28 t223.length co28)) (fun _ hk => hk.2) (.int .i64 t231)) (fun _ hk => hk.2) (.int .i64 t232)) (fun _ hk => hk.2) (.slice Ao39 t233.length co39)) (fun _ hk => hk.2) (.slice Ao40 t236.length co40)) (fun _ hk => hk.2) (.slice Ao41 t239.length co41)) (fun _ hk => hk.2) (.slice Ao42 t242.length co42)) (fun _ hk => hk.2) (.int .i64 t245)) (fun _ hk => hk.1.1.2), by repeat (first | (with_reducible first | exact HB.out | apply b0_ | apply b1_ | apply b2_ | refine below_set ?_ GE203.out | refine below_set ?_ GE204.out | refine below_set ?_ GE230.out | refine below_set ?_ GE247.out) | exact HB.out)⟩
 ·rw [if_neg c3] at H
  have c3b0 : (t206 == 0) = false := beq_eq_false_iff_ne.mpr c3
  have c3b1 : (t206 != 0) = true := bne_iff_ne.mpr c3
  simp only [Option.some.injEq, Prod.mk.injEq] at H
  obtain ⟨rfl, rfl, rfl, rfl, rfl, rfl, rfl, rfl, rfl, rfl, rfl, rfl, rfl⟩ := H
  go_enter Try.func20, Try.ntmps20
  go_wp2_with (first | ((with_reducible refine gate_dst (N := 1) rfl ?_); refine box_event ?hg (N := 1) ?hd (cs := #[.int .i64 a0_0, .slice A0_1 l0_1.length c0_1, .slice A0_2 l0_2.length c0_2, .slice A0_3 l0_3.length c0_3, .slice A0_4 l0_4.length c0_4]) (t := 26) ?hr ?_; (case hd => rfl); (case hg => rfl); (case hr => first | (go_simp; done) | (go_simp; rfl)); intro gb203 hg w45 hbox hb; have n1_ := M_ (hbox); have n2_ := M_ ((by rw [hg]; exact (below_size (wl_ HB.out)) : w.heap.size ≤ gb203)); have n3_ := M_ ((by rw [hg]; exact (below_size (wl_ HB.out)) : w.heap.size ≤ gb203)); replace HB := wb_ HB hb; have BK203 := n1_; have GW203 := n2_; have GE203 := n3_; have gi203 : Ge _ _ := ⟨GE203.out⟩; clear n1_ n2_ n3_; clear hb hbox hg) | ((with_reducible refine gate_dst (N := 2) rfl ?_); refine box_event ?hg (N := 2) ?hd (cs := #[.int .i64 0, .slice none 0 0, .slice none 0 0, .slice none 0 0, .slice none 0 0, .int .i64 0, .int .i64 0, .slice none 0 0, .slice none 0 0, .slice none 0 0, .slice none 0 0, .int .i64 0]) (t := 55) ?hr ?_; (case hd => rfl); (case hg => rfl); (case hr => first | (go_simp; done) | (go_simp; rfl)); intro gb204 hg w46 hbox hb; have n2_ := M_ (hbox); have n3_ := M_ ((by rw [hg]; exact (below_size (ws_ HB.out)) : w.heap.size ≤ gb204)); have n4_ := M_ ((by rw [hg]; exact (below_size (ws_ HB.out)) : w.heap.size ≤ gb204)); have n5_ := M_ ((by rw [hg]; exact Nat.ne_of_lt (blk_lt (bl_ BK203.out)) : gb203 ≠ gb204)); have n6_ := M_ ((by rw [hg]; exact Nat.ne_of_gt (blk_lt (bl_ BK203.out)) : gb204 ≠ gb203)); replace BK203 := bb_ BK203 hb; replace HB := wb_ HB hb; have BK204 := n2_; have GW204 := n3_; have GE204 := n4_; have gi204 : Ge _ _ := ⟨GE204.out⟩; have NB203_204 := n5_; have NB204_203 := n6_; clear n2_ n3_ n4_ n5_ n6_; clear hb hbox hg; have hnb47 := NB203_204.out; have hnc47 := NB204_203.out; have hcz48_0 : w46.cell? ⟨gb203, 0, none⟩ = some (.int .i64 a0_0) := (blk_cell BK203.out 0).trans rfl; have hcz48_1 : w46.cell? ⟨gb203, 1, none⟩ = some (.slice A0_1 l0_1.length c0_1) := (blk_cell BK203.out 1).trans rfl; have hcz48_2 : w46.cell? ⟨gb203, 2, none⟩ = some (.slice A0_2 l0_2.length c0_2) := (blk_cell BK203.out 2).trans rfl; have hcz48_3 : w46.cell? ⟨gb203, 3, none⟩ = some (.slice A0_3 l0_3.length c0_3) := (blk_cell BK203.out 3).trans rfl; have hcz48_4 : w46.cell? ⟨gb203, 4, none⟩ = some (.slice A0_4 l0_4.length c0_4) := (blk_cell BK203.out 4).trans rfl; have hfz48_0 := blk_frozen BK203.out 0; have hfz48_1 := blk_frozen BK203.out 1; have hfz48_2 := blk_frozen BK203.out 2; have hfz48_3 := blk_frozen BK203.out 3; have hfz48_4 := blk_frozen BK203.out 4) | ((with_reducible refine gate_callee (f := 30) rfl ?_); refine goesL_ (some 13) rfl rfl Try.func30 (by kernel_rfl) rfl #[.agg #[.int .i64 a0_0, .slice A0_1 l0_1.length c0_1, .slice A0_2 l0_2.length c0_2, .slice A0_3 l0_3.length c0_3, .slice A0_4 l0_4.length c0_4]] rfl (by (try simp only [List.map_toArray, List.map_cons, List.map_nil]); first | done | rfl | (simp only [List.length_drop, List.length_take]; rfl)) ?_; (with_reducible refine (gates_Vars.calls a0_0 _ _ l0_1 _ _ l0_2 _ _ l0_3 _ _ l0_4 t205 t206 _ ?side1 ?side2 ?side3 ?side4 ?side5 ?side6 ?side7 ?side8 A2.out).mono ?_); (case side1 => exact cl_ (Kd.C_below HR0_1.out HB.out)); (case side2 => exact HC0_1.out); (case side3 => exact cl_ (Kd.C_below HR0_2.out HB.out)); (case side4 => exact HC0_2.out); (case side5 => exact cl_ (Kd.C_below HR0_3.out HB.out)); (case side6 => exact HC0_3.out); (case side7 => exact cl_ (Kd.C_below HR0_4.out HB.out)); (case side8 => exact HC0_4.out); rintro e w49 ⟨rfl, hb⟩; refine ⟨_, rfl, ?_⟩; replace BK203 := bb_ BK203 hb; replace BK204 := bb_ BK204 hb; replace HB := wb_ HB hb; (try clear hb); (try clear hb2); (try clear hk); (try clear hi); have hcz50_0 : w49.cell? ⟨gb204, 0, none⟩ = some (.int .i64 0) := (blk_cell BK204.out 0).trans rfl; have hcz50_1 : w49.cell? ⟨gb204, 1, none⟩ = some (.slice none 0 0) := (blk_cell BK204.out 1).trans rfl; have hcz50_2 : w49.cell? ⟨gb204, 2, none⟩ = some (.slice none 0 0) := (blk_cell BK204.out 2).trans rfl; have hcz50_3 : w49.cell? ⟨gb204, 3, none⟩ = some (.slice none 0 0) := (blk_cell BK204.out 3).trans rfl; have hcz50_4 : w49.cell? ⟨gb204, 4, none⟩ = some (.slice none 0 0) := (blk_cell BK204.out 4).trans rfl; have hcz50_5 : w49.cell? ⟨gb204, 5, none⟩ = some (.int .i64 0) := (blk_cell BK204.out 5).trans rfl; have hcz50_6 : w49.cell? ⟨gb204, 6, none⟩ = some (.int .i64 0) := (blk_cell BK204.out 6).trans rfl; have hcz50_7 : w49.cell? ⟨gb204, 7, none⟩ = some (.slice none 0 0) := (blk_cell BK204.out 7).trans rfl; have hcz50_8 : w49.cell? ⟨gb204, 8, none⟩ = some (.slice none 0 0) := (blk_cell BK204.out 8).trans rfl; have hcz50_9 : w49.cell? ⟨gb204, 9, none⟩ = some (.slice none 0 0) := (blk_cell BK204.out 9).trans rfl; have hcz50_10 : w49.cell? ⟨gb204, 10, none⟩ = some (.slice none 0 0) := (blk_cell BK204.out 10).trans rfl; have hcz50_11 : w49.cell? ⟨gb204, 11, none⟩ = some (.int .i64 0) := (blk_cell BK204.out 11).trans rfl; have hfz50_0 := blk_frozen BK204.out 0; have hfz50_1 := blk_frozen BK204.out 1; have hfz50_2 := blk_frozen BK204.out 2; have hfz50_3 := blk_frozen BK204.out 3; have hfz50_4 := blk_frozen BK204.out 4; have hfz50_5 := blk_frozen BK204.out 5; have hfz50_6 := blk_frozen BK204.out 6; have hfz50_7 := blk_frozen BK204.out 7; have hfz50_8 := blk_frozen BK204.out 8; have hfz50_9 := blk_frozen BK204.out 9; have hfz50_10 := blk_frozen BK204.out 10; have hfz50_11 := blk_frozen BK204.out 11))
  refine bodyPost_ret (results_ct rfl _ _ gb204 55 #[.int .i64 0, .slice none 0 0, .slice none 0 0, .slice none 0 0, .slice none 0 0, .int .i64 0, .int .i64 0, .slice none 0 0, .slice none 0 0, .slice none 0 0, .slice none 0 0, .int .i64 0] (0, 0) _ rfl (by (with_reducible repeat (first | refine blk_drewN ?_ _ | refine blk_drew ?_ | refine blk_alloc ?_ _)); refine blk_put (cs := #[.int .i64 0, .slice none 0 0, .slice none 0 0, .slice none 0 0, .slice none 0 0, .int .i64 0, .int .i64 0, .slice none 0 0, .slice none 0 0, .slice none 0 0, .slice none 0 0, .int .i64 0]) ?_ 11 _ rfl; (with_reducible repeat (first | refine blk_drewN ?_ _ | refine blk_drew ?_ | refine blk_alloc ?_ _)); refine blk_put (cs := #[.int .i64 0, .slice none 0 0, .slice none 0 0, .slice none 0 0, .slice none 0 0, .int .i64 0, .int .i64 0, .slice none 0 0, .slice none 0 0, .slice none 0 0, .slice none 0 0, .int .i64 0]) ?_ 10 _ rfl; (with_reducible repeat (first | refine blk_drewN ?_ _ | refine blk_drew ?_ | refine blk_alloc ?_ _)); refine blk_put (cs := #[.int .i64 0, .slice none 0 0, .slice none 0 0, .slice none 0 0, .slice none 0 0, .int .i64 0, .int .i64 0, .slice none 0 0, .slice none 0 0, .slice none 0 0, .slice none 0 0, .int .i64 0]) ?_ 9 _ rfl; (with_reducible repeat (first | refine blk_drewN ?_ _ | refine blk_drew ?_ | refine blk_alloc ?_ _)); refine blk_put (cs := #[.int .i64 0, .slice none 0 0, .slice none 0 0, .slice none 0 0, .slice none 0 0, .int .i64 0, .int .i64 0, .slice none 0 0, .slice none 0 0, .slice none 0 0, .slice none 0 0, .int .i64 0]) ?_ 8 _ rfl; (with_reducible repeat (first | refine blk_drewN ?_ _ | refine blk_drew ?_ | refine blk_alloc ?_ _)); refine blk_put (cs := #[.int .i64 0, .slice none 0 0, .slice none 0 0, .slice none 0 0, .slice none 0 0, .int .i64 0, .int .i64 0, .slice none 0 0, .slice none 0 0, .slice none 0 0, .slice none 0 0, .int .i64 0]) ?_ 7 _ rfl; (with_reducible repeat (first | refine blk_drewN ?_ _ | refine blk_drew ?_ | refine blk_alloc ?_ _)); refine blk_put (cs := #[.int .i64 0, .slice none 0 0, .slice none 0 0, .slice none 0 0, .slice none 0 0, .int .i64 0, .int .i64 0, .slice none 0 0, .slice none 0 0, .slice none 0 0, .slice none 0 0, .int .i64 0]) ?_ 6 _ rfl; (with_reducible repeat (first | refine blk_drewN ?_ _ | refine blk_drew ?_ | refine blk_alloc ?_ _)); refine blk_put (cs := #[.int .i64 0, .slice none 0 0, .slice none 0 0, .slice none 0 0, .slice none 0 0, .int .i64 0, .int .i64 0, .slice none 0 0, .slice none 0 0, .slice none 0 0, .slice none 0 0, .int .i64 0]) ?_ 5 _ rfl; (with_reducible repeat (first | refine blk_drewN ?_ _ | refine blk_drew ?_ | refine blk_alloc ?_ _)); refine blk_put (cs := #[.int .i64 0, .slice none 0 0, .slice none 0 0, .slice none 0 0, .slice none 0 0, .int .i64 0, .int .i64 0, .slice none 0 0, .slice none 0 0, .slice none 0 0, .slice none 0 0, .int .i64 0]) ?_ 4 _ rfl; (with_reducible repeat (first | refine blk_drewN ?_ _ | refine blk_drew ?_ | refine blk_alloc ?_ _)); refine blk_put (cs := #[.int .i64 0, .slice none 0 0, .slice none 0 0, .slice none 0 0, .slice none 0 0, .int .i64 0, .int .i64 0, .slice none 0 0, .slice none 0 0, .slice none 0 0, .slice none 0 0, .int .i64 0]) ?_ 3 _ rfl; (with_reducible repeat (first | refine blk_drewN ?_ _ | refine blk_drew ?_ | refine blk_alloc ?_ _)); refine blk_put (cs := #[.int .i64 0, .slice none 0 0, .slice none 0 0, .slice none 0 0, .slice none 0 0, .int .i64 0, .int .i64 0, .slice none 0 0, .slice none 0 0, .slice none 0 0, .slice none 0 0, .int .i64 0]) ?_ 2 _ rfl; (with_reducible repeat (first | refine blk_drewN ?_ _ | refine blk_drew ?_ | refine blk_alloc ?_ _)); refine blk_put (cs := #[.int .i64 0, .slice none 0 0, .slice none 0 0, .slice none 0 0, .slice none 0 0, .int .i64 0, .int .i64 0, .slice none 0 0, .slice none 0 0, .slice none 0 0, .slice none 0 0, .int .i64 0]) ?_ 1 _ rfl; (with_reducible repeat (first | refine blk_drewN ?_ _ | refine blk_drew ?_ | refine blk_alloc ?_ _)); refine blk_put (cs := #[.int .i64 0, .slice none 0 0, .slice none 0 0, .slice none 0 0, .slice none 0 0, .int .i64 0, .int .i64 0, .slice none 0 0, .slice none 0 0, .slice none 0 0, .slice none 0 0, .int .i64 0]) ?_ 0 _ rfl; (with_reducible repeat (first | refine blk_drewN ?_ _ | refine blk_drew ?_ | refine blk_alloc ?_ _)); exact BK204.out) Try.underlying55 rfl (by kernel_rfl)) rfl ?_
  exact ⟨_, _, _, _, _, _, _, _, by first | rfl | (simp [errW_none, errW_some] <;> rfl) | (simp [*, errW_none, errW_some] <;> rfl), by first | exact Kd.R_nil _ _ _ _ _ | exact Kd.N_nil _ _ _ _ _ | exact Kd.V_nil _ _ _ _ _ | exact Kd.Q_nil _ _ _ _ _ | exact Kd.S_nil _ _ _ _ _, by first | exact Kd.R_nil _ _ _ _ _ | exact Kd.N_nil _ _ _ _ _ | exact Kd.V_nil _ _ _ _ _ | exact Kd.Q_nil _ _ _ _ _ | exact Kd.S_nil _ _ _ _ _, by first | exact Kd.R_nil _ _ _ _ _ | exact Kd.N_nil _ _ _ _ _ | exact Kd.V_nil _ _ _ _ _ | exact Kd.Q_nil _ _ _ _ _ | exact Kd.S_nil _ _ _ _ _, by first | exact Kd.R_nil _ _ _ _ _ | exact Kd.N_nil _ _ _ _ _ | exact Kd.V_nil _ _ _ _ _ | exact Kd.Q_nil _ _ _ _ _ | exact Kd.S_nil _ _ _ _ _, by first | exact Kd.R_nil _ _ _ _ _ | exact Kd.N_nil _ _ _ _ _ | exact Kd.V_nil _ _ _ _ _ | exact Kd.Q_nil _ _ _ _ _ | exact Kd.S_nil _ _ _ _ _, by first | exact Kd.S_nil _ _ _ _ _ | exact Kd.N_nil _ _ _ _ _ | exact Kd.V_nil _ _ _ _ _ | exact Kd.Q_nil _ _ _ _ _ | exact Kd.R_nil _ _ _ _ _, by first | exact Kd.R_nil _ _ _ _ _ | exact Kd.N_nil _ _ _ _ _ | exact Kd.V_nil _ _ _ _ _ | exact Kd.Q_nil _ _ _ _ _ | exact Kd.S_nil _ _ _ _ _, by first | exact Kd.R_nil _ _ _ _ _ | exact Kd.N_nil _ _ _ _ _ | exact Kd.V_nil _ _ _ _ _ | exact Kd.Q_nil _ _ _ _ _ | exact Kd.S_nil _ _ _ _ _, by repeat (first | (with_reducible first | exact HB.out | apply b0_ | apply b1_ | apply b2_ | refine below_set ?_ GE203.out | refine below_set ?_ GE204.out) | exact HB.out)⟩

end Go.Proofs.Ytnbccfecmpocaaa.QHashBuilds
