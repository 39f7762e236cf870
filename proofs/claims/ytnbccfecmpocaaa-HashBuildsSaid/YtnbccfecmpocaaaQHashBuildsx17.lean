-- Made by wip/myprint.sh (a patched print): a text of this session's own.
import Derived.Test.YtnbccfecmpocaaaLay
import Derived.Test.YtnbccfecmpocaaaQHashBuildsx0
import Derived.Test.YtnbccfecmpocaaaQHashBuildsx5
import Derived.Test.YtnbccfecmpocaaaQHashBuildsx16
namespace Go.Proofs.Ytnbccfecmpocaaa.QHashBuilds
open Go.RowKit Go.Proofs.YtnbccfecmpocaaaW.PrintWords Go.Proofs.YtnbccfecmpocaaaW.PrintLast Go.Proofs.YtnbccfecmpocaaaW.PrintMore
attribute [local go_sem] max2_int min2_int max_two min_two max_three min_three max_four min_four   -- for this text's walks alone
set_option linter.unusedVariables false
set_option linter.unusedSimpArgs false

/-! ### spiritlevelref26_As: function 43 -/
def spiritlevelref26_As.f (k : Nat) (a0_0 : Int) (l0_1 : List (S86)) (l0_2 : List (S67)) (l0_3 : List Int) (l0_4 : List Int) : Option (Int × (List (S86)) × (List (S67)) × List Int × List Int × Int × Int × List Int × (List (List Int)) × List Int × (List (S67)) × Int) := (spiritlevelref02_Twin.f a0_0 l0_1 l0_2 l0_3 l0_4).bind fun bt280 => ((spiritlevelref25_Same.f k a0_0 l0_1 l0_2 l0_3 l0_4).bind fun bt293 => (some (bt280.1, bt280.2.1, bt280.2.2.1, bt280.2.2.2.1, bt280.2.2.2.2, bt293.1, bt293.2.1, bt293.2.2.1, bt293.2.2.2.1, bt293.2.2.2.2.1, bt293.2.2.2.2.2.1, bt293.2.2.2.2.2.2)))
theorem spiritlevelref26_As.mono : ∀ a0 a1 a2 a3 a4 k, LeO (spiritlevelref26_As.f k a0 a1 a2 a3 a4) (spiritlevelref26_As.f (k + 1) a0 a1 a2 a3 a4) := by
 intro a0 a1 a2 a3 a4 k
 unfold spiritlevelref26_As.f
 repeat' first
   | (with_reducible exact spiritlevelref25_Same.mono _ _ _ _ _ _)
   | (with_reducible exact LeO.refl _)
   | (with_reducible exact LeO.none _)
   | (with_reducible refine LeO.ite ?_ ?_)
   | (with_reducible refine LeO.bind ?_ (fun _ => ?_))
   | exact spiritlevelref25_Same.mono _ _ _ _ _ _
   | exact LeO.none _
   | refine LeO.ite ?_ ?_
   | refine LeO.bind ?_ (fun _ => ?_)
set_option maxHeartbeats 8000000 in
set_option maxRecDepth 100000 in
theorem spiritlevelref26_As.calls (k : Nat) (a0_0 : Int) (A0_1 : Option Addr) (c0_1 : Nat) (l0_1 : List (S86)) (A0_2 : Option Addr) (c0_2 : Nat) (l0_2 : List (S67)) (A0_3 : Option Addr) (c0_3 : Nat) (l0_3 : List Int) (A0_4 : Option Addr) (c0_4 : Nat) (l0_4 : List Int) (r1 : Int) (r2 : List (S86)) (r3 : List (S67)) (r4 : List Int) (r5 : List Int) (r6 : Int) (r7 : Int) (r8 : List Int) (r9 : List (List Int)) (r10 : List Int) (r11 : List (S67)) (r12 : Int) (w : World) (hr0_1 : Kd.C k86 w A0_1 l0_1.length l0_1) (hc0_1 : l0_1.length ≤ c0_1) (hr0_2 : Kd.C k67 w A0_2 l0_2.length l0_2) (hc0_2 : l0_2.length ≤ c0_2) (hr0_3 : Kd.C (Kd.int .i64) w A0_3 l0_3.length l0_3) (hc0_3 : l0_3.length ≤ c0_3) (hr0_4 : Kd.C (Kd.int .i64) w A0_4 l0_4.length l0_4) (hc0_4 : l0_4.length ≤ c0_4) (h : spiritlevelref26_As.f k a0_0 l0_1 l0_2 l0_3 l0_4 = some (r1, r2, r3, r4, r5, r6, r7, r8, r9, r10, r11, r12)) :
  Calls Try.prog 43 #[.agg #[.int .i64 a0_0, .slice A0_1 l0_1.length c0_1, .slice A0_2 l0_2.length c0_2, .slice A0_3 l0_3.length c0_3, .slice A0_4 l0_4.length c0_4]] w fun e w' => ∃ v1_ v2_ v3_ v4_ v7_ v8_ v9_ v10_ : Value, e = .returned (.agg #[.int .i64 r1, v1_, v2_, v3_, v4_, .int .i64 r6, .int .i64 r7, v7_, v8_, v9_, v10_, .int .i64 r12]) ∧ Kd.R k86 86 w' w.heap.size (fun _ => True) v1_ r2 ∧ Kd.R k67 67 w' w.heap.size (fun k_ => some k_ ≠ (v10_ : Value).ownBlock) v2_ r3 ∧ Kd.R (Kd.int .i64) 3 w' w.heap.size (fun k_ => some k_ ≠ (v4_ : Value).ownBlock ∧ some k_ ≠ (v7_ : Value).ownBlock ∧ some k_ ≠ (v9_ : Value).ownBlock) v3_ r4 ∧ Kd.R (Kd.int .i64) 3 w' w.heap.size (fun k_ => some k_ ≠ (v3_ : Value).ownBlock ∧ some k_ ≠ (v7_ : Value).ownBlock ∧ some k_ ≠ (v9_ : Value).ownBlock) v4_ r5 ∧ Kd.R (Kd.int .i64) 3 w' w.heap.size (fun k_ => some k_ ≠ (v3_ : Value).ownBlock ∧ some k_ ≠ (v4_ : Value).ownBlock ∧ some k_ ≠ (v9_ : Value).ownBlock) v7_ r8 ∧ Kd.S (Kd.slice 3 (Kd.int .i64)) 24 w' w.heap.size (fun k_ => some k_ ≠ (v3_ : Value).ownBlock ∧ some k_ ≠ (v4_ : Value).ownBlock ∧ some k_ ≠ (v7_ : Value).ownBlock ∧ some k_ ≠ (v9_ : Value).ownBlock) v8_ r9 ∧ Kd.R (Kd.int .i64) 3 w' w.heap.size (fun k_ => some k_ ≠ (v3_ : Value).ownBlock ∧ some k_ ≠ (v4_ : Value).ownBlock ∧ some k_ ≠ (v7_ : Value).ownBlock) v9_ r10 ∧ Kd.R k67 67 w' w.heap.size (fun k_ => some k_ ≠ (v2_ : Value).ownBlock) v10_ r11 ∧ Below w.heap.size w w' := by
 have hu26 := Try.underlying26
 have hu55 := Try.underlying55
 have HR0_1 := M_ hr0_1
 have HC0_1 := M_ hc0_1
 clear hr0_1 hc0_1
 have HR0_2 := M_ hr0_2
 have HC0_2 := M_ hc0_2
 clear hr0_2 hc0_2
 have HR0_3 := M_ hr0_3
 have HC0_3 := M_ hc0_3
 clear hr0_3 hc0_3
 have HR0_4 := M_ hr0_4
 have HC0_4 := M_ hc0_4
 clear hr0_4 hc0_4
 have HB := M_ (Below.refl w.heap.size w)
 have H : ((spiritlevelref02_Twin.f a0_0 l0_1 l0_2 l0_3 l0_4).bind fun bt280 => ((spiritlevelref25_Same.f k a0_0 l0_1 l0_2 l0_3 l0_4).bind fun bt293 => (some (bt280.1, bt280.2.1, bt280.2.2.1, bt280.2.2.2.1, bt280.2.2.2.2, bt293.1, bt293.2.1, bt293.2.2.1, bt293.2.2.2.1, bt293.2.2.2.2.1, bt293.2.2.2.2.2.1, bt293.2.2.2.2.2.2)))) = some (r1, r2, r3, r4, r5, r6, r7, r8, r9, r10, r11, r12) := h
 clear h
 replace H := Option.bind_eq_some_iff.mp H
 obtain ⟨⟨t280, t281, t284, t287, t290⟩, A20, H⟩ := H
 replace H : ((spiritlevelref25_Same.f k a0_0 l0_1 l0_2 l0_3 l0_4).bind fun bt293 => (some (t280, t281, t284, t287, t290, bt293.1, bt293.2.1, bt293.2.2.1, bt293.2.2.2.1, bt293.2.2.2.2.1, bt293.2.2.2.2.2.1, bt293.2.2.2.2.2.2))) = some (r1, r2, r3, r4, r5, r6, r7, r8, r9, r10, r11, r12) := H
 have A2 := M_ A20
 clear A20
 replace H := Option.bind_eq_some_iff.mp H
 obtain ⟨⟨t293, t294, t295, t298, t301, t304, t307⟩, A30, H⟩ := H
 replace H : (some (t280, t281, t284, t287, t290, t293, t294, t295, t298, t301, t304, t307)) = some (r1, r2, r3, r4, r5, r6, r7, r8, r9, r10, r11, r12) := H
 have A3 := M_ A30
 clear A30
 simp only [Option.some.injEq, Prod.mk.injEq] at H
 obtain ⟨rfl, rfl, rfl, rfl, rfl, rfl, rfl, rfl, rfl, rfl, rfl, rfl⟩ := H
 go_enter Try.func43, Try.ntmps43
 try go_wp2_with (first | ((with_reducible refine gate_dst (N := 1) rfl ?_); refine box_event ?hg (N := 1) ?hd (cs := #[.int .i64 a0_0, .slice A0_1 l0_1.length c0_1, .slice A0_2 l0_2.length c0_2, .slice A0_3 l0_3.length c0_3, .slice A0_4 l0_4.length c0_4]) (t := 26) ?hr ?_; (case hd => rfl); (case hg => rfl); (case hr => first | (go_simp; done) | (go_simp; rfl)); intro gb278 hg w4 hbox hb; have n1_ := M_ (hbox); have n2_ := M_ ((by rw [hg]; exact (below_size (wl_ HB.out)) : w.heap.size ≤ gb278)); have n3_ := M_ ((by rw [hg]; exact (below_size (wl_ HB.out)) : w.heap.size ≤ gb278)); replace HB := wb_ HB hb; have BK278 := n1_; have GW278 := n2_; have GE278 := n3_; have gi278 : Ge _ _ := ⟨GE278.out⟩; clear n1_ n2_ n3_; clear hb hbox hg) | ((with_reducible refine gate_dst (N := 2) rfl ?_); refine box_event ?hg (N := 2) ?hd (cs := #[.int .i64 0, .slice none 0 0, .slice none 0 0, .slice none 0 0, .slice none 0 0, .int .i64 0, .int .i64 0, .slice none 0 0, .slice none 0 0, .slice none 0 0, .slice none 0 0, .int .i64 0]) (t := 55) ?hr ?_; (case hd => rfl); (case hg => rfl); (case hr => first | (go_simp; done) | (go_simp; rfl)); intro gb279 hg w5 hbox hb; have n2_ := M_ (hbox); have n3_ := M_ ((by rw [hg]; exact (below_size (ws_ HB.out)) : w.heap.size ≤ gb279)); have n4_ := M_ ((by rw [hg]; exact (below_size (ws_ HB.out)) : w.heap.size ≤ gb279)); have n5_ := M_ ((by rw [hg]; exact Nat.ne_of_lt (blk_lt (bl_ BK278.out)) : gb278 ≠ gb279)); have n6_ := M_ ((by rw [hg]; exact Nat.ne_of_gt (blk_lt (bl_ BK278.out)) : gb279 ≠ gb278)); replace BK278 := bb_ BK278 hb; replace HB := wb_ HB hb; have BK279 := n2_; have GW279 := n3_; have GE279 := n4_; have gi279 : Ge _ _ := ⟨GE279.out⟩; have NB278_279 := n5_; have NB279_278 := n6_; clear n2_ n3_ n4_ n5_ n6_; clear hb hbox hg))
 have n0_ := M_ (blk_drew BK278.out)
 have n1_ := M_ (blk_drew BK279.out)
 have n2_ := M_ (below_drew1 HB.out)
 clear BK278
 clear BK279
 clear HB
 have BK278 := n0_
 have BK279 := n1_
 have HB := n2_
 clear n0_ n1_ n2_
 refine start_ (n := 6) (S := fun w' => w'.cell? ⟨gb278, 0, none⟩ = some (.int .i64 a0_0) ∧ w'.cell? ⟨gb278, 1, none⟩ = some (.slice A0_1 l0_1.length c0_1) ∧ w'.cell? ⟨gb278, 2, none⟩ = some (.slice A0_2 l0_2.length c0_2) ∧ w'.cell? ⟨gb278, 3, none⟩ = some (.slice A0_3 l0_3.length c0_3) ∧ w'.cell? ⟨gb278, 4, none⟩ = some (.slice A0_4 l0_4.length c0_4)) (ds := []) z59_ (by kernel_rfl) rfl rfl ⟨(blk_cell BK278.out 0).trans rfl, (blk_cell BK278.out 1).trans rfl, (blk_cell BK278.out 2).trans rfl, (blk_cell BK278.out 3).trans rfl, (blk_cell BK278.out 4).trans rfl⟩ (fun hHeld => ?_)
 generalize w5.drew = w6 at BK278 BK279 HB hHeld ⊢
 refine take_ (i := 0) (N := some 3) (v := ?_) (a' := ?_) z60_ rfl rfl (by kernel_rfl) (fun _ _ _ h => h) (Or.inl ⟨by rfl, ?_⟩) hHeld ?_ ?_
 rotate_left
 ·rintro w' ⟨s0, s1, s2, s3, s4⟩
  go_simp
  with_reducible rfl
 rotate_left
 ·simp only [Act.put, e1_, e2_, e3_, i64_w, i32_w]
  rfl
 refine take_ (i := 2) (N := some 5) (v := ?_) (a' := ?_) z61_ rfl rfl (by kernel_rfl) (fun _ _ _ h => h) (Or.inl ⟨by rfl, ?_⟩) hHeld ?_ ?_
 rotate_left
 ·rintro w' ⟨s0, s1, s2, s3, s4⟩
  go_simp
  with_reducible rfl
 rotate_left
 ·simp only [Act.put, e1_, e2_, e3_, i64_w, i32_w]
  rfl
 refine one_ (i := 1) (N := some 4) z62_ rfl rfl (by kernel_rfl) (by decide) (fun K hK => ?_)
 refine goes_ Try.func17 (by kernel_rfl) rfl #[.agg #[.int .i64 a0_0, .slice A0_1 l0_1.length c0_1, .slice A0_2 l0_2.length c0_2, .slice A0_3 l0_3.length c0_3, .slice A0_4 l0_4.length c0_4]] (by rfl) rfl rfl (by (try simp only [List.map_toArray, List.map_cons, List.map_nil]); first | done | rfl | (simp only [List.length_drop, List.length_take]; rfl)) ?_
 with_reducible refine (spiritlevelref02_Twin.calls a0_0 _ _ l0_1 _ _ l0_2 _ _ l0_3 _ _ l0_4 t280 t281 t284 t287 t290 _ ?side1 ?side2 ?side3 ?side4 ?side5 ?side6 ?side7 ?side8 A2.out).mono ?_
 (case side1 => exact cl_ (Kd.C_below HR0_1.out HB.out))
 (case side2 => exact HC0_1.out)
 (case side3 => exact cl_ (Kd.C_below HR0_2.out HB.out))
 (case side4 => exact HC0_2.out)
 (case side5 => exact cl_ (Kd.C_below HR0_3.out HB.out))
 (case side6 => exact HC0_3.out)
 (case side7 => exact cl_ (Kd.C_below HR0_4.out HB.out))
 (case side8 => exact HC0_4.out)
 rintro e w7 ⟨v282, v285, v288, v291, rfl, ho0, ho1, ho2, ho3, hb⟩
 refine ⟨_, rfl, ?_⟩
 have n0_ := M_ (Kd.R_lower ho0 (below_size (ws_ HB.out)))
 have n1_ := M_ (Kd.R_lower ho1 (below_size (ws_ HB.out)))
 have n2_ := M_ (Kd.R_lower ho2 (below_size (ws_ HB.out)))
 have n3_ := M_ (Kd.R_lower ho3 (below_size (ws_ HB.out)))
 have n4_ := bb_ BK278 hb
 have n5_ := bb_ BK279 hb
 have n6_ := wb_ HB hb
 clear BK278
 clear BK279
 clear HB
 have HO283 := n0_
 have HO286 := n1_
 have HO289 := n2_
 have HO292 := n3_
 have BK278 := n4_
 have BK279 := n5_
 have HB := n6_
 clear n0_ n1_ n2_ n3_ n4_ n5_ n6_
 (try clear hb)
 (try clear hb2)
 (try clear hk)
 (try clear hi)
 (try clear ho0)
 (try clear ho1)
 (try clear ho2)
 (try clear ho3)
 refine hK.out _ _ ⟨(blk_cell BK278.out 0).trans rfl, (blk_cell BK278.out 1).trans rfl, (blk_cell BK278.out 2).trans rfl, (blk_cell BK278.out 3).trans rfl, (blk_cell BK278.out 4).trans rfl⟩ (fun hHeld => ?_)
 clear hK K
 refine norm_ (a' := ?_) ?_ ?_
 rotate_left
 ·show Act.put _ (some 4) _ = _
  simp only [Act.put, e1_, e2_, e3_, i64_w, i32_w]
  rfl
 refine one_ (i := 3) (N := some 6) z63_ rfl rfl (by kernel_rfl) (by decide) (fun K hK => ?_)
 refine goes_ Try.func65 (by kernel_rfl) rfl #[.agg #[.int .i64 a0_0, .slice A0_1 l0_1.length c0_1, .slice A0_2 l0_2.length c0_2, .slice A0_3 l0_3.length c0_3, .slice A0_4 l0_4.length c0_4]] (by rfl) rfl rfl (by (try simp only [List.map_toArray, List.map_cons, List.map_nil]); first | done | rfl | (simp only [List.length_drop, List.length_take]; rfl)) ?_
 with_reducible refine (spiritlevelref25_Same.calls k a0_0 _ _ l0_1 _ _ l0_2 _ _ l0_3 _ _ l0_4 t293 t294 t295 t298 t301 t304 t307 _ ?side1 ?side2 ?side3 ?side4 ?side5 ?side6 ?side7 ?side8 A3.out).mono ?_
 (case side1 => exact cl_ (Kd.C_below HR0_1.out HB.out))
 (case side2 => exact HC0_1.out)
 (case side3 => exact cl_ (Kd.C_below HR0_2.out HB.out))
 (case side4 => exact HC0_2.out)
 (case side5 => exact cl_ (Kd.C_below HR0_3.out HB.out))
 (case side6 => exact HC0_3.out)
 (case side7 => exact cl_ (Kd.C_below HR0_4.out HB.out))
 (case side8 => exact HC0_4.out)
 rintro e w8 ⟨v296, v299, v302, v305, rfl, ho0, ho1, ho2, ho3, hb⟩
 refine ⟨_, rfl, ?_⟩
 have n0_ := rb_ HO283 hb
 have n1_ := M_ (Kd.R_elder' (rl_ HO286.out) (Kd.R_base ho3) hb)
 have n2_ := M_ (Kd.R_mono (Kd.R_told (Kd.R_told (Kd.R_old (rl_ HO289.out) hb) (Kd.R_base ho0)) (Kd.R_base ho2)) (fun _ h_ => h_.1))
 have n3_ := M_ (Kd.R_mono (Kd.R_told (Kd.R_told (Kd.R_old (rl_ HO292.out) hb) (Kd.R_base ho0)) (Kd.R_base ho2)) (fun _ h_ => h_.1))
 have n4_ := M_ (Kd.R_lower (Kd.R_new' (Kd.R_new' ho0 (Kd.R_lt (rl_ HO289.out))) (Kd.R_lt (rl_ HO292.out))) (below_size (ws_ HB.out)))
 have n5_ := M_ (Kd.S_lower (Kd.S_new' (Kd.S_new' ho1 (Kd.R_lt (rl_ HO289.out))) (Kd.R_lt (rl_ HO292.out))) (below_size (ws_ HB.out)))
 have n6_ := M_ (Kd.R_lower (Kd.R_new' (Kd.R_new' ho2 (Kd.R_lt (rl_ HO289.out))) (Kd.R_lt (rl_ HO292.out))) (below_size (ws_ HB.out)))
 have n7_ := M_ (Kd.R_lower (Kd.R_new' ho3 (Kd.R_lt (rl_ HO286.out))) (below_size (ws_ HB.out)))
 have n8_ := bb_ BK278 hb
 have n9_ := bb_ BK279 hb
 have n10_ := wb_ HB hb
 clear HO283
 clear HO286
 clear HO289
 clear HO292
 clear BK278
 clear BK279
 clear HB
 have HO283 := n0_
 have HO286 := n1_
 have HO289 := n2_
 have HO292 := n3_
 have HO297 := n4_
 have HO300 := n5_
 have HO303 := n6_
 have HO306 := n7_
 have BK278 := n8_
 have BK279 := n9_
 have HB := n10_
 clear n0_ n1_ n2_ n3_ n4_ n5_ n6_ n7_ n8_ n9_ n10_
 (try clear hb)
 (try clear hb2)
 (try clear hk)
 (try clear hi)
 (try clear ho0)
 (try clear ho1)
 (try clear ho2)
 (try clear ho3)
 obtain ⟨Ao9, co9, eo9⟩ := Kd.R_slice HO306.out
 (first | subst eo9 | (injection eo9 with f1_ f2_ f3_; have f4_ := f1_.symm; have f5_ := f3_.symm; clear f1_ f2_ f3_; subst f4_; subst f5_))
 obtain ⟨Ao10, co10, eo10⟩ := Kd.R_slice HO303.out
 (first | subst eo10 | (injection eo10 with f1_ f2_ f3_; have f4_ := f1_.symm; have f5_ := f3_.symm; clear f1_ f2_ f3_; subst f4_; subst f5_))
 obtain ⟨Ao11, co11, eo11⟩ := Kd.S_slice HO300.out
 (first | subst eo11 | (injection eo11 with f1_ f2_ f3_; have f4_ := f1_.symm; have f5_ := f3_.symm; clear f1_ f2_ f3_; subst f4_; subst f5_))
 obtain ⟨Ao12, co12, eo12⟩ := Kd.R_slice HO297.out
 (first | subst eo12 | (injection eo12 with f1_ f2_ f3_; have f4_ := f1_.symm; have f5_ := f3_.symm; clear f1_ f2_ f3_; subst f4_; subst f5_))
 obtain ⟨Ao13, co13, eo13⟩ := Kd.R_slice HO292.out
 (first | subst eo13 | (injection eo13 with f1_ f2_ f3_; have f4_ := f1_.symm; have f5_ := f3_.symm; clear f1_ f2_ f3_; subst f4_; subst f5_))
 obtain ⟨Ao14, co14, eo14⟩ := Kd.R_slice HO289.out
 (first | subst eo14 | (injection eo14 with f1_ f2_ f3_; have f4_ := f1_.symm; have f5_ := f3_.symm; clear f1_ f2_ f3_; subst f4_; subst f5_))
 obtain ⟨Ao15, co15, eo15⟩ := Kd.R_slice HO286.out
 (first | subst eo15 | (injection eo15 with f1_ f2_ f3_; have f4_ := f1_.symm; have f5_ := f3_.symm; clear f1_ f2_ f3_; subst f4_; subst f5_))
 obtain ⟨Ao16, co16, eo16⟩ := Kd.R_slice HO283.out
 (first | subst eo16 | (injection eo16 with f1_ f2_ f3_; have f4_ := f1_.symm; have f5_ := f3_.symm; clear f1_ f2_ f3_; subst f4_; subst f5_))
 refine hK.out _ _ ⟨(blk_cell BK278.out 0).trans rfl, (blk_cell BK278.out 1).trans rfl, (blk_cell BK278.out 2).trans rfl, (blk_cell BK278.out 3).trans rfl, (blk_cell BK278.out 4).trans rfl⟩ (fun hHeld => ?_)
 clear hK K
 refine norm_ (a' := ?_) ?_ ?_
 rotate_left
 ·show Act.put _ (some 6) _ = _
  simp only [Act.put, e1_, e2_, e3_, i64_w, i32_w]
  rfl
 refine pure_ (i := 4) (N := some 7) (v := ?_) (a' := ?_) z64_ rfl rfl (by kernel_rfl) (fun _ _ _ h => h) (Or.inl ⟨by rfl, ?_⟩) ?_ ?_
 rotate_left
 ·intro w'
  go_simp
  with_reducible rfl
 rotate_left
 ·simp only [Act.put, e1_, e2_, e3_, i64_w, i32_w]
  rfl
 refine one_ (i := 5) (N := none) z65_ rfl rfl (by kernel_rfl) (by decide) (fun K hK => ?_)
 have hs17 : w8.cell? ⟨gb279, 0, none⟩ = some (.int .i64 0) := (blk_cell BK279.out 0).trans rfl
 have hfs17 := blk_frozen BK279.out 0
 have hns17_0 := NB278_279.out
 have hms17_0 := NB279_278.out
 have hs18 : w8.cell? ⟨gb279, 1, none⟩ = some (.slice none 0 0) := (blk_cell BK279.out 1).trans rfl
 have hfs18 := blk_frozen BK279.out 1
 have hns18_0 := NB278_279.out
 have hms18_0 := NB279_278.out
 have hs19 : w8.cell? ⟨gb279, 2, none⟩ = some (.slice none 0 0) := (blk_cell BK279.out 2).trans rfl
 have hfs19 := blk_frozen BK279.out 2
 have hns19_0 := NB278_279.out
 have hms19_0 := NB279_278.out
 have hs20 : w8.cell? ⟨gb279, 3, none⟩ = some (.slice none 0 0) := (blk_cell BK279.out 3).trans rfl
 have hfs20 := blk_frozen BK279.out 3
 have hns20_0 := NB278_279.out
 have hms20_0 := NB279_278.out
 have hs21 : w8.cell? ⟨gb279, 4, none⟩ = some (.slice none 0 0) := (blk_cell BK279.out 4).trans rfl
 have hfs21 := blk_frozen BK279.out 4
 have hns21_0 := NB278_279.out
 have hms21_0 := NB279_278.out
 have hs22 : w8.cell? ⟨gb279, 5, none⟩ = some (.int .i64 0) := (blk_cell BK279.out 5).trans rfl
 have hfs22 := blk_frozen BK279.out 5
 have hns22_0 := NB278_279.out
 have hms22_0 := NB279_278.out
 have hs23 : w8.cell? ⟨gb279, 6, none⟩ = some (.int .i64 0) := (blk_cell BK279.out 6).trans rfl
 have hfs23 := blk_frozen BK279.out 6
 have hns23_0 := NB278_279.out
 have hms23_0 := NB279_278.out
 have hs24 : w8.cell? ⟨gb279, 7, none⟩ = some (.slice none 0 0) := (blk_cell BK279.out 7).trans rfl
 have hfs24 := blk_frozen BK279.out 7
 have hns24_0 := NB278_279.out
 have hms24_0 := NB279_278.out
 have hs25 : w8.cell? ⟨gb279, 8, none⟩ = some (.slice none 0 0) := (blk_cell BK279.out 8).trans rfl
 have hfs25 := blk_frozen BK279.out 8
 have hns25_0 := NB278_279.out
 have hms25_0 := NB279_278.out
 have hs26 : w8.cell? ⟨gb279, 9, none⟩ = some (.slice none 0 0) := (blk_cell BK279.out 9).trans rfl
 have hfs26 := blk_frozen BK279.out 9
 have hns26_0 := NB278_279.out
 have hms26_0 := NB279_278.out
 have hs27 : w8.cell? ⟨gb279, 10, none⟩ = some (.slice none 0 0) := (blk_cell BK279.out 10).trans rfl
 have hfs27 := blk_frozen BK279.out 10
 have hns27_0 := NB278_279.out
 have hms27_0 := NB279_278.out
 have hs28 : w8.cell? ⟨gb279, 11, none⟩ = some (.int .i64 0) := (blk_cell BK279.out 11).trans rfl
 have hfs28 := blk_frozen BK279.out 11
 have hns28_0 := NB278_279.out
 have hms28_0 := NB279_278.out
 refine skip_ (w1 := ?_) (by rfl) rfl ?_ ?_
 rotate_left
 ·go_simp
  rfl
 refine hK.out _ _ ⟨((cell_far (p := ⟨gb279, _, none⟩) NB278_279.out _).trans (((cell_far (p := ⟨gb279, _, none⟩) NB278_279.out _).trans (((cell_far (p := ⟨gb279, _, none⟩) NB278_279.out _).trans (((cell_far (p := ⟨gb279, _, none⟩) NB278_279.out _).trans (((cell_far (p := ⟨gb279, _, none⟩) NB278_279.out _).trans (((cell_far (p := ⟨gb279, _, none⟩) NB278_279.out _).trans (((cell_far (p := ⟨gb279, _, none⟩) NB278_279.out _).trans (((cell_far (p := ⟨gb279, _, none⟩) NB278_279.out _).trans (((cell_far (p := ⟨gb279, _, none⟩) NB278_279.out _).trans (((cell_far (p := ⟨gb279, _, none⟩) NB278_279.out _).trans (((cell_far (p := ⟨gb279, _, none⟩) NB278_279.out _).trans (((cell_far (p := ⟨gb279, _, none⟩) NB278_279.out _).trans (hHeld.1)))))))))))))))))))))))), ((cell_far (p := ⟨gb279, _, none⟩) NB278_279.out _).trans (((cell_far (p := ⟨gb279, _, none⟩) NB278_279.out _).trans (((cell_far (p := ⟨gb279, _, none⟩) NB278_279.out _).trans (((cell_far (p := ⟨gb279, _, none⟩) NB278_279.out _).trans (((cell_far (p := ⟨gb279, _, none⟩) NB278_279.out _).trans (((cell_far (p := ⟨gb279, _, none⟩) NB278_279.out _).trans (((cell_far (p := ⟨gb279, _, none⟩) NB278_279.out _).trans (((cell_far (p := ⟨gb279, _, none⟩) NB278_279.out _).trans (((cell_far (p := ⟨gb279, _, none⟩) NB278_279.out _).trans (((cell_far (p := ⟨gb279, _, none⟩) NB278_279.out _).trans (((cell_far (p := ⟨gb279, _, none⟩) NB278_279.out _).trans (((cell_far (p := ⟨gb279, _, none⟩) NB278_279.out _).trans (hHeld.2.1)))))))))))))))))))))))), ((cell_far (p := ⟨gb279, _, none⟩) NB278_279.out _).trans (((cell_far (p := ⟨gb279, _, none⟩) NB278_279.out _).trans (((cell_far (p := ⟨gb279, _, none⟩) NB278_279.out _).trans (((cell_far (p := ⟨gb279, _, none⟩) NB278_279.out _).trans (((cell_far (p := ⟨gb279, _, none⟩) NB278_279.out _).trans (((cell_far (p := ⟨gb279, _, none⟩) NB278_279.out _).trans (((cell_far (p := ⟨gb279, _, none⟩) NB278_279.out _).trans (((cell_far (p := ⟨gb279, _, none⟩) NB278_279.out _).trans (((cell_far (p := ⟨gb279, _, none⟩) NB278_279.out _).trans (((cell_far (p := ⟨gb279, _, none⟩) NB278_279.out _).trans (((cell_far (p := ⟨gb279, _, none⟩) NB278_279.out _).trans (((cell_far (p := ⟨gb279, _, none⟩) NB278_279.out _).trans (hHeld.2.2.1)))))))))))))))))))))))), ((cell_far (p := ⟨gb279, _, none⟩) NB278_279.out _).trans (((cell_far (p := ⟨gb279, _, none⟩) NB278_279.out _).trans (((cell_far (p := ⟨gb279, _, none⟩) NB278_279.out _).trans (((cell_far (p := ⟨gb279, _, none⟩) NB278_279.out _).trans (((cell_far (p := ⟨gb279, _, none⟩) NB278_279.out _).trans (((cell_far (p := ⟨gb279, _, none⟩) NB278_279.out _).trans (((cell_far (p := ⟨gb279, _, none⟩) NB278_279.out _).trans (((cell_far (p := ⟨gb279, _, none⟩) NB278_279.out _).trans (((cell_far (p := ⟨gb279, _, none⟩) NB278_279.out _).trans (((cell_far (p := ⟨gb279, _, none⟩) NB278_279.out _).trans (((cell_far (p := ⟨gb279, _, none⟩) NB278_279.out _).trans (((cell_far (p := ⟨gb279, _, none⟩) NB278_279.out _).trans (hHeld.2.2.2.1)))))))))))))))))))))))), ((cell_far (p := ⟨gb279, _, none⟩) NB278_279.out _).trans (((cell_far (p := ⟨gb279, _, none⟩) NB278_279.out _).trans (((cell_far (p := ⟨gb279, _, none⟩) NB278_279.out _).trans (((cell_far (p := ⟨gb279, _, none⟩) NB278_279.out _).trans (((cell_far (p := ⟨gb279, _, none⟩) NB278_279.out _).trans (((cell_far (p := ⟨gb279, _, none⟩) NB278_279.out _).trans (((cell_far (p := ⟨gb279, _, none⟩) NB278_279.out _).trans (((cell_far (p := ⟨gb279, _, none⟩) NB278_279.out _).trans (((cell_far (p := ⟨gb279, _, none⟩) NB278_279.out _).trans (((cell_far (p := ⟨gb279, _, none⟩) NB278_279.out _).trans (((cell_far (p := ⟨gb279, _, none⟩) NB278_279.out _).trans (((cell_far (p := ⟨gb279, _, none⟩) NB278_279.out _).trans (hHeld.2.2.2.2))))))))))))))))))))))))⟩ (fun hHeld => ?_)
 clear hK K
 refine done_ (by kernel_rfl) ?_
 try go_wp2
 refine bodyPost_ret (results_cell_row rfl _ _ gb279 55 #[.int .i64 t280, .slice Ao16 t281.length co16, .slice Ao15 t284.length co15, .slice Ao14 t287.length co14, .slice Ao13 t290.length co13, .int .i64 t293, .int .i64 t294, .slice Ao12 t295.length co12, .slice Ao11 t298.length co11, .slice Ao10 t301.length co10, .slice Ao9 t304.length co9, .int .i64 t307] (0, 0) _ rfl (by (with_reducible repeat (first | refine blk_drewN ?_ _ | refine blk_drew ?_ | refine blk_alloc ?_ _)); refine blk_put (cs := #[.int .i64 t280, .slice Ao16 t281.length co16, .slice Ao15 t284.length co15, .slice Ao14 t287.length co14, .slice Ao13 t290.length co13, .int .i64 t293, .int .i64 t294, .slice Ao12 t295.length co12, .slice Ao11 t298.length co11, .slice Ao10 t301.length co10, .slice Ao9 t304.length co9, .int .i64 0]) ?_ 11 _ rfl; (with_reducible repeat (first | refine blk_drewN ?_ _ | refine blk_drew ?_ | refine blk_alloc ?_ _)); refine blk_put (cs := #[.int .i64 t280, .slice Ao16 t281.length co16, .slice Ao15 t284.length co15, .slice Ao14 t287.length co14, .slice Ao13 t290.length co13, .int .i64 t293, .int .i64 t294, .slice Ao12 t295.length co12, .slice Ao11 t298.length co11, .slice Ao10 t301.length co10, .slice none 0 0, .int .i64 0]) ?_ 10 _ rfl; (with_reducible repeat (first | refine blk_drewN ?_ _ | refine blk_drew ?_ | refine blk_alloc ?_ _)); refine blk_put (cs := #[.int .i64 t280, .slice Ao16 t281.length co16, .slice Ao15 t284.length co15, .slice Ao14 t287.length co14, .slice Ao13 t290.length co13, .int .i64 t293, .int .i64 t294, .slice Ao12 t295.length co12, .slice Ao11 t298.length co11, .slice none 0 0, .slice none 0 0, .int .i64 0]) ?_ 9 _ rfl; (with_reducible repeat (first | refine blk_drewN ?_ _ | refine blk_drew ?_ | refine blk_alloc ?_ _)); refine blk_put (cs := #[.int .i64 t280, .slice Ao16 t281.length co16, .slice Ao15 t284.length co15, .slice Ao14 t287.length co14, .slice Ao13 t290.length co13, .int .i64 t293, .int .i64 t294, .slice Ao12 t295.length co12, .slice none 0 0, .slice none 0 0, .slice none 0 0, .int .i64 0]) ?_ 8 _ rfl; (with_reducible repeat (first | refine blk_drewN ?_ _ | refine blk_drew ?_ | refine blk_alloc ?_ _)); refine blk_put (cs := #[.int .i64 t280, .slice Ao16 t281.length co16, .slice Ao15 t284.length co15, .slice Ao14 t287.length co14, .slice Ao13 t290.length co13, .int .i64 t293, .int .i64 t294, .slice none 0 0, .slice none 0 0, .slice none 0 0, .slice none 0 0, .int .i64 0]) ?_ 7 _ rfl; (with_reducible repeat (first | refine blk_drewN ?_ _ | refine blk_drew ?_ | refine blk_alloc ?_ _)); refine blk_put (cs := #[.int .i64 t280, .slice Ao16 t281.length co16, .slice Ao15 t284.length co15, .slice Ao14 t287.length co14, .slice Ao13 t290.length co13, .int .i64 t293, .int .i64 0, .slice none 0 0, .slice none 0 0, .slice none 0 0, .slice none 0 0, .int .i64 0]) ?_ 6 _ rfl; (with_reducible repeat (first | refine blk_drewN ?_ _ | refine blk_drew ?_ | refine blk_alloc ?_ _)); refine blk_put (cs := #[.int .i64 t280, .slice Ao16 t281.length co16, .slice Ao15 t284.length co15, .slice Ao14 t287.length co14, .slice Ao13 t290.length co13, .int .i64 0, .int .i64 0, .slice none 0 0, .slice none 0 0, .slice none 0 0, .slice none 0 0, .int .i64 0]) ?_ 5 _ rfl; (with_reducible repeat (first | refine blk_drewN ?_ _ | refine blk_drew ?_ | refine blk_alloc ?_ _)); refine blk_put (cs := #[.int .i64 t280, .slice Ao16 t281.length co16, .slice Ao15 t284.length co15, .slice Ao14 t287.length co14, .slice none 0 0, .int .i64 0, .int .i64 0, .slice none 0 0, .slice none 0 0, .slice none 0 0, .slice none 0 0, .int .i64 0]) ?_ 4 _ rfl; (with_reducible repeat (first | refine blk_drewN ?_ _ | refine blk_drew ?_ | refine blk_alloc ?_ _)); refine blk_put (cs := #[.int .i64 t280, .slice Ao16 t281.length co16, .slice Ao15 t284.length co15, .slice none 0 0, .slice none 0 0, .int .i64 0, .int .i64 0, .slice none 0 0, .slice none 0 0, .slice none 0 0, .slice none 0 0, .int .i64 0]) ?_ 3 _ rfl; (with_reducible repeat (first | refine blk_drewN ?_ _ | refine blk_drew ?_ | refine blk_alloc ?_ _)); refine blk_put (cs := #[.int .i64 t280, .slice Ao16 t281.length co16, .slice none 0 0, .slice none 0 0, .slice none 0 0, .int .i64 0, .int .i64 0, .slice none 0 0, .slice none 0 0, .slice none 0 0, .slice none 0 0, .int .i64 0]) ?_ 2 _ rfl; (with_reducible repeat (first | refine blk_drewN ?_ _ | refine blk_drew ?_ | refine blk_alloc ?_ _)); refine blk_put (cs := #[.int .i64 t280, .slice none 0 0, .slice none 0 0, .slice none 0 0, .slice none 0 0, .int .i64 0, .int .i64 0, .slice none 0 0, .slice none 0 0, .slice none 0 0, .slice none 0 0, .int .i64 0]) ?_ 1 _ rfl; (with_reducible repeat (first | refine blk_drewN ?_ _ | refine blk_drew ?_ | refine blk_alloc ?_ _)); refine blk_put (cs := #[.int .i64 0, .slice none 0 0, .slice none 0 0, .slice none 0 0, .slice none 0 0, .int .i64 0, .int .i64 0, .slice none 0 0, .slice none 0 0, .slice none 0 0, .slice none 0 0, .int .i64 0]) ?_ 0 _ rfl; (with_reducible repeat (first | refine blk_drewN ?_ _ | refine blk_drew ?_ | refine blk_alloc ?_ _)); exact BK279.out) Try.underlying55 rfl (by kernel_rfl)) rfl ?_
 exact ⟨_, _, _, _, _, _, _, _, by first | rfl | (simp [errW_none, errW_some] <;> rfl) | (simp [*, errW_none, errW_some] <;> rfl), by (with_reducible repeat (first | apply a0_ | apply a1_ | apply a2_)); exact Kd.R_mono (Kd.R_far (p := ⟨gb279, 11, none⟩) (Kd.R_far (p := ⟨gb279, 10, none⟩) (Kd.R_far (p := ⟨gb279, 9, none⟩) (Kd.R_far (p := ⟨gb279, 8, none⟩) (Kd.R_far (p := ⟨gb279, 7, none⟩) (Kd.R_far (p := ⟨gb279, 6, none⟩) (Kd.R_far (p := ⟨gb279, 5, none⟩) (Kd.R_far (p := ⟨gb279, 4, none⟩) (Kd.R_far (p := ⟨gb279, 3, none⟩) (Kd.R_far (p := ⟨gb279, 2, none⟩) (Kd.R_far (p := ⟨gb279, 1, none⟩) (Kd.R_far (p := ⟨gb279, 0, none⟩) (Kd.R_types HO283.out BK279.out (by decide)) (fun _ hk => hk.2) (.int .i64 t280)) (fun _ hk => hk.2) (.slice Ao16 t281.length co16)) (fun _ hk => hk.2) (.slice Ao15 t284.length co15)) (fun _ hk => hk.2) (.slice Ao14 t287.length co14)) (fun _ hk => hk.2) (.slice Ao13 t290.length co13)) (fun _ hk => hk.2) (.int .i64 t293)) (fun _ hk => hk.2) (.int .i64 t294)) (fun _ hk => hk.2) (.slice Ao12 t295.length co12)) (fun _ hk => hk.2) (.slice Ao11 t298.length co11)) (fun _ hk => hk.2) (.slice Ao10 t301.length co10)) (fun _ hk => hk.2) (.slice Ao9 t304.length co9)) (fun _ hk => hk.2) (.int .i64 t307)) (fun _ hk => trivial), by (with_reducible repeat (first | apply a0_ | apply a1_ | apply a2_)); exact Kd.R_mono (Kd.R_far (p := ⟨gb279, 11, none⟩) (Kd.R_far (p := ⟨gb279, 10, none⟩) (Kd.R_far (p := ⟨gb279, 9, none⟩) (Kd.R_far (p := ⟨gb279, 8, none⟩) (Kd.R_far (p := ⟨gb279, 7, none⟩) (Kd.R_far (p := ⟨gb279, 6, none⟩) (Kd.R_far (p := ⟨gb279, 5, none⟩) (Kd.R_far (p := ⟨gb279, 4, none⟩) (Kd.R_far (p := ⟨gb279, 3, none⟩) (Kd.R_far (p := ⟨gb279, 2, none⟩) (Kd.R_far (p := ⟨gb279, 1, none⟩) (Kd.R_far (p := ⟨gb279, 0, none⟩) (Kd.R_types HO286.out BK279.out (by decide)) (fun _ hk => hk.2) (.int .i64 t280)) (fun _ hk => hk.2) (.slice Ao16 t281.length co16)) (fun _ hk => hk.2) (.slice Ao15 t284.length co15)) (fun _ hk => hk.2) (.slice Ao14 t287.length co14)) (fun _ hk => hk.2) (.slice Ao13 t290.length co13)) (fun _ hk => hk.2) (.int .i64 t293)) (fun _ hk => hk.2) (.int .i64 t294)) (fun _ hk => hk.2) (.slice Ao12 t295.length co12)) (fun _ hk => hk.2) (.slice Ao11 t298.length co11)) (fun _ hk => hk.2) (.slice Ao10 t301.length co10)) (fun _ hk => hk.2) (.slice Ao9 t304.length co9)) (fun _ hk => hk.2) (.int .i64 t307)) (fun _ hk => hk.1.2), by (with_reducible repeat (first | apply a0_ | apply a1_ | apply a2_)); exact Kd.R_mono (Kd.R_far (p := ⟨gb279, 11, none⟩) (Kd.R_far (p := ⟨gb279, 10, none⟩) (Kd.R_far (p := ⟨gb279, 9, none⟩) (Kd.R_far (p := ⟨gb279, 8, none⟩) (Kd.R_far (p := ⟨gb279, 7, none⟩) (Kd.R_far (p := ⟨gb279, 6, none⟩) (Kd.R_far (p := ⟨gb279, 5, none⟩) (Kd.R_far (p := ⟨gb279, 4, none⟩) (Kd.R_far (p := ⟨gb279, 3, none⟩) (Kd.R_far (p := ⟨gb279, 2, none⟩) (Kd.R_far (p := ⟨gb279, 1, none⟩) (Kd.R_far (p := ⟨gb279, 0, none⟩) (Kd.R_types HO289.out BK279.out (by decide)) (fun _ hk => hk.2) (.int .i64 t280)) (fun _ hk => hk.2) (.slice Ao16 t281.length co16)) (fun _ hk => hk.2) (.slice Ao15 t284.length co15)) (fun _ hk => hk.2) (.slice Ao14 t287.length co14)) (fun _ hk => hk.2) (.slice Ao13 t290.length co13)) (fun _ hk => hk.2) (.int .i64 t293)) (fun _ hk => hk.2) (.int .i64 t294)) (fun _ hk => hk.2) (.slice Ao12 t295.length co12)) (fun _ hk => hk.2) (.slice Ao11 t298.length co11)) (fun _ hk => hk.2) (.slice Ao10 t301.length co10)) (fun _ hk => hk.2) (.slice Ao9 t304.length co9)) (fun _ hk => hk.2) (.int .i64 t307)) (fun _ hk => ⟨hk.1.1.1, ⟨hk.1.1.2, hk.1.2⟩⟩), by (with_reducible repeat (first | apply a0_ | apply a1_ | apply a2_)); exact Kd.R_mono (Kd.R_far (p := ⟨gb279, 11, none⟩) (Kd.R_far (p := ⟨gb279, 10, none⟩) (Kd.R_far (p := ⟨gb279, 9, none⟩) (Kd.R_far (p := ⟨gb279, 8, none⟩) (Kd.R_far (p := ⟨gb279, 7, none⟩) (Kd.R_far (p := ⟨gb279, 6, none⟩) (Kd.R_far (p := ⟨gb279, 5, none⟩) (Kd.R_far (p := ⟨gb279, 4, none⟩) (Kd.R_far (p := ⟨gb279, 3, none⟩) (Kd.R_far (p := ⟨gb279, 2, none⟩) (Kd.R_far (p := ⟨gb279, 1, none⟩) (Kd.R_far (p := ⟨gb279, 0, none⟩) (Kd.R_types HO292.out BK279.out (by decide)) (fun _ hk => hk.2) (.int .i64 t280)) (fun _ hk => hk.2) (.slice Ao16 t281.length co16)) (fun _ hk => hk.2) (.slice Ao15 t284.length co15)) (fun _ hk => hk.2) (.slice Ao14 t287.length co14)) (fun _ hk => hk.2) (.slice Ao13 t290.length co13)) (fun _ hk => hk.2) (.int .i64 t293)) (fun _ hk => hk.2) (.int .i64 t294)) (fun _ hk => hk.2) (.slice Ao12 t295.length co12)) (fun _ hk => hk.2) (.slice Ao11 t298.length co11)) (fun _ hk => hk.2) (.slice Ao10 t301.length co10)) (fun _ hk => hk.2) (.slice Ao9 t304.length co9)) (fun _ hk => hk.2) (.int .i64 t307)) (fun _ hk => ⟨hk.1.1.1, ⟨hk.1.1.2, hk.1.2⟩⟩), by (with_reducible repeat (first | apply a0_ | apply a1_ | apply a2_)); exact Kd.R_mono (Kd.R_far (p := ⟨gb279, 11, none⟩) (Kd.R_far (p := ⟨gb279, 10, none⟩) (Kd.R_far (p := ⟨gb279, 9, none⟩) (Kd.R_far (p := ⟨gb279, 8, none⟩) (Kd.R_far (p := ⟨gb279, 7, none⟩) (Kd.R_far (p := ⟨gb279, 6, none⟩) (Kd.R_far (p := ⟨gb279, 5, none⟩) (Kd.R_far (p := ⟨gb279, 4, none⟩) (Kd.R_far (p := ⟨gb279, 3, none⟩) (Kd.R_far (p := ⟨gb279, 2, none⟩) (Kd.R_far (p := ⟨gb279, 1, none⟩) (Kd.R_far (p := ⟨gb279, 0, none⟩) (Kd.R_types HO297.out BK279.out (by decide)) (fun _ hk => hk.2) (.int .i64 t280)) (fun _ hk => hk.2) (.slice Ao16 t281.length co16)) (fun _ hk => hk.2) (.slice Ao15 t284.length co15)) (fun _ hk => hk.2) (.slice Ao14 t287.length co14)) (fun _ hk => hk.2) (.slice Ao13 t290.length co13)) (fun _ hk => hk.2) (.int .i64 t293)) (fun _ hk => hk.2) (.int .i64 t294)) (fun _ hk => hk.2) (.slice Ao12 t295.length co12)) (fun _ hk => hk.2) (.slice Ao11 t298.length co11)) (fun _ hk => hk.2) (.slice Ao10 t301.length co10)) (fun _ hk => hk.2) (.slice Ao9 t304.length co9)) (fun _ hk => hk.2) (.int .i64 t307)) (fun _ hk => ⟨hk.1.1.2, ⟨hk.1.2, hk.1.1.1⟩⟩), by (with_reducible repeat (first | apply Kd.S_alloc | apply Kd.S_drewN | apply Kd.S_drew)); exact Kd.S_mono (Kd.S_far (p := ⟨gb279, 11, none⟩) (Kd.S_far (p := ⟨gb279, 10, none⟩) (Kd.S_far (p := ⟨gb279, 9, none⟩) (Kd.S_far (p := ⟨gb279, 8, none⟩) (Kd.S_far (p := ⟨gb279, 7, none⟩) (Kd.S_far (p := ⟨gb279, 6, none⟩) (Kd.S_far (p := ⟨gb279, 5, none⟩) (Kd.S_far (p := ⟨gb279, 4, none⟩) (Kd.S_far (p := ⟨gb279, 3, none⟩) (Kd.S_far (p := ⟨gb279, 2, none⟩) (Kd.S_far (p := ⟨gb279, 1, none⟩) (Kd.S_far (p := ⟨gb279, 0, none⟩) (Kd.S_types HO300.out BK279.out (by decide)) (fun _ hk => hk.2) (.int .i64 t280)) (fun _ hk => hk.2) (.slice Ao16 t281.length co16)) (fun _ hk => hk.2) (.slice Ao15 t284.length co15)) (fun _ hk => hk.2) (.slice Ao14 t287.length co14)) (fun _ hk => hk.2) (.slice Ao13 t290.length co13)) (fun _ hk => hk.2) (.int .i64 t293)) (fun _ hk => hk.2) (.int .i64 t294)) (fun _ hk => hk.2) (.slice Ao12 t295.length co12)) (fun _ hk => hk.2) (.slice Ao11 t298.length co11)) (fun _ hk => hk.2) (.slice Ao10 t301.length co10)) (fun _ hk => hk.2) (.slice Ao9 t304.length co9)) (fun _ hk => hk.2) (.int .i64 t307)) (fun _ hk => ⟨hk.1.1.2, ⟨hk.1.2, ⟨hk.1.1.1.1, hk.1.1.1.2⟩⟩⟩), by (with_reducible repeat (first | apply a0_ | apply a1_ | apply a2_)); exact Kd.R_mono (Kd.R_far (p := ⟨gb279, 11, none⟩) (Kd.R_far (p := ⟨gb279, 10, none⟩) (Kd.R_far (p := ⟨gb279, 9, none⟩) (Kd.R_far (p := ⟨gb279, 8, none⟩) (Kd.R_far (p := ⟨gb279, 7, none⟩) (Kd.R_far (p := ⟨gb279, 6, none⟩) (Kd.R_far (p := ⟨gb279, 5, none⟩) (Kd.R_far (p := ⟨gb279, 4, none⟩) (Kd.R_far (p := ⟨gb279, 3, none⟩) (Kd.R_far (p := ⟨gb279, 2, none⟩) (Kd.R_far (p := ⟨gb279, 1, none⟩) (Kd.R_far (p := ⟨gb279, 0, none⟩) (Kd.R_types HO303.out BK279.out (by decide)) (fun _ hk => hk.2) (.int .i64 t280)) (fun _ hk => hk.2) (.slice Ao16 t281.length co16)) (fun _ hk => hk.2) (.slice Ao15 t284.length co15)) (fun _ hk => hk.2) (.slice Ao14 t287.length co14)) (fun _ hk => hk.2) (.slice Ao13 t290.length co13)) (fun _ hk => hk.2) (.int .i64 t293)) (fun _ hk => hk.2) (.int .i64 t294)) (fun _ hk => hk.2) (.slice Ao12 t295.length co12)) (fun _ hk => hk.2) (.slice Ao11 t298.length co11)) (fun _ hk => hk.2) (.slice Ao10 t301.length co10)) (fun _ hk => hk.2) (.slice Ao9 t304.length co9)) (fun _ hk => hk.2) (.int .i64 t307)) (fun _ hk => ⟨hk.1.1.2, ⟨hk.1.2, hk.1.1.1⟩⟩), by (with_reducible repeat (first | apply a0_ | apply a1_ | apply a2_)); exact Kd.R_mono (Kd.R_far (p := ⟨gb279, 11, none⟩) (Kd.R_far (p := ⟨gb279, 10, none⟩) (Kd.R_far (p := ⟨gb279, 9, none⟩) (Kd.R_far (p := ⟨gb279, 8, none⟩) (Kd.R_far (p := ⟨gb279, 7, none⟩) (Kd.R_far (p := ⟨gb279, 6, none⟩) (Kd.R_far (p := ⟨gb279, 5, none⟩) (Kd.R_far (p := ⟨gb279, 4, none⟩) (Kd.R_far (p := ⟨gb279, 3, none⟩) (Kd.R_far (p := ⟨gb279, 2, none⟩) (Kd.R_far (p := ⟨gb279, 1, none⟩) (Kd.R_far (p := ⟨gb279, 0, none⟩) (Kd.R_types HO306.out BK279.out (by decide)) (fun _ hk => hk.2) (.int .i64 t280)) (fun _ hk => hk.2) (.slice Ao16 t281.length co16)) (fun _ hk => hk.2) (.slice Ao15 t284.length co15)) (fun _ hk => hk.2) (.slice Ao14 t287.length co14)) (fun _ hk => hk.2) (.slice Ao13 t290.length co13)) (fun _ hk => hk.2) (.int .i64 t293)) (fun _ hk => hk.2) (.int .i64 t294)) (fun _ hk => hk.2) (.slice Ao12 t295.length co12)) (fun _ hk => hk.2) (.slice Ao11 t298.length co11)) (fun _ hk => hk.2) (.slice Ao10 t301.length co10)) (fun _ hk => hk.2) (.slice Ao9 t304.length co9)) (fun _ hk => hk.2) (.int .i64 t307)) (fun _ hk => hk.1.2), by repeat (first | (with_reducible first | exact HB.out | apply b0_ | apply b1_ | apply b2_ | refine below_set ?_ GE278.out | refine below_set ?_ GE279.out) | exact HB.out)⟩

end Go.Proofs.Ytnbccfecmpocaaa.QHashBuilds
