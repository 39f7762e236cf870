import Derived.Test.YtlgoniocoifjjaaLay
import Derived.Test.YtlgoniocoifjjaaQConstantsPassesx0
import Derived.Test.YtlgoniocoifjjaaQConstantsPassesx14
namespace Go.Proofs.Ytlgoniocoifjjaa.QConstantsPasses
open Go.RowKit Go.Proofs.YtlgoniocoifjjaaW.PrintWords Go.Proofs.YtlgoniocoifjjaaW.PrintLast Go.Proofs.YtlgoniocoifjjaaW.PrintMore
attribute [local go_sem] max2_int min2_int max_two min_two max_three min_three max_four min_four
set_option linter.unusedVariables false
set_option linter.unusedSimpArgs false

mutual
def spiritlevelref25_Same.l0 : Nat → Int → Int → List (S45) → List (S55) → List Int → List Int → Int → Int → List Int → List (List Int) → List Int → List (S55) → Int → Option (Int × Int × List Int × (List (List Int)) × List Int × (List (S55)) × Int)
 | 0, _, _, _, _, _, _, _, _, _, _, _, _, _ => none
 | k + 1, x4, x225000, x225001, x225002, x225003, x225004, x234000, x234001, x234002, x234003, x234004, x234005, x234006 => if x4 < (x225001.length : Int) then ((spiritlevelref25_Latch.f x225000 x225001 x225002 x225003 x225004 x4).bind fun t234 => (if x234002.length < 17592186044416 then ((spiritlevelref25_Latch.f x225000 x225001 x225002 x225003 x225004 x4).bind fun t238 => (if x234004.length < 17592186044416 then (spiritlevelref25_Same.l0 k (wrap64 (x4 + 1)) x225000 x225001 x225002 x225003 x225004 x234000 x234001 (x234002 ++ [t234]) x234003 (x234004 ++ [t238]) x234005 x234006) else (none))) else (none))) else (spiritlevelref25_Same.l1 k 0 x225000 x225001 x225002 x225003 x225004 x234000 x234001 x234002 x234003 x234004 x234005 x234006)
def spiritlevelref25_Same.l1 : Nat → Int → Int → List (S45) → List (S55) → List Int → List Int → Int → Int → List Int → List (List Int) → List Int → List (S55) → Int → Option (Int × Int × List Int × (List (List Int)) × List Int × (List (S55)) × Int)
 | 0, _, _, _, _, _, _, _, _, _, _, _, _, _ => none
 | k + 1, x5, x225000, x225001, x225002, x225003, x225004, x234000, x234001, x234002, x234003, x234004, x234005, x234006 => if x5 < x225000 then (if 0 < (x234003.length : Int) then (if (rd_L3 x234003 0).length < 17592186044416 then (spiritlevelref25_Same.l1 k (wrap64 (x5 + 1)) x225000 x225001 x225002 x225003 x225004 x234000 x234001 x234002 (x234003.set (0 : Int).toNat ((rd_L3 x234003 0) ++ [wrap64 (2 * (wrap64 (x5 + 1)))])) x234004 x234005 x234006) else (none)) else (none)) else (some (x234000, x234001, x234002, x234003, x234004, x234005, x234006))
end
def spiritlevelref25_Same.f (k : Nat) (a0_0 : Int) (l0_1 : List (S45)) (l0_2 : List (S55)) (l0_3 : List Int) (l0_4 : List Int) : Option (Int × Int × List Int × (List (List Int)) × List Int × (List (S55)) × Int) := (spiritlevelref25_True.f).bind fun bt229 => (spiritlevelref25_Same.l0 k 0 a0_0 l0_1 l0_2 l0_3 l0_4 0 1 ([] : List Int) (([[]] : List (List Int))) ([] : List Int) bt229.1 bt229.2)
def spiritlevelref25_Same.T5 : Bool × List (List Nat × List Nat) := (true, [([], []), ([0], [0]), ([], []), ([], []), ([2, 3], [2, 3]), ([4], [4]), ([1, 5, 4], [1, 5]), ([0, 1, 2, 3, 4, 5, 6], []), ([7, 6, 6, 0, 1, 2, 3, 4, 5, 6], [6, 7])])
def spiritlevelref25_Same.B5 : List Nat := [0, 1, 0, 0, 12, 28, 63, 127, 255]
theorem spiritlevelref25_Same.tab5 : rtab .any (opsOf Try.f47 5) = spiritlevelref25_Same.T5 := by kernel_rfl
theorem spiritlevelref25_Same.bits5 : waitsOk spiritlevelref25_Same.T5.2 spiritlevelref25_Same.B5 = true := by kernel_rfl
def spiritlevelref25_Same.T6 : Bool × List (List Nat × List Nat) := (true, [([], []), ([0], [0]), ([], []), ([], []), ([2, 3], [2, 3]), ([4], [4]), ([1, 5, 4], [1, 5]), ([0, 1, 2, 3, 4, 5, 6], []), ([7, 6, 6, 0, 1, 2, 3, 4, 5, 6], [6, 7])])
def spiritlevelref25_Same.B6 : List Nat := [0, 1, 0, 0, 12, 28, 63, 127, 255]
theorem spiritlevelref25_Same.tab6 : rtab .any (opsOf Try.f47 6) = spiritlevelref25_Same.T6 := by kernel_rfl
theorem spiritlevelref25_Same.bits6 : waitsOk spiritlevelref25_Same.T6.2 spiritlevelref25_Same.B6 = true := by kernel_rfl
def spiritlevelref25_Same.T10 : Bool × List (List Nat × List Nat) := (true, [([], []), ([0], [0]), ([], []), ([2], [2]), ([3], [3]), ([4], [4]), ([], []), ([6], [6]), ([7], [7]), ([8], [8]), ([5, 9], [5, 9]), ([1, 0, 1, 2, 3, 4, 5, 6, 7, 8, 9, 10], [1]), ([11, 10, 10, 0, 1, 2, 3, 4, 5, 6, 7, 8, 9, 10], [10, 11])])
def spiritlevelref25_Same.B10 : List Nat := [0, 1, 0, 4, 12, 28, 0, 64, 192, 448, 1020, 2047, 4095]
theorem spiritlevelref25_Same.tab10 : rtab .any (opsOf Try.f47 10) = spiritlevelref25_Same.T10 := by kernel_rfl
theorem spiritlevelref25_Same.bits10 : waitsOk spiritlevelref25_Same.T10.2 spiritlevelref25_Same.B10 = true := by kernel_rfl
set_option maxHeartbeats 8000000 in
set_option maxRecDepth 100000 in
theorem spiritlevelref25_Same.calls (k : Nat) (a0_0 : Int) (A0_1 : Option Addr) (c0_1 : Nat) (l0_1 : List (S45)) (A0_2 : Option Addr) (c0_2 : Nat) (l0_2 : List (S55)) (A0_3 : Option Addr) (c0_3 : Nat) (l0_3 : List Int) (A0_4 : Option Addr) (c0_4 : Nat) (l0_4 : List Int) (r1 : Int) (r2 : Int) (r3 : List Int) (r4 : List (List Int)) (r5 : List Int) (r6 : List (S55)) (r7 : Int) (w : World) (hr0_1 : Kd.C k45 w A0_1 l0_1.length l0_1) (hc0_1 : l0_1.length ≤ c0_1) (hr0_2 : Kd.C k55 w A0_2 l0_2.length l0_2) (hc0_2 : l0_2.length ≤ c0_2) (hr0_3 : Kd.C (Kd.int .i64) w A0_3 l0_3.length l0_3) (hc0_3 : l0_3.length ≤ c0_3) (hr0_4 : Kd.C (Kd.int .i64) w A0_4 l0_4.length l0_4) (hc0_4 : l0_4.length ≤ c0_4) (h : spiritlevelref25_Same.f k a0_0 l0_1 l0_2 l0_3 l0_4 = some (r1, r2, r3, r4, r5, r6, r7)) :
  Calls Try.prog 47 #[.agg #[.int .i64 a0_0, .slice A0_1 l0_1.length c0_1, .slice A0_2 l0_2.length c0_2, .slice A0_3 l0_3.length c0_3, .slice A0_4 l0_4.length c0_4]] w fun e w' => ∃ v2_ v3_ v4_ v5_ : Value, e = .returned (.agg #[.int .i64 r1, .int .i64 r2, v2_, v3_, v4_, v5_, .int .i64 r7]) ∧ Kd.R (Kd.int .i64) 3 w' w.heap.size (fun k_ => some k_ ≠ (v4_ : Value).ownBlock) v2_ r3 ∧ Kd.S (Kd.slice 3 (Kd.int .i64)) 24 w' w.heap.size (fun k_ => some k_ ≠ (v2_ : Value).ownBlock ∧ some k_ ≠ (v4_ : Value).ownBlock) v3_ r4 ∧ Kd.R (Kd.int .i64) 3 w' w.heap.size (fun k_ => some k_ ≠ (v2_ : Value).ownBlock) v4_ r5 ∧ Kd.R k55 55 w' w.heap.size (fun _ => True) v5_ r6 ∧ Below w.heap.size w w' := by
 have hu26 := Try.underlying26
 have hu37 := Try.underlying37
 have HR0_1 := M_ hr0_1
 have HC0_1 := M_ hc0_1
 clear hr0_1 hc0_1
 have HR0_2 := M_ hr0_2
 have HC0_2 := M_ hc0_2
 clear hr0_2 hc0_2
 have HR0_3 := M_ hr0_3
 have HC0_3 := M_ hc0_3
 clear hr0_3 hc0_3
 have HR0_4 := M_ hr0_4
 have HC0_4 := M_ hc0_4
 clear hr0_4 hc0_4
 have HB := M_ (Below.refl w.heap.size w)
 have H : ((spiritlevelref25_True.f).bind fun bt229 => (spiritlevelref25_Same.l0 k 0 a0_0 l0_1 l0_2 l0_3 l0_4 0 1 ([] : List Int) (([[]] : List (List Int))) ([] : List Int) bt229.1 bt229.2)) = some (r1, r2, r3, r4, r5, r6, r7) := h
 clear h
 obtain ⟨y226, hy226⟩ : ∃ y_ : List (List Int), y_ = (([[]] : List (List Int))) := ⟨_, rfl⟩
 replace H : ((spiritlevelref25_True.f).bind fun bt229 => (spiritlevelref25_Same.l0 k 0 a0_0 l0_1 l0_2 l0_3 l0_4 0 1 ([] : List Int) y226 ([] : List Int) bt229.1 bt229.2)) = some (r1, r2, r3, r4, r5, r6, r7) := by first | (rw [hy226]; with_reducible exact H) | (have H2_ := (Option.bind_some _ _).symm.trans H; rw [hy226]; with_reducible exact H2_) | (have H2_ := (Option.bind_some _ _).symm.trans H; with_reducible exact H2_) | with_reducible exact H | (rw [hy226]; exact H) | exact H
 have Ny226 := M_ hy226
 clear hy226
 replace H := Option.bind_eq_some_iff.mp H
 obtain ⟨⟨t229, t232⟩, A20, H⟩ := H
 replace H : (spiritlevelref25_Same.l0 k 0 a0_0 l0_1 l0_2 l0_3 l0_4 0 1 ([] : List Int) y226 ([] : List Int) t229 t232) = some (r1, r2, r3, r4, r5, r6, r7) := H
 have A2 := M_ A20
 clear A20
 have H' := M_ H
 clear H
 go_enter Try.func47, Try.ntmps47
 go_wp2_with (first | ((with_reducible refine gate_dst (N := 1) rfl ?_); refine box_event ?hg (N := 1) ?hd (cs := #[.int .i64 a0_0, .slice A0_1 l0_1.length c0_1, .slice A0_2 l0_2.length c0_2, .slice A0_3 l0_3.length c0_3, .slice A0_4 l0_4.length c0_4]) (t := 26) ?hr ?_; (case hd => rfl); (case hg => rfl); (case hr => first | (go_simp; done) | (go_simp; rfl)); intro gb224 hg w3 hbox hb; have n1_ := M_ (hbox); have n2_ := M_ ((by rw [hg]; exact (below_size (wl_ HB.out)) : w.heap.size ≤ gb224)); have n3_ := M_ ((by rw [hg]; exact (below_size (wl_ HB.out)) : w.heap.size ≤ gb224)); replace HB := wb_ HB hb; have BK224 := n1_; have GW224 := n2_; have GE224 := n3_; have gi224 : Ge _ _ := ⟨GE224.out⟩; clear n1_ n2_ n3_; clear hb hbox hg) | ((with_reducible refine gate_dst (N := 2) rfl ?_); refine box_event ?hg (N := 2) ?hd (cs := #[.int .i64 0, .int .i64 0, .slice none 0 0, .slice none 0 0, .slice none 0 0, .slice none 0 0, .int .i64 0]) (t := 37) ?hr ?_; (case hd => rfl); (case hg => rfl); (case hr => first | (go_simp; done) | (go_simp; rfl)); intro gb225 hg w4 hbox hb; have n2_ := M_ (hbox); have n3_ := M_ ((by rw [hg]; exact (below_size (ws_ HB.out)) : w.heap.size ≤ gb225)); have n4_ := M_ ((by rw [hg]; exact (below_size (ws_ HB.out)) : w.heap.size ≤ gb225)); have n5_ := M_ ((by rw [hg]; exact Nat.ne_of_lt (blk_lt (bl_ BK224.out)) : gb224 ≠ gb225)); have n6_ := M_ ((by rw [hg]; exact Nat.ne_of_gt (blk_lt (bl_ BK224.out)) : gb225 ≠ gb224)); replace BK224 := bb_ BK224 hb; replace HB := wb_ HB hb; have BK225 := n2_; have GW225 := n3_; have GE225 := n4_; have gi225 : Ge _ _ := ⟨GE225.out⟩; have NB224_225 := n5_; have NB225_224 := n6_; clear n2_ n3_ n4_ n5_ n6_; clear hb hbox hg) | ((with_reducible refine gate_dst (N := 6) rfl ?_); refine Kd.S_lit (Kd.slice 3 (Kd.int .i64)) _ 24 ?hg (N := 6) ?hd (xs := ([[]] : List (List Int))) (inner := [.slice none 0 0]) (ok := fun _ => True) (okp := fun _ => True) ?hr ?hp (fun _ hk => hk) trivial (Below.refl _ _) (Nat.le_refl _) (by simp) ?_; (case hd => rfl); (case hg => rfl); (case hr => first | (go_simp; done) | (go_simp; rfl)); (case hp => exact (Reps.one (show Kd.M (Kd.slice 3 (Kd.int .i64)) _ _ _ [] [.slice none 0 0] from ⟨_, rfl, Kd.R_nil _ _ _ _ _⟩) (Reps.none _ _))); intro v227 w5 ho6 hb hg_ hnew_; clear hg_ hnew_; (first | rw [← Ny226.out] at ho6 | (simp only [Int.reduceToNat] at ho6; rw [← Ny226.out] at ho6)); have n0_ := M_ (Kd.S_lower ho6 (below_size (ws_ HB.out))); have HO228 := n0_; replace BK224 := bb_ BK224 hb; replace BK225 := bb_ BK225 hb; replace HB := wb_ HB hb; clear n0_; clear hb ho6) | ((with_reducible refine gate_callee (f := 72) rfl ?_); refine goesL_ (some 7) rfl rfl Try.func72 (by kernel_rfl) rfl #[] rfl (by (try simp only [List.map_toArray, List.map_cons, List.map_nil]); first | done | rfl) ?_; (with_reducible refine (spiritlevelref25_True.calls  t229 t232 _ A2.out).mono ?_); rintro e w7 ⟨v230, rfl, ho0, hb⟩; refine ⟨_, rfl, ?_⟩; have n0_ := M_ (Kd.S_below (by (with_reducible repeat (first | apply Kd.S_alloc | apply Kd.S_drewN | apply Kd.S_drew)); exact HO228.out) hb); have n1_ := M_ (Kd.R_lower ho0 (below_size (ws_ HB.out))); clear HO228; have HO228 := n0_; have HO231 := n1_; replace BK224 := bb_ BK224 hb; replace BK225 := bb_ BK225 hb; replace HB := wb_ HB hb; clear n0_ n1_; (try clear hb); (try clear hb2); (try clear hk); (try clear hi); (try clear ho0); obtain ⟨Ao8, co8, eo8⟩ := Kd.R_slice HO231.out; subst eo8; obtain ⟨Ao9, co9, eo9⟩ := Kd.S_slice HO228.out; subst eo9) | ((with_reducible refine gate_dst (N := 3) rfl ?_); refine box_event ?hg (N := 3) ?hd (cs := #[.int .i64 0, .int .i64 0, .slice none 0 0, .slice none 0 0, .slice none 0 0, .slice none 0 0, .int .i64 0]) (t := 37) ?hr ?_; (case hd => rfl); (case hg => rfl); (case hr => first | (go_simp; done) | (go_simp; rfl)); intro gb233 hg w10 hbox hb; have n0_ := M_ (Kd.S_below (by (with_reducible repeat (first | apply Kd.S_alloc | apply Kd.S_drewN | apply Kd.S_drew)); exact HO228.out) hb); have n5_ := M_ (hbox); have n6_ := M_ ((by rw [hg]; exact (below_size (ws_ HB.out)) : w.heap.size ≤ gb233)); have n7_ := M_ ((by rw [hg]; exact (below_size (ws_ HB.out)) : w.heap.size ≤ gb233)); have n8_ := M_ ((by rw [hg]; exact Nat.ne_of_lt (blk_lt (bl_ BK224.out)) : gb224 ≠ gb233)); have n9_ := M_ ((by rw [hg]; exact Nat.ne_of_gt (blk_lt (bl_ BK224.out)) : gb233 ≠ gb224)); have n10_ := M_ ((by rw [hg]; exact Nat.ne_of_lt (blk_lt (bl_ BK225.out)) : gb225 ≠ gb233)); have n11_ := M_ ((by rw [hg]; exact Nat.ne_of_gt (blk_lt (bl_ BK225.out)) : gb233 ≠ gb225)); clear HO228; have HO228 := n0_; replace HO231 := rb_ HO231 hb; replace BK224 := bb_ BK224 hb; replace BK225 := bb_ BK225 hb; replace HB := wb_ HB hb; have BK233 := n5_; have GW233 := n6_; have GE233 := n7_; have gi233 : Ge _ _ := ⟨GE233.out⟩; have NB224_233 := n8_; have NB233_224 := n9_; have NB225_233 := n10_; have NB233_225 := n11_; clear n0_ n5_ n6_ n7_ n8_ n9_ n10_ n11_; clear hb hbox hg; have hnb11 := NB233_224.out; have hnc11 := NB224_233.out; have hnb12 := NB233_225.out; have hnc12 := NB225_233.out; have hcz13_0 : w10.cell? ⟨gb233, 0, none⟩ = some (.int .i64 0) := (blk_cell BK233.out 0).trans rfl; have hcz13_1 : w10.cell? ⟨gb233, 1, none⟩ = some (.int .i64 0) := (blk_cell BK233.out 1).trans rfl; have hcz13_2 : w10.cell? ⟨gb233, 2, none⟩ = some (.slice none 0 0) := (blk_cell BK233.out 2).trans rfl; have hcz13_3 : w10.cell? ⟨gb233, 3, none⟩ = some (.slice none 0 0) := (blk_cell BK233.out 3).trans rfl; have hcz13_4 : w10.cell? ⟨gb233, 4, none⟩ = some (.slice none 0 0) := (blk_cell BK233.out 4).trans rfl; have hcz13_5 : w10.cell? ⟨gb233, 5, none⟩ = some (.slice none 0 0) := (blk_cell BK233.out 5).trans rfl; have hcz13_6 : w10.cell? ⟨gb233, 6, none⟩ = some (.int .i64 0) := (blk_cell BK233.out 6).trans rfl; have hfz13_0 := blk_frozen BK233.out 0; have hfz13_1 := blk_frozen BK233.out 1; have hfz13_2 := blk_frozen BK233.out 2; have hfz13_3 := blk_frozen BK233.out 3; have hfz13_4 := blk_frozen BK233.out 4; have hfz13_5 := blk_frozen BK233.out 5; have hfz13_6 := blk_frozen BK233.out 6))
 go_loopg [4] k (fun kq v4 w' => ∃ (x4_1 : Int) (x234002_1 : List Int) (x234004_1 : List Int) (u234002 : Value) (u234004 : Value), v4 = .int .i64 x4_1 ∧ Aside0 (spiritlevelref25_Same.l0 kq x4_1 a0_0 l0_1 l0_2 l0_3 l0_4 0 1 x234002_1 y226 x234004_1 t229 t232 = some (r1, r2, r3, r4, r5, r6, r7)) ∧ Aside0 (kq ≤ k) ∧ Aside0 (Kd.R (Kd.int .i64) 3 w' w.heap.size (fun k_ => some k_ ≠ (u234004 : Value).ownBlock) u234002 x234002_1) ∧ Aside0 (Kd.S (Kd.slice 3 (Kd.int .i64)) 24 w' w.heap.size (fun k_ => some k_ ≠ (u234002 : Value).ownBlock ∧ some k_ ≠ (u234004 : Value).ownBlock) (.slice Ao9 y226.length co9) y226) ∧ Aside0 (Kd.R (Kd.int .i64) 3 w' w.heap.size (fun k_ => some k_ ≠ (u234002 : Value).ownBlock) u234004 x234004_1) ∧ Aside0 (Kd.R k55 55 w' w.heap.size (fun _ => True) (.slice Ao8 t229.length co8) t229) ∧ Aside0 (w'.heap[gb224]? = some (.cells #[.int .i64 a0_0, (.slice A0_1 l0_1.length c0_1), (.slice A0_2 l0_2.length c0_2), (.slice A0_3 l0_3.length c0_3), (.slice A0_4 l0_4.length c0_4)] 26 (0, 0))) ∧ Aside0 (w'.heap[gb225]? = some (.cells #[.int .i64 0, .int .i64 0, (.slice none 0 0), (.slice none 0 0), (.slice none 0 0), (.slice none 0 0), .int .i64 0] 37 (0, 0))) ∧ Aside0 (w'.heap[gb233]? = some (.cells #[.int .i64 0, .int .i64 1, u234002, (.slice Ao9 y226.length co9), u234004, (.slice Ao8 t229.length co8), .int .i64 t232] 37 (0, 0))) ∧ Aside0 (Below w.heap.size w w'))
 case atStart => exact ⟨(0), (([] : List Int)), (([] : List Int)), (.slice none 0 0), (.slice none 0 0), (by first | rfl | (simp; done) | (simp [*]; done)), H', ⟨Nat.le_refl _⟩, ⟨by first | exact Kd.R_nil _ _ _ _ _ | exact Kd.N_nil _ _ _ _ _ | exact Kd.V_nil _ _ _ _ _ | exact Kd.Q_nil _ _ _ _ _ | exact Kd.S_nil _ _ _ _ _⟩, ⟨by (with_reducible repeat (first | apply Kd.S_alloc | apply Kd.S_drewN | apply Kd.S_drew)); exact Kd.S_mono (Kd.S_far (p := ⟨gb233, 6, none⟩) (Kd.S_far (p := ⟨gb233, 5, none⟩) (Kd.S_far (p := ⟨gb233, 4, none⟩) (Kd.S_far (p := ⟨gb233, 3, none⟩) (Kd.S_far (p := ⟨gb233, 2, none⟩) (Kd.S_far (p := ⟨gb233, 1, none⟩) (Kd.S_far (p := ⟨gb233, 0, none⟩) (Kd.S_types HO228.out BK233.out (by decide)) (fun _ hk => hk.2) (.int .i64 0)) (fun _ hk => hk.2) (.int .i64 1)) (fun _ hk => hk.2) (.slice none 0 0)) (fun _ hk => hk.2) (.slice Ao9 y226.length co9)) (fun _ hk => hk.2) (.slice none 0 0)) (fun _ hk => hk.2) (.slice Ao8 t229.length co8)) (fun _ hk => hk.2) (.int .i64 t232)) (fun _ hk => ⟨(by simp [Value.ownBlock]), (by simp [Value.ownBlock])⟩)⟩, ⟨by first | exact Kd.R_nil _ _ _ _ _ | exact Kd.N_nil _ _ _ _ _ | exact Kd.V_nil _ _ _ _ _ | exact Kd.Q_nil _ _ _ _ _ | exact Kd.S_nil _ _ _ _ _⟩, ⟨by (with_reducible repeat (first | apply a0_ | apply a1_ | apply a2_)); exact Kd.R_mono (Kd.R_far (p := ⟨gb233, 6, none⟩) (Kd.R_far (p := ⟨gb233, 5, none⟩) (Kd.R_far (p := ⟨gb233, 4, none⟩) (Kd.R_far (p := ⟨gb233, 3, none⟩) (Kd.R_far (p := ⟨gb233, 2, none⟩) (Kd.R_far (p := ⟨gb233, 1, none⟩) (Kd.R_far (p := ⟨gb233, 0, none⟩) (Kd.R_types HO231.out BK233.out (by decide)) (fun _ hk => hk.2) (.int .i64 0)) (fun _ hk => hk.2) (.int .i64 1)) (fun _ hk => hk.2) (.slice none 0 0)) (fun _ hk => hk.2) (.slice Ao9 y226.length co9)) (fun _ hk => hk.2) (.slice none 0 0)) (fun _ hk => hk.2) (.slice Ao8 t229.length co8)) (fun _ hk => hk.2) (.int .i64 t232)) (fun _ hk => trivial)⟩, ⟨by (with_reducible repeat (first | refine k0_ ?_ _ | refine k1_ ?_ | refine k2_ ?_ _)); refine blk_far ?_ NB224_233.out _; refine blk_far ?_ NB224_233.out _; refine blk_far ?_ NB224_233.out _; refine blk_far ?_ NB224_233.out _; refine blk_far ?_ NB224_233.out _; refine blk_far ?_ NB224_233.out _; refine blk_far ?_ NB224_233.out _; (with_reducible repeat (first | refine k0_ ?_ _ | refine k1_ ?_ | refine k2_ ?_ _)); exact BK224.out⟩, ⟨by (with_reducible repeat (first | refine k0_ ?_ _ | refine k1_ ?_ | refine k2_ ?_ _)); refine blk_far ?_ NB225_233.out _; refine blk_far ?_ NB225_233.out _; refine blk_far ?_ NB225_233.out _; refine blk_far ?_ NB225_233.out _; refine blk_far ?_ NB225_233.out _; refine blk_far ?_ NB225_233.out _; refine blk_far ?_ NB225_233.out _; (with_reducible repeat (first | refine k0_ ?_ _ | refine k1_ ?_ | refine k2_ ?_ _)); exact BK225.out⟩, ⟨by (with_reducible repeat (first | refine k0_ ?_ _ | refine k1_ ?_ | refine k2_ ?_ _)); refine blk_put (cs := #[.int .i64 0, .int .i64 1, .slice none 0 0, .slice Ao9 y226.length co9, .slice none 0 0, .slice Ao8 t229.length co8, .int .i64 0]) ?_ 6 _ rfl; refine blk_put (cs := #[.int .i64 0, .int .i64 1, .slice none 0 0, .slice Ao9 y226.length co9, .slice none 0 0, .slice none 0 0, .int .i64 0]) ?_ 5 _ rfl; refine blk_put (cs := #[.int .i64 0, .int .i64 1, .slice none 0 0, .slice Ao9 y226.length co9, .slice none 0 0, .slice none 0 0, .int .i64 0]) ?_ 4 _ rfl; refine blk_put (cs := #[.int .i64 0, .int .i64 1, .slice none 0 0, .slice none 0 0, .slice none 0 0, .slice none 0 0, .int .i64 0]) ?_ 3 _ rfl; refine blk_put (cs := #[.int .i64 0, .int .i64 1, .slice none 0 0, .slice none 0 0, .slice none 0 0, .slice none 0 0, .int .i64 0]) ?_ 2 _ rfl; refine blk_put (cs := #[.int .i64 0, .int .i64 0, .slice none 0 0, .slice none 0 0, .slice none 0 0, .slice none 0 0, .int .i64 0]) ?_ 1 _ rfl; refine blk_put (cs := #[.int .i64 0, .int .i64 0, .slice none 0 0, .slice none 0 0, .slice none 0 0, .slice none 0 0, .int .i64 0]) ?_ 0 _ rfl; (with_reducible repeat (first | refine k0_ ?_ _ | refine k1_ ?_ | refine k2_ ?_ _)); exact BK233.out⟩, ⟨by repeat (first | (with_reducible first | exact HB.out | apply b0_ | apply b1_ | apply b2_ | refine below_set ?_ GE224.out | refine below_set ?_ GE225.out | refine below_set ?_ GE233.out) | exact HB.out)⟩⟩
 case round =>
  clear H'
  try clear c1; try clear p2; try clear c4; try clear c7; try clear c11; try clear c12; try clear hcz13_0 hcz13_1 hcz13_2 hcz13_3 hcz13_4 hcz13_5 hcz13_6; try clear hfz13_0 hfz13_1 hfz13_2 hfz13_3 hfz13_4 hfz13_5 hfz13_6
  obtain ⟨x4_1, x234002_1, x234004_1, u234002, u234004, rfl, HA, HK1, HO_234002, HO_234003, HO_234004, HO_234005, BK224, BK225, BK233, HB⟩ := hrel
  cases gk with
  | zero => exact absurd HA.out (by simp [spiritlevelref25_Same.l0])
  | succ k1 =>
   have H := HA.out
   clear HA
   simp only [spiritlevelref25_Same.l0] at H
   by_cases c14 : x4_1 < (l0_1.length : Int)
   ·rw [if_pos c14] at H
    have c14b0 : decide (x4_1 < (l0_1.length : Int)) = true := decide_eq_true c14
    clear c14
    replace H := Option.bind_eq_some_iff.mp H
    obtain ⟨t234, A150, H⟩ := H
    replace H : (if x234002_1.length < 17592186044416 then ((spiritlevelref25_Latch.f a0_0 l0_1 l0_2 l0_3 l0_4 x4_1).bind fun t238 => (if x234004_1.length < 17592186044416 then (spiritlevelref25_Same.l0 k1 (wrap64 (x4_1 + 1)) a0_0 l0_1 l0_2 l0_3 l0_4 0 1 (x234002_1 ++ [t234]) y226 (x234004_1 ++ [t238]) t229 t232) else (none))) else (none)) = some (r1, r2, r3, r4, r5, r6, r7) := H
    have A15 := M_ A150
    clear A150
    by_cases c16 : x234002_1.length < 17592186044416
    ·rw [if_pos c16] at H
     have LMc16 := M_ c16
     clear c16
     obtain ⟨y235, hy235⟩ : ∃ y_ : List Int, y_ = (x234002_1 ++ [t234]) := ⟨_, rfl⟩
     replace H : ((spiritlevelref25_Latch.f a0_0 l0_1 l0_2 l0_3 l0_4 x4_1).bind fun t238 => (if x234004_1.length < 17592186044416 then (spiritlevelref25_Same.l0 k1 (wrap64 (x4_1 + 1)) a0_0 l0_1 l0_2 l0_3 l0_4 0 1 y235 y226 (x234004_1 ++ [t238]) t229 t232) else (none))) = some (r1, r2, r3, r4, r5, r6, r7) := by first | (rw [hy235]; with_reducible exact H) | (have H2_ := (Option.bind_some _ _).symm.trans H; rw [hy235]; with_reducible exact H2_) | (have H2_ := (Option.bind_some _ _).symm.trans H; with_reducible exact H2_) | with_reducible exact H | (rw [hy235]; exact H) | exact H
     have Ny235 := M_ hy235
     clear hy235
     replace H := Option.bind_eq_some_iff.mp H
     obtain ⟨t238, A170, H⟩ := H
     replace H : (if x234004_1.length < 17592186044416 then (spiritlevelref25_Same.l0 k1 (wrap64 (x4_1 + 1)) a0_0 l0_1 l0_2 l0_3 l0_4 0 1 y235 y226 (x234004_1 ++ [t238]) t229 t232) else (none)) = some (r1, r2, r3, r4, r5, r6, r7) := H
     have A17 := M_ A170
     clear A170
     obtain rfl : t234 = t238 := Option.some.inj (A15.out.symm.trans A17.out)
     by_cases c18 : x234004_1.length < 17592186044416
     ·rw [if_pos c18] at H
      have LMc18 := M_ c18
      clear c18
      obtain ⟨y239, hy239⟩ : ∃ y_ : List Int, y_ = (x234004_1 ++ [t234]) := ⟨_, rfl⟩
      replace H : (spiritlevelref25_Same.l0 k1 (wrap64 (x4_1 + 1)) a0_0 l0_1 l0_2 l0_3 l0_4 0 1 y235 y226 y239 t229 t232) = some (r1, r2, r3, r4, r5, r6, r7) := by first | (rw [hy239]; with_reducible exact H) | (have H2_ := (Option.bind_some _ _).symm.trans H; rw [hy239]; with_reducible exact H2_) | (have H2_ := (Option.bind_some _ _).symm.trans H; with_reducible exact H2_) | with_reducible exact H | (rw [hy239]; exact H) | exact H
      have Ny239 := M_ hy239
      clear hy239
      have H' := M_ H
      clear H
      have hnb19 := NB224_225.out
      have hnc19 := NB225_224.out
      have hnb20 := NB224_233.out
      have hnc20 := NB233_224.out
      obtain ⟨hcz21_0, hcz21_1, hcz21_2, hcz21_3, hcz21_4⟩ := cz5_ BK224.out
      obtain ⟨hfz21_0, hfz21_1, hfz21_2, hfz21_3, hfz21_4⟩ := fz5_ BK224.out
      try go_wp2
      have n0_ := M_ (Kd.R_drew HO_234002.out)
      have n1_ := M_ (Kd.S_drew HO_234003.out)
      have n2_ := M_ (Kd.R_drew HO_234004.out)
      have n3_ := M_ (Kd.R_drew HO_234005.out)
      have n4_ := M_ (blk_drew BK224.out)
      have n5_ := M_ (blk_drew BK225.out)
      have n6_ := M_ (blk_drew BK233.out)
      have n7_ := M_ (below_drew1 HB.out)
      clear HO_234002
      clear HO_234003
      clear HO_234004
      clear HO_234005
      clear BK224
      clear BK225
      clear BK233
      clear HB
      have HO_234002 := n0_
      have HO_234003 := n1_
      have HO_234004 := n2_
      have HO_234005 := n3_
      have BK224 := n4_
      have BK225 := n5_
      have BK233 := n6_
      have HB := n7_
      clear n0_ n1_ n2_ n3_ n4_ n5_ n6_ n7_
      refine start_ (n := 9) (S := fun w' => w'.cell? ⟨gb233, 0, none⟩ = some (.int .i64 0) ∧ w'.cell? ⟨gb233, 1, none⟩ = some (.int .i64 1) ∧ w'.cell? ⟨gb233, 2, none⟩ = some (u234002) ∧ w'.cell? ⟨gb233, 3, none⟩ = some (.slice Ao9 y226.length co9) ∧ w'.cell? ⟨gb233, 4, none⟩ = some (u234004) ∧ w'.cell? ⟨gb233, 5, none⟩ = some (.slice Ao8 t229.length co8) ∧ w'.cell? ⟨gb233, 6, none⟩ = some (.int .i64 t232) ∧ w'.cell? ⟨gb224, 0, none⟩ = some (.int .i64 a0_0) ∧ w'.cell? ⟨gb224, 1, none⟩ = some (.slice A0_1 l0_1.length c0_1) ∧ w'.cell? ⟨gb224, 2, none⟩ = some (.slice A0_2 l0_2.length c0_2) ∧ w'.cell? ⟨gb224, 3, none⟩ = some (.slice A0_3 l0_3.length c0_3) ∧ w'.cell? ⟨gb224, 4, none⟩ = some (.slice A0_4 l0_4.length c0_4)) (ds := [8]) z13_ (by kernel_rfl) rfl rfl ⟨(blk_cell BK233.out 0).trans rfl, (blk_cell BK233.out 1).trans rfl, (blk_cell BK233.out 2).trans rfl, (blk_cell BK233.out 3).trans rfl, (blk_cell BK233.out 4).trans rfl, (blk_cell BK233.out 5).trans rfl, (blk_cell BK233.out 6).trans rfl, (blk_cell BK224.out 0).trans rfl, (blk_cell BK224.out 1).trans rfl, (blk_cell BK224.out 2).trans rfl, (blk_cell BK224.out 3).trans rfl, (blk_cell BK224.out 4).trans rfl⟩ (fun hHeld => ?_); refine with_tabW spiritlevelref25_Same.tab5 spiritlevelref25_Same.bits5 (fun HT_ HW_ => ?_)
      generalize wr.drew = w22 at HO_234002 HO_234003 HO_234004 HO_234005 BK224 BK225 BK233 HB hHeld ⊢
      refine pure_ (i := 0) (N := some 16) (v := ?_) (a' := ?_) z14_ rfl rfl (any_of HT_.out (by kernel_rfl)) (fun _ _ _ h => h) (Or.inl ⟨by rfl, ?_⟩) ?_ ?_
      rotate_left
      ·intro w'
       go_simp
       with_reducible rfl
      rotate_left
      ·simp only [Act.put, e1_, e2_, e3_, i64_w, i32_w]
       rfl
      refine pure_ (i := 3) (N := some 19) (v := ?_) (a' := ?_) z15_ rfl rfl (any_of HT_.out (by kernel_rfl)) (fun _ _ _ h => h) (Or.inl ⟨by rfl, ?_⟩) ?_ ?_
      rotate_left
      ·intro w'
       go_simp
       with_reducible rfl
      rotate_left
      ·simp only [Act.put, e1_, e2_, e3_, i64_w, i32_w]
       rfl
      refine take_ (i := 1) (N := some 17) (v := ?_) (a' := ?_) z16_ rfl rfl (take_ofW HT_.out HW_.out (by kernel_rfl)) (fun _ _ _ h => h) (Or.inl ⟨by rfl, ?_⟩) hHeld ?_ ?_
      rotate_left
      ·rintro w' ⟨s0, s1, s2, s3, s4, s5, s6, s7, s8, s9, s10, s11⟩
       go_simp
       with_reducible rfl
      rotate_left
      ·simp only [Act.put, e1_, e2_, e3_, i64_w, i32_w]
       rfl
      refine take_ (i := 2) (N := some 18) (v := ?_) (a' := ?_) z17_ rfl rfl (take_ofW HT_.out HW_.out (by kernel_rfl)) (fun _ _ _ h => h) (Or.inl ⟨by rfl, ?_⟩) hHeld ?_ ?_
      rotate_left
      ·rintro w' ⟨s0, s1, s2, s3, s4, s5, s6, s7, s8, s9, s10, s11⟩
       go_simp
       with_reducible rfl
      rotate_left
      ·simp only [Act.put, e1_, e2_, e3_, i64_w, i32_w]
       rfl
      refine one_ (i := 4) (N := some 20) z18_ rfl rfl (one_of HT_.out (by kernel_rfl)) (by decide) (fun K hK => ?_)
      refine goes_ Try.func73 (by kernel_rfl) rfl #[.agg #[.int .i64 a0_0, .slice A0_1 l0_1.length c0_1, .slice A0_2 l0_2.length c0_2, .slice A0_3 l0_3.length c0_3, .slice A0_4 l0_4.length c0_4], .int .i64 x4_1] (by rfl) rfl rfl (by (try simp only [List.map_toArray, List.map_cons, List.map_nil]); first | done | rfl) ?_
      with_reducible refine (spiritlevelref25_Latch.calls a0_0 _ _ l0_1 _ _ l0_2 _ _ l0_3 _ _ l0_4 x4_1 t234 _ ?side1 ?side2 ?side3 ?side4 ?side5 ?side6 ?side7 ?side8 A15.out).mono ?_
      (case side1 => exact cl_ (Kd.C_below HR0_1.out HB.out))
      (case side2 => exact HC0_1.out)
      (case side3 => exact cl_ (Kd.C_below HR0_2.out HB.out))
      (case side4 => exact HC0_2.out)
      (case side5 => exact cl_ (Kd.C_below HR0_3.out HB.out))
      (case side6 => exact HC0_3.out)
      (case side7 => exact cl_ (Kd.C_below HR0_4.out HB.out))
      (case side8 => exact HC0_4.out)
      rintro e w23 ⟨rfl, hb⟩
      refine ⟨_, rfl, ?_⟩
      have n0_ := rb_ HO_234002 hb
      have n1_ := M_ (Kd.S_below (by (with_reducible repeat (first | apply Kd.S_alloc | apply Kd.S_drewN | apply Kd.S_drew)); exact HO_234003.out) hb)
      have n2_ := rb_ HO_234004 hb
      have n3_ := rb_ HO_234005 hb
      have n4_ := bb_ BK224 hb
      have n5_ := bb_ BK225 hb
      have n6_ := bb_ BK233 hb
      have n7_ := wb_ HB hb
      clear HO_234002
      clear HO_234003
      clear HO_234004
      clear HO_234005
      clear BK224
      clear BK225
      clear BK233
      clear HB
      have HO_234002 := n0_
      have HO_234003 := n1_
      have HO_234004 := n2_
      have HO_234005 := n3_
      have BK224 := n4_
      have BK225 := n5_
      have BK233 := n6_
      have HB := n7_
      clear n0_ n1_ n2_ n3_ n4_ n5_ n6_ n7_
      (try clear hb)
      (try clear hb2)
      (try clear hk)
      (try clear hi)
      refine hK.out _ _ ⟨(blk_cell BK233.out 0).trans rfl, (blk_cell BK233.out 1).trans rfl, (blk_cell BK233.out 2).trans rfl, (blk_cell BK233.out 3).trans rfl, (blk_cell BK233.out 4).trans rfl, (blk_cell BK233.out 5).trans rfl, (blk_cell BK233.out 6).trans rfl, (blk_cell BK224.out 0).trans rfl, (blk_cell BK224.out 1).trans rfl, (blk_cell BK224.out 2).trans rfl, (blk_cell BK224.out 3).trans rfl, (blk_cell BK224.out 4).trans rfl⟩ (fun hHeld => ?_)
      clear hK K
      refine norm_ (a' := ?_) ?_ ?_
      rotate_left
      ·show Act.put _ (some 20) _ = _
       simp only [Act.put, e1_, e2_, e3_, i64_w, i32_w]
       rfl
      refine one_ (i := 5) (N := some 21) z19_ rfl rfl (one_of HT_.out (by kernel_rfl)) (by decide) (fun K hK => ?_)
      refine value_ (w1 := ?_) (v := ?_) (by rfl) rfl ?_ ?_
      rotate_left 2
      ·go_simp
       constructor
       ·rfl
       ·rfl
      refine hK.out _ _ ⟨(blk_cell (blk_alloc BK233.out _) 0).trans rfl, (blk_cell (blk_alloc BK233.out _) 1).trans rfl, (blk_cell (blk_alloc BK233.out _) 2).trans rfl, (blk_cell (blk_alloc BK233.out _) 3).trans rfl, (blk_cell (blk_alloc BK233.out _) 4).trans rfl, (blk_cell (blk_alloc BK233.out _) 5).trans rfl, (blk_cell (blk_alloc BK233.out _) 6).trans rfl, (blk_cell (blk_alloc BK224.out _) 0).trans rfl, (blk_cell (blk_alloc BK224.out _) 1).trans rfl, (blk_cell (blk_alloc BK224.out _) 2).trans rfl, (blk_cell (blk_alloc BK224.out _) 3).trans rfl, (blk_cell (blk_alloc BK224.out _) 4).trans rfl⟩ (fun hHeld => ?_)
      clear hK K
      refine norm_ (a' := ?_) ?_ ?_
      rotate_left
      ·show Act.put _ (some 21) _ = _
       simp only [Act.put, e1_, e2_, e3_, i64_w, i32_w]
       rfl
      refine one_ (i := 6) (N := some 22) z20_ rfl rfl (one_of HT_.out (by kernel_rfl)) (by decide) (fun K hK => ?_)
      refine Kd.R_append_step (Kd.int .i64) (w0 := w) w.heap.size (by rfl) (.tmp 17) (.tmp 21) 24 3 (.int .i64 0) 8 rfl Try.underlying24 info3 rfl (by decide) (by omega) u234002 x234002_1 t234 [.int .i64 t234] (fun k_ => some k_ ≠ (u234004 : Value).ownBlock) (fun _ => False) rfl rfl ?aP (fun _ hk => hk.elim) ?aF ?aO ?aB ?aS ?aL ?_
      (case aP => exact rfl)
      (case aB => exact (ws_ HB.out))
      (case aF => exact (fun k_ hk => Kd.fresh' (Kd.R_lt (rl_ HO_234004.out)) k_ hk))
      (case aO => exact (rl_ HO_234002.out))
      (case aS => exact (below_size (ws_ HB.out)))
      (case aL => have := LMc16.out; omega)
      intro v236 w24 ho hb hg hat
      rw [← Ny235.out] at ho
      have n0_ := M_ (Kd.S_after (ok := (fun k_ => some k_ ≠ (u234004 : Value).ownBlock)) (by (with_reducible repeat (first | apply Kd.S_alloc | apply Kd.S_drewN | apply Kd.S_drew)); exact Kd.S_mono HO_234003.out (fun _ hk => ⟨hk.2, hk.1⟩)) hg hat)
      have n1_ := M_ (Kd.R_after (ok := (fun _ => True)) (rl_ (Kd.R_mono HO_234004.out (fun _ hk => ⟨trivial, hk⟩))) hg hat)
      have n2_ := M_ (Kd.R_over' (rl_ HO_234005.out) (Kd.R_typed (rl_ HO_234002.out)) (by decide) hg)
      have n3_ := M_ (blk_grown (bl_ BK224.out) hg (Kd.R_ne HO_234002.out BK224.out (by decide)))
      have n4_ := M_ (blk_grown (bl_ BK225.out) hg (Kd.R_ne HO_234002.out BK225.out (by decide)))
      have n5_ := M_ (blk_grown (bl_ BK233.out) hg (Kd.R_ne HO_234002.out BK233.out (by decide)))
      have n6_ := M_ (hb)
      have n7_ := M_ (ho)
      clear HO_234003
      clear HO_234004
      clear HO_234005
      clear BK224
      clear BK225
      clear BK233
      clear HB
      clear HO_234002
      have HO_234003 := n0_
      have HO_234004 := n1_
      have HO_234005 := n2_
      have BK224 := n3_
      have BK225 := n4_
      have BK233 := n5_
      have HB := n6_
      have HO237 := n7_
      clear n0_ n1_ n2_ n3_ n4_ n5_ n6_ n7_
      clear ho hb hg hat
      obtain ⟨Ao25, co25, eo25⟩ := Kd.R_slice HO237.out
      (first | subst eo25 | (injection eo25 with f1_ f2_ f3_; have f4_ := f1_.symm; have f5_ := f3_.symm; clear f1_ f2_ f3_; subst f4_; subst f5_))
      refine hK.out _ _ ⟨(blk_cell BK233.out 0).trans rfl, (blk_cell BK233.out 1).trans rfl, (blk_cell BK233.out 2).trans rfl, (blk_cell BK233.out 3).trans rfl, (blk_cell BK233.out 4).trans rfl, (blk_cell BK233.out 5).trans rfl, (blk_cell BK233.out 6).trans rfl, (blk_cell BK224.out 0).trans rfl, (blk_cell BK224.out 1).trans rfl, (blk_cell BK224.out 2).trans rfl, (blk_cell BK224.out 3).trans rfl, (blk_cell BK224.out 4).trans rfl⟩ (fun hHeld => ?_)
      clear hK K
      refine norm_ (a' := ?_) ?_ ?_
      rotate_left
      ·show Act.put _ (some 22) _ = _
       simp only [Act.put, e1_, e2_, e3_, i64_w, i32_w]
       rfl
      refine pure_ (i := 7) (N := some 23) (v := ?_) (a' := ?_) z21_ rfl rfl (any_of HT_.out (by kernel_rfl)) (fun _ _ _ h => h) (Or.inl ⟨by rfl, ?_⟩) ?_ ?_
      rotate_left
      ·intro w'
       go_simp
       with_reducible rfl
      rotate_left
      ·simp only [Act.put, e1_, e2_, e3_, i64_w, i32_w]
       rfl
      refine last_ (i := 8) (N := none) z22_ rfl rfl (one_of HT_.out (by kernel_rfl)) (by decide) (fun K hK => ?_)
      have hs26 : w24.cell? ⟨gb233, 2, none⟩ = some (u234002) := (blk_cell BK233.out 2).trans rfl
      have hfs26 := blk_frozen BK233.out 2
      have hns26_0 := NB224_233.out
      have hns26_1 := NB225_233.out
      have hms26_0 := NB233_224.out
      have hms26_1 := NB233_225.out
      refine skip_ (w1 := ?_) (by rfl) rfl ?_ ?_
      rotate_left
      ·go_simp
       rfl
      refine hK.out _ _ ?_
      clear hK K
      refine done_ (done_of HT_.out (by kernel_rfl)) ?_
      try go_wp2
      have n0_ : Aside0 (Kd.S (Kd.slice 3 (Kd.int .i64)) 24 (w24.setCell ⟨gb233, 2, none⟩ (.slice Ao25 y235.length co25)) w.heap.size (fun k_ => some k_ ≠ (u234004 : Value).ownBlock ∧ some k_ ≠ (.slice Ao25 y235.length co25 : Value).ownBlock) (.slice Ao9 y226.length co9) y226) := ⟨by (with_reducible repeat (first | apply Kd.S_alloc | apply Kd.S_drewN | apply Kd.S_drew)); exact Kd.S_mono (Kd.S_far (p := ⟨gb233, 2, none⟩) (Kd.S_types HO_234003.out BK233.out (by decide)) (fun _ hk => hk.2) (.slice Ao25 y235.length co25)) (fun _ hk => ⟨hk.1.1, hk.1.2⟩)⟩
      have n1_ : Aside0 (Kd.R (Kd.int .i64) 3 (w24.setCell ⟨gb233, 2, none⟩ (.slice Ao25 y235.length co25)) w.heap.size (fun k_ => some k_ ≠ (.slice Ao25 y235.length co25 : Value).ownBlock) u234004 x234004_1) := ⟨by (with_reducible repeat (first | apply a0_ | apply a1_ | apply a2_)); exact Kd.R_mono (Kd.R_far (p := ⟨gb233, 2, none⟩) (Kd.R_types HO_234004.out BK233.out (by decide)) (fun _ hk => hk.2) (.slice Ao25 y235.length co25)) (fun _ hk => hk.1.2)⟩
      have n2_ : Aside0 (Kd.R k55 55 (w24.setCell ⟨gb233, 2, none⟩ (.slice Ao25 y235.length co25)) w.heap.size (fun _ => True) (.slice Ao8 t229.length co8) t229) := ⟨by (with_reducible repeat (first | apply a0_ | apply a1_ | apply a2_)); exact Kd.R_mono (Kd.R_far (p := ⟨gb233, 2, none⟩) (Kd.R_types HO_234005.out BK233.out (by decide)) (fun _ hk => hk.2) (.slice Ao25 y235.length co25)) (fun _ hk => trivial)⟩
      have n3_ : Aside0 (Kd.R (Kd.int .i64) 3 (w24.setCell ⟨gb233, 2, none⟩ (.slice Ao25 y235.length co25)) w.heap.size (fun k_ => some k_ ≠ (u234004 : Value).ownBlock) (.slice Ao25 y235.length co25) y235) := ⟨by (with_reducible repeat (first | apply a0_ | apply a1_ | apply a2_)); exact Kd.R_mono (Kd.R_far (p := ⟨gb233, 2, none⟩) (Kd.R_types HO237.out BK233.out (by decide)) (fun _ hk => hk.2) (.slice Ao25 y235.length co25)) (fun _ hk => hk.1)⟩
      have n4_ : Aside0 ((w24.setCell ⟨gb233, 2, none⟩ (.slice Ao25 y235.length co25)).heap[gb224]? = some (.cells #[.int .i64 a0_0, .slice A0_1 l0_1.length c0_1, .slice A0_2 l0_2.length c0_2, .slice A0_3 l0_3.length c0_3, .slice A0_4 l0_4.length c0_4] 26 (0, 0))) := ⟨by (with_reducible repeat (first | refine k0_ ?_ _ | refine k1_ ?_ | refine k2_ ?_ _)); refine blk_far ?_ NB224_233.out _; (with_reducible repeat (first | refine k0_ ?_ _ | refine k1_ ?_ | refine k2_ ?_ _)); exact BK224.out⟩
      have n5_ : Aside0 ((w24.setCell ⟨gb233, 2, none⟩ (.slice Ao25 y235.length co25)).heap[gb225]? = some (.cells #[.int .i64 0, .int .i64 0, .slice none 0 0, .slice none 0 0, .slice none 0 0, .slice none 0 0, .int .i64 0] 37 (0, 0))) := ⟨by (with_reducible repeat (first | refine k0_ ?_ _ | refine k1_ ?_ | refine k2_ ?_ _)); refine blk_far ?_ NB225_233.out _; (with_reducible repeat (first | refine k0_ ?_ _ | refine k1_ ?_ | refine k2_ ?_ _)); exact BK225.out⟩
      have n6_ : Aside0 ((w24.setCell ⟨gb233, 2, none⟩ (.slice Ao25 y235.length co25)).heap[gb233]? = some (.cells #[.int .i64 0, .int .i64 1, .slice Ao25 y235.length co25, .slice Ao9 y226.length co9, u234004, .slice Ao8 t229.length co8, .int .i64 t232] 37 (0, 0))) := ⟨by (with_reducible repeat (first | refine k0_ ?_ _ | refine k1_ ?_ | refine k2_ ?_ _)); refine blk_put (cs := #[.int .i64 0, .int .i64 1, u234002, .slice Ao9 y226.length co9, u234004, .slice Ao8 t229.length co8, .int .i64 t232]) ?_ 2 _ rfl; (with_reducible repeat (first | refine k0_ ?_ _ | refine k1_ ?_ | refine k2_ ?_ _)); exact BK233.out⟩
      have n7_ : Aside0 (Below w.heap.size w (w24.setCell ⟨gb233, 2, none⟩ (.slice Ao25 y235.length co25))) := ⟨by repeat (first | (with_reducible first | exact HB.out | apply b0_ | apply b1_ | apply b2_ | refine below_set ?_ GE224.out | refine below_set ?_ GE225.out | refine below_set ?_ GE233.out) | exact HB.out)⟩
      (try clear HO_234003)
      (try clear HO_234004)
      (try clear HO_234005)
      (try clear HO237)
      (try clear BK224)
      (try clear BK225)
      (try clear BK233)
      (try clear HB)
      generalize (w24.setCell ⟨gb233, 2, none⟩ (.slice Ao25 y235.length co25)) = w27 at n0_ n1_ n2_ n3_ n4_ n5_ n6_ n7_ ⊢
      have HO_234003 := n0_
      have HO_234004 := n1_
      have HO_234005 := n2_
      have HO237 := n3_
      have BK224 := n4_
      have BK225 := n5_
      have BK233 := n6_
      have HB := n7_
      clear n0_ n1_ n2_ n3_ n4_ n5_ n6_ n7_
      have n0_ := M_ (Kd.S_drew HO_234003.out)
      have n1_ := M_ (Kd.R_drew HO_234004.out)
      have n2_ := M_ (Kd.R_drew HO_234005.out)
      have n3_ := M_ (Kd.R_drew HO237.out)
      have n4_ := M_ (blk_drew BK224.out)
      have n5_ := M_ (blk_drew BK225.out)
      have n6_ := M_ (blk_drew BK233.out)
      have n7_ := M_ (below_drew1 HB.out)
      clear HO_234003
      clear HO_234004
      clear HO_234005
      clear HO237
      clear BK224
      clear BK225
      clear BK233
      clear HB
      have HO_234003 := n0_
      have HO_234004 := n1_
      have HO_234005 := n2_
      have HO237 := n3_
      have BK224 := n4_
      have BK225 := n5_
      have BK233 := n6_
      have HB := n7_
      clear n0_ n1_ n2_ n3_ n4_ n5_ n6_ n7_
      refine start_ (n := 9) (S := fun w' => w'.cell? ⟨gb233, 0, none⟩ = some (.int .i64 0) ∧ w'.cell? ⟨gb233, 1, none⟩ = some (.int .i64 1) ∧ w'.cell? ⟨gb233, 2, none⟩ = some (.slice Ao25 y235.length co25) ∧ w'.cell? ⟨gb233, 3, none⟩ = some (.slice Ao9 y226.length co9) ∧ w'.cell? ⟨gb233, 4, none⟩ = some (u234004) ∧ w'.cell? ⟨gb233, 5, none⟩ = some (.slice Ao8 t229.length co8) ∧ w'.cell? ⟨gb233, 6, none⟩ = some (.int .i64 t232) ∧ w'.cell? ⟨gb224, 0, none⟩ = some (.int .i64 a0_0) ∧ w'.cell? ⟨gb224, 1, none⟩ = some (.slice A0_1 l0_1.length c0_1) ∧ w'.cell? ⟨gb224, 2, none⟩ = some (.slice A0_2 l0_2.length c0_2) ∧ w'.cell? ⟨gb224, 3, none⟩ = some (.slice A0_3 l0_3.length c0_3) ∧ w'.cell? ⟨gb224, 4, none⟩ = some (.slice A0_4 l0_4.length c0_4)) (ds := [8]) z13_ (by kernel_rfl) rfl rfl ⟨(blk_cell BK233.out 0).trans rfl, (blk_cell BK233.out 1).trans rfl, (blk_cell BK233.out 2).trans rfl, (blk_cell BK233.out 3).trans rfl, (blk_cell BK233.out 4).trans rfl, (blk_cell BK233.out 5).trans rfl, (blk_cell BK233.out 6).trans rfl, (blk_cell BK224.out 0).trans rfl, (blk_cell BK224.out 1).trans rfl, (blk_cell BK224.out 2).trans rfl, (blk_cell BK224.out 3).trans rfl, (blk_cell BK224.out 4).trans rfl⟩ (fun hHeld => ?_); refine with_tabW spiritlevelref25_Same.tab6 spiritlevelref25_Same.bits6 (fun HT_ HW_ => ?_)
      generalize w27.drew = w28 at HO_234003 HO_234004 HO_234005 HO237 BK224 BK225 BK233 HB hHeld ⊢
      refine pure_ (i := 0) (N := some 24) (v := ?_) (a' := ?_) z14_ rfl rfl (any_of HT_.out (by kernel_rfl)) (fun _ _ _ h => h) (Or.inl ⟨by rfl, ?_⟩) ?_ ?_
      rotate_left
      ·intro w'
       go_simp
       with_reducible rfl
      rotate_left
      ·simp only [Act.put, e1_, e2_, e3_, i64_w, i32_w]
       rfl
      refine pure_ (i := 3) (N := some 27) (v := ?_) (a' := ?_) z15_ rfl rfl (any_of HT_.out (by kernel_rfl)) (fun _ _ _ h => h) (Or.inl ⟨by rfl, ?_⟩) ?_ ?_
      rotate_left
      ·intro w'
       go_simp
       with_reducible rfl
      rotate_left
      ·simp only [Act.put, e1_, e2_, e3_, i64_w, i32_w]
       rfl
      refine take_ (i := 1) (N := some 25) (v := ?_) (a' := ?_) z16_ rfl rfl (take_ofW HT_.out HW_.out (by kernel_rfl)) (fun _ _ _ h => h) (Or.inl ⟨by rfl, ?_⟩) hHeld ?_ ?_
      rotate_left
      ·rintro w' ⟨s0, s1, s2, s3, s4, s5, s6, s7, s8, s9, s10, s11⟩
       go_simp
       with_reducible rfl
      rotate_left
      ·simp only [Act.put, e1_, e2_, e3_, i64_w, i32_w]
       rfl
      refine take_ (i := 2) (N := some 26) (v := ?_) (a' := ?_) z17_ rfl rfl (take_ofW HT_.out HW_.out (by kernel_rfl)) (fun _ _ _ h => h) (Or.inl ⟨by rfl, ?_⟩) hHeld ?_ ?_
      rotate_left
      ·rintro w' ⟨s0, s1, s2, s3, s4, s5, s6, s7, s8, s9, s10, s11⟩
       go_simp
       with_reducible rfl
      rotate_left
      ·simp only [Act.put, e1_, e2_, e3_, i64_w, i32_w]
       rfl
      refine one_ (i := 4) (N := some 28) z18_ rfl rfl (one_of HT_.out (by kernel_rfl)) (by decide) (fun K hK => ?_)
      refine goes_ Try.func73 (by kernel_rfl) rfl #[.agg #[.int .i64 a0_0, .slice A0_1 l0_1.length c0_1, .slice A0_2 l0_2.length c0_2, .slice A0_3 l0_3.length c0_3, .slice A0_4 l0_4.length c0_4], .int .i64 x4_1] (by rfl) rfl rfl (by (try simp only [List.map_toArray, List.map_cons, List.map_nil]); first | done | rfl) ?_
      with_reducible refine (spiritlevelref25_Latch.calls a0_0 _ _ l0_1 _ _ l0_2 _ _ l0_3 _ _ l0_4 x4_1 t234 _ ?side1 ?side2 ?side3 ?side4 ?side5 ?side6 ?side7 ?side8 A17.out).mono ?_
      (case side1 => exact cl_ (Kd.C_below HR0_1.out HB.out))
      (case side2 => exact HC0_1.out)
      (case side3 => exact cl_ (Kd.C_below HR0_2.out HB.out))
      (case side4 => exact HC0_2.out)
      (case side5 => exact cl_ (Kd.C_below HR0_3.out HB.out))
      (case side6 => exact HC0_3.out)
      (case side7 => exact cl_ (Kd.C_below HR0_4.out HB.out))
      (case side8 => exact HC0_4.out)
      rintro e w29 ⟨rfl, hb⟩
      refine ⟨_, rfl, ?_⟩
      have n0_ := M_ (Kd.S_below (by (with_reducible repeat (first | apply Kd.S_alloc | apply Kd.S_drewN | apply Kd.S_drew)); exact HO_234003.out) hb)
      have n1_ := rb_ HO_234004 hb
      have n2_ := rb_ HO_234005 hb
      have n3_ := rb_ HO237 hb
      have n4_ := bb_ BK224 hb
      have n5_ := bb_ BK225 hb
      have n6_ := bb_ BK233 hb
      have n7_ := wb_ HB hb
      clear HO_234003
      clear HO_234004
      clear HO_234005
      clear HO237
      clear BK224
      clear BK225
      clear BK233
      clear HB
      have HO_234003 := n0_
      have HO_234004 := n1_
      have HO_234005 := n2_
      have HO237 := n3_
      have BK224 := n4_
      have BK225 := n5_
      have BK233 := n6_
      have HB := n7_
      clear n0_ n1_ n2_ n3_ n4_ n5_ n6_ n7_
      (try clear hb)
      (try clear hb2)
      (try clear hk)
      (try clear hi)
      refine hK.out _ _ ⟨(blk_cell BK233.out 0).trans rfl, (blk_cell BK233.out 1).trans rfl, (blk_cell BK233.out 2).trans rfl, (blk_cell BK233.out 3).trans rfl, (blk_cell BK233.out 4).trans rfl, (blk_cell BK233.out 5).trans rfl, (blk_cell BK233.out 6).trans rfl, (blk_cell BK224.out 0).trans rfl, (blk_cell BK224.out 1).trans rfl, (blk_cell BK224.out 2).trans rfl, (blk_cell BK224.out 3).trans rfl, (blk_cell BK224.out 4).trans rfl⟩ (fun hHeld => ?_)
      clear hK K
      refine norm_ (a' := ?_) ?_ ?_
      rotate_left
      ·show Act.put _ (some 28) _ = _
       simp only [Act.put, e1_, e2_, e3_, i64_w, i32_w]
       rfl
      refine one_ (i := 5) (N := some 29) z19_ rfl rfl (one_of HT_.out (by kernel_rfl)) (by decide) (fun K hK => ?_)
      refine value_ (w1 := ?_) (v := ?_) (by rfl) rfl ?_ ?_
      rotate_left 2
      ·go_simp
       constructor
       ·rfl
       ·rfl
      refine hK.out _ _ ⟨(blk_cell (blk_alloc BK233.out _) 0).trans rfl, (blk_cell (blk_alloc BK233.out _) 1).trans rfl, (blk_cell (blk_alloc BK233.out _) 2).trans rfl, (blk_cell (blk_alloc BK233.out _) 3).trans rfl, (blk_cell (blk_alloc BK233.out _) 4).trans rfl, (blk_cell (blk_alloc BK233.out _) 5).trans rfl, (blk_cell (blk_alloc BK233.out _) 6).trans rfl, (blk_cell (blk_alloc BK224.out _) 0).trans rfl, (blk_cell (blk_alloc BK224.out _) 1).trans rfl, (blk_cell (blk_alloc BK224.out _) 2).trans rfl, (blk_cell (blk_alloc BK224.out _) 3).trans rfl, (blk_cell (blk_alloc BK224.out _) 4).trans rfl⟩ (fun hHeld => ?_)
      clear hK K
      refine norm_ (a' := ?_) ?_ ?_
      rotate_left
      ·show Act.put _ (some 29) _ = _
       simp only [Act.put, e1_, e2_, e3_, i64_w, i32_w]
       rfl
      refine one_ (i := 6) (N := some 30) z20_ rfl rfl (one_of HT_.out (by kernel_rfl)) (by decide) (fun K hK => ?_)
      refine Kd.R_append_step (Kd.int .i64) (w0 := w) w.heap.size (by rfl) (.tmp 25) (.tmp 29) 24 3 (.int .i64 0) 8 rfl Try.underlying24 info3 rfl (by decide) (by omega) u234004 x234004_1 t234 [.int .i64 t234] (fun k_ => some k_ ≠ (.slice Ao25 y235.length co25 : Value).ownBlock) (fun _ => False) rfl rfl ?aP (fun _ hk => hk.elim) ?aF ?aO ?aB ?aS ?aL ?_
      (case aP => exact rfl)
      (case aB => exact (ws_ HB.out))
      (case aF => exact (fun k_ hk => Kd.fresh' (Kd.R_lt (rl_ HO237.out)) k_ hk))
      (case aO => exact (rl_ HO_234004.out))
      (case aS => exact (below_size (ws_ HB.out)))
      (case aL => have := LMc18.out; omega)
      intro v240 w30 ho hb hg hat
      rw [← Ny239.out] at ho
      have n0_ := M_ (Kd.S_after (ok := (fun k_ => some k_ ≠ (.slice Ao25 y235.length co25 : Value).ownBlock)) (by (with_reducible repeat (first | apply Kd.S_alloc | apply Kd.S_drewN | apply Kd.S_drew)); exact Kd.S_mono HO_234003.out (fun _ hk => ⟨hk.2, hk.1⟩)) hg hat)
      have n1_ := M_ (Kd.R_over' (rl_ HO_234005.out) (Kd.R_typed (rl_ HO_234004.out)) (by decide) hg)
      have n2_ := M_ (blk_grown (bl_ BK224.out) hg (Kd.R_ne HO_234004.out BK224.out (by decide)))
      have n3_ := M_ (blk_grown (bl_ BK225.out) hg (Kd.R_ne HO_234004.out BK225.out (by decide)))
      have n4_ := M_ (blk_grown (bl_ BK233.out) hg (Kd.R_ne HO_234004.out BK233.out (by decide)))
      have n5_ := M_ (Kd.R_after (ok := (fun _ => True)) (rl_ (Kd.R_mono HO237.out (fun _ hk => ⟨trivial, hk⟩))) hg hat)
      have n6_ := M_ (hb)
      have n7_ := M_ (ho)
      clear HO_234003
      clear HO_234005
      clear BK224
      clear BK225
      clear BK233
      clear HO237
      clear HB
      clear HO_234004
      have HO_234003 := n0_
      have HO_234005 := n1_
      have BK224 := n2_
      have BK225 := n3_
      have BK233 := n4_
      have HO237 := n5_
      have HB := n6_
      have HO241 := n7_
      clear n0_ n1_ n2_ n3_ n4_ n5_ n6_ n7_
      clear ho hb hg hat
      obtain ⟨Ao31, co31, eo31⟩ := Kd.R_slice HO241.out
      (first | subst eo31 | (injection eo31 with f1_ f2_ f3_; have f4_ := f1_.symm; have f5_ := f3_.symm; clear f1_ f2_ f3_; subst f4_; subst f5_))
      refine hK.out _ _ ⟨(blk_cell BK233.out 0).trans rfl, (blk_cell BK233.out 1).trans rfl, (blk_cell BK233.out 2).trans rfl, (blk_cell BK233.out 3).trans rfl, (blk_cell BK233.out 4).trans rfl, (blk_cell BK233.out 5).trans rfl, (blk_cell BK233.out 6).trans rfl, (blk_cell BK224.out 0).trans rfl, (blk_cell BK224.out 1).trans rfl, (blk_cell BK224.out 2).trans rfl, (blk_cell BK224.out 3).trans rfl, (blk_cell BK224.out 4).trans rfl⟩ (fun hHeld => ?_)
      clear hK K
      refine norm_ (a' := ?_) ?_ ?_
      rotate_left
      ·show Act.put _ (some 30) _ = _
       simp only [Act.put, e1_, e2_, e3_, i64_w, i32_w]
       rfl
      refine pure_ (i := 7) (N := some 31) (v := ?_) (a' := ?_) z21_ rfl rfl (any_of HT_.out (by kernel_rfl)) (fun _ _ _ h => h) (Or.inl ⟨by rfl, ?_⟩) ?_ ?_
      rotate_left
      ·intro w'
       go_simp
       with_reducible rfl
      rotate_left
      ·simp only [Act.put, e1_, e2_, e3_, i64_w, i32_w]
       rfl
      refine last_ (i := 8) (N := none) z22_ rfl rfl (one_of HT_.out (by kernel_rfl)) (by decide) (fun K hK => ?_)
      have hs32 : w30.cell? ⟨gb233, 4, none⟩ = some (u234004) := (blk_cell BK233.out 4).trans rfl
      have hfs32 := blk_frozen BK233.out 4
      have hns32_0 := NB224_233.out
      have hns32_1 := NB225_233.out
      have hms32_0 := NB233_224.out
      have hms32_1 := NB233_225.out
      refine skip_ (w1 := ?_) (by rfl) rfl ?_ ?_
      rotate_left
      ·go_simp
       rfl
      refine hK.out _ _ ?_
      clear hK K
      refine done_ (done_of HT_.out (by kernel_rfl)) ?_
      try go_wp2
      go_roundg k1
      case measure => have := HK1.out; omega
      case rel => exact ⟨(wrap64 (x4_1 + 1)), (y235), (y239), (.slice Ao25 y235.length co25), (.slice Ao31 y239.length co31), (by first | rfl | (simp; done) | (simp [*]; done)), H', ⟨by have := HK1.out; omega⟩, ⟨by (with_reducible repeat (first | apply a0_ | apply a1_ | apply a2_)); exact Kd.R_mono (Kd.R_far (p := ⟨gb233, 4, none⟩) (Kd.R_types HO237.out BK233.out (by decide)) (fun _ hk => hk.2) (.slice Ao31 y239.length co31)) (fun _ hk => hk.1.2)⟩, ⟨by (with_reducible repeat (first | apply Kd.S_alloc | apply Kd.S_drewN | apply Kd.S_drew)); exact Kd.S_mono (Kd.S_far (p := ⟨gb233, 4, none⟩) (Kd.S_types HO_234003.out BK233.out (by decide)) (fun _ hk => hk.2) (.slice Ao31 y239.length co31)) (fun _ hk => ⟨hk.1.1, hk.1.2⟩)⟩, ⟨by (with_reducible repeat (first | apply a0_ | apply a1_ | apply a2_)); exact Kd.R_mono (Kd.R_far (p := ⟨gb233, 4, none⟩) (Kd.R_types HO241.out BK233.out (by decide)) (fun _ hk => hk.2) (.slice Ao31 y239.length co31)) (fun _ hk => hk.1)⟩, ⟨by (with_reducible repeat (first | apply a0_ | apply a1_ | apply a2_)); exact Kd.R_mono (Kd.R_far (p := ⟨gb233, 4, none⟩) (Kd.R_types HO_234005.out BK233.out (by decide)) (fun _ hk => hk.2) (.slice Ao31 y239.length co31)) (fun _ hk => trivial)⟩, ⟨by (with_reducible repeat (first | refine k0_ ?_ _ | refine k1_ ?_ | refine k2_ ?_ _)); refine blk_far ?_ NB224_233.out _; (with_reducible repeat (first | refine k0_ ?_ _ | refine k1_ ?_ | refine k2_ ?_ _)); exact BK224.out⟩, ⟨by (with_reducible repeat (first | refine k0_ ?_ _ | refine k1_ ?_ | refine k2_ ?_ _)); refine blk_far ?_ NB225_233.out _; (with_reducible repeat (first | refine k0_ ?_ _ | refine k1_ ?_ | refine k2_ ?_ _)); exact BK225.out⟩, ⟨by (with_reducible repeat (first | refine k0_ ?_ _ | refine k1_ ?_ | refine k2_ ?_ _)); refine blk_put (cs := #[.int .i64 0, .int .i64 1, .slice Ao25 y235.length co25, .slice Ao9 y226.length co9, u234004, .slice Ao8 t229.length co8, .int .i64 t232]) ?_ 4 _ rfl; (with_reducible repeat (first | refine k0_ ?_ _ | refine k1_ ?_ | refine k2_ ?_ _)); exact BK233.out⟩, ⟨by repeat (first | (with_reducible first | exact HB.out | apply b0_ | apply b1_ | apply b2_ | refine below_set ?_ GE224.out | refine below_set ?_ GE225.out | refine below_set ?_ GE233.out) | exact HB.out)⟩⟩
     ·rw [if_neg c18] at H
      exact absurd H (by simp)
    ·rw [if_neg c16] at H
     exact absurd H (by simp)
   ·rw [if_neg c14] at H
    have c14b0 : decide (x4_1 < (l0_1.length : Int)) = false := decide_eq_false c14
    clear c14
    have H' := M_ H
    clear H
    have hnb33 := NB224_225.out
    have hnc33 := NB225_224.out
    have hnb34 := NB224_233.out
    have hnc34 := NB233_224.out
    obtain ⟨hcz35_0, hcz35_1, hcz35_2, hcz35_3, hcz35_4⟩ := cz5_ BK224.out
    obtain ⟨hfz35_0, hfz35_1, hfz35_2, hfz35_3, hfz35_4⟩ := fz5_ BK224.out
    go_wp2
    go_loopg [5] k1 (fun kq v5 w' => ∃ (x5_2 : Int) (x234003_2 : List (List Int)) (u234003 : Value), v5 = .int .i64 x5_2 ∧ Aside0 (spiritlevelref25_Same.l1 kq x5_2 a0_0 l0_1 l0_2 l0_3 l0_4 0 1 x234002_1 x234003_2 x234004_1 t229 t232 = some (r1, r2, r3, r4, r5, r6, r7)) ∧ Aside0 (kq ≤ k1) ∧ Aside0 (Kd.R (Kd.int .i64) 3 w' w.heap.size (fun k_ => some k_ ≠ (u234004 : Value).ownBlock) u234002 x234002_1) ∧ Aside0 (Kd.S (Kd.slice 3 (Kd.int .i64)) 24 w' w.heap.size (fun k_ => some k_ ≠ (u234002 : Value).ownBlock ∧ some k_ ≠ (u234004 : Value).ownBlock) u234003 x234003_2) ∧ Aside0 (Kd.R (Kd.int .i64) 3 w' w.heap.size (fun k_ => some k_ ≠ (u234002 : Value).ownBlock) u234004 x234004_1) ∧ Aside0 (Kd.R k55 55 w' w.heap.size (fun _ => True) (.slice Ao8 t229.length co8) t229) ∧ Aside0 (w'.heap[gb224]? = some (.cells #[.int .i64 a0_0, (.slice A0_1 l0_1.length c0_1), (.slice A0_2 l0_2.length c0_2), (.slice A0_3 l0_3.length c0_3), (.slice A0_4 l0_4.length c0_4)] 26 (0, 0))) ∧ Aside0 (w'.heap[gb225]? = some (.cells #[.int .i64 0, .int .i64 0, (.slice none 0 0), (.slice none 0 0), (.slice none 0 0), (.slice none 0 0), .int .i64 0] 37 (0, 0))) ∧ Aside0 (w'.heap[gb233]? = some (.cells #[.int .i64 0, .int .i64 1, u234002, u234003, u234004, (.slice Ao8 t229.length co8), .int .i64 t232] 37 (0, 0))) ∧ Aside0 (Below w.heap.size w w'))
    case atStart => exact ⟨(0), (y226), (.slice Ao9 y226.length co9), (by first | rfl | (simp; done) | (simp [*]; done)), H', ⟨Nat.le_refl _⟩, ⟨by (with_reducible repeat (first | apply a0_ | apply a1_ | apply a2_)); exact HO_234002.out⟩, ⟨by (with_reducible repeat (first | apply Kd.S_alloc | apply Kd.S_drewN | apply Kd.S_drew)); exact HO_234003.out⟩, ⟨by (with_reducible repeat (first | apply a0_ | apply a1_ | apply a2_)); exact HO_234004.out⟩, ⟨by (with_reducible repeat (first | apply a0_ | apply a1_ | apply a2_)); exact HO_234005.out⟩, ⟨by (with_reducible repeat (first | refine k0_ ?_ _ | refine k1_ ?_ | refine k2_ ?_ _)); exact BK224.out⟩, ⟨by (with_reducible repeat (first | refine k0_ ?_ _ | refine k1_ ?_ | refine k2_ ?_ _)); exact BK225.out⟩, ⟨by (with_reducible repeat (first | refine k0_ ?_ _ | refine k1_ ?_ | refine k2_ ?_ _)); exact BK233.out⟩, ⟨by repeat (first | (with_reducible first | exact HB.out | apply b0_ | apply b1_ | apply b2_ | refine below_set ?_ GE224.out | refine below_set ?_ GE225.out | refine below_set ?_ GE233.out) | exact HB.out)⟩⟩
    case round =>
     clear H'
     try clear c1; try clear c2; try clear p2; try clear c3; try clear c4; try clear p6; try clear c7; try clear c11; try clear c12; try clear c14; try clear c14b0; try clear c16; try clear c18; try clear c19; try clear c20; try clear c33; try clear c34; try clear hcz13_0 hcz13_1 hcz13_2 hcz13_3 hcz13_4 hcz13_5 hcz13_6; try clear hcz21_0 hcz21_1 hcz21_2 hcz21_3 hcz21_4; try clear hcz35_0 hcz35_1 hcz35_2 hcz35_3 hcz35_4; try clear hfz13_0 hfz13_1 hfz13_2 hfz13_3 hfz13_4 hfz13_5 hfz13_6; try clear hfz21_0 hfz21_1 hfz21_2 hfz21_3 hfz21_4; try clear hfz35_0 hfz35_1 hfz35_2 hfz35_3 hfz35_4; try clear p2
     obtain ⟨x5_2, x234003_2, u234003, rfl, HA, HK2, HO_234002, HO_234003, HO_234004, HO_234005, BK224, BK225, BK233, HB⟩ := hrel
     cases gk with
     | zero => exact absurd HA.out (by simp [spiritlevelref25_Same.l1])
     | succ k2 =>
      have H := HA.out
      clear HA
      simp only [spiritlevelref25_Same.l1] at H
      by_cases c36 : x5_2 < a0_0
      ·rw [if_pos c36] at H
       have c36b0 : decide (x5_2 < a0_0) = true := decide_eq_true c36
       clear c36
       by_cases c37 : 0 < (x234003_2.length : Int)
       ·rw [if_pos c37] at H
        have c37b0 : decide (0 < (x234003_2.length : Int)) = true := decide_eq_true c37
        have c37b1 : decide (0 < x234003_2.length) = true := decide_eq_true (by omega)
        clear c37
        by_cases c38 : (rd_L3 x234003_2 0).length < 17592186044416
        ·rw [if_pos c38] at H
         have LMc38 := M_ c38
         clear c38
         obtain ⟨y243, hy243⟩ : ∃ y_ : List Int, y_ = ((rd_L3 x234003_2 0) ++ [wrap64 (2 * (wrap64 (x5_2 + 1)))]) := ⟨_, rfl⟩
         replace H : (spiritlevelref25_Same.l1 k2 (wrap64 (x5_2 + 1)) a0_0 l0_1 l0_2 l0_3 l0_4 0 1 x234002_1 (x234003_2.set (0 : Int).toNat y243) x234004_1 t229 t232) = some (r1, r2, r3, r4, r5, r6, r7) := by first | (rw [hy243]; with_reducible exact H) | (have H2_ := (Option.bind_some _ _).symm.trans H; rw [hy243]; with_reducible exact H2_) | (have H2_ := (Option.bind_some _ _).symm.trans H; with_reducible exact H2_) | with_reducible exact H | (rw [hy243]; exact H) | exact H
         have Ny243 := M_ hy243
         clear hy243
         obtain ⟨y246, hy246⟩ : ∃ y_ : List (List Int), y_ = (x234003_2.set (0 : Int).toNat y243) := ⟨_, rfl⟩
         replace H : (spiritlevelref25_Same.l1 k2 (wrap64 (x5_2 + 1)) a0_0 l0_1 l0_2 l0_3 l0_4 0 1 x234002_1 y246 x234004_1 t229 t232) = some (r1, r2, r3, r4, r5, r6, r7) := by first | (rw [hy246]; with_reducible exact H) | (have H2_ := (Option.bind_some _ _).symm.trans H; rw [hy246]; with_reducible exact H2_) | (have H2_ := (Option.bind_some _ _).symm.trans H; with_reducible exact H2_) | with_reducible exact H | (rw [hy246]; exact H) | exact H
         have Ny246 := M_ hy246
         clear hy246
         have H' := M_ H
         clear H
         have hnb40 := NB224_225.out
         have hnc40 := NB225_224.out
         have hnb41 := NB224_233.out
         have hnc41 := NB233_224.out
         obtain ⟨hcz42_0, hcz42_1, hcz42_2, hcz42_3, hcz42_4⟩ := cz5_ BK224.out
         obtain ⟨hfz42_0, hfz42_1, hfz42_2, hfz42_3, hfz42_4⟩ := fz5_ BK224.out
         try go_wp2
         have n0_ := M_ (Kd.R_drew HO_234002.out)
         have n1_ := M_ (Kd.S_drew HO_234003.out)
         have n2_ := M_ (Kd.R_drew HO_234004.out)
         have n3_ := M_ (Kd.R_drew HO_234005.out)
         have n4_ := M_ (blk_drew BK224.out)
         have n5_ := M_ (blk_drew BK225.out)
         have n6_ := M_ (blk_drew BK233.out)
         have n7_ := M_ (below_drew1 HB.out)
         clear HO_234002
         clear HO_234003
         clear HO_234004
         clear HO_234005
         clear BK224
         clear BK225
         clear BK233
         clear HB
         have HO_234002 := n0_
         have HO_234003 := n1_
         have HO_234004 := n2_
         have HO_234005 := n3_
         have BK224 := n4_
         have BK225 := n5_
         have BK233 := n6_
         have HB := n7_
         clear n0_ n1_ n2_ n3_ n4_ n5_ n6_ n7_
         obtain ⟨Ao44, co44, eo44⟩ := Kd.S_slice HO_234003.out
         (first | subst eo44 | (injection eo44 with f1_ f2_ f3_; have f4_ := f1_.symm; have f5_ := f3_.symm; clear f1_ f2_ f3_; subst f4_; subst f5_))
         have p242 : 0 ≤ (0 : Int) := (by omega)
         have q242 : 0 < (x234003_2.length : Int) := of_decide_eq_true (by first | (with_reducible assumption) | assumption)
         obtain ⟨ad242, A242_0, c242_0, e242, hx242_0, hl242_0, hi242_0⟩ := at_L3 (Kd.S_reads' HO_234003.out).2.2 0 p242 q242
         cases e242
         obtain ⟨ce242, hce242, hMe242, hcc242⟩ := Kd.S_get HO_234003.out [] 0 p242 (by first | exact q242 | exact of_decide_eq_true (by first | (with_reducible assumption) | assumption) | (have e_ := (Kd.S_reads' HO_234003.out).1; omega))
         obtain ⟨ve242_0, rfl, ge242_0⟩ := hMe242
         have hv242_0 := hcc242 0 _ rfl
         rw [Nat.add_zero, show ((Kd.slice 3 (Kd.int .i64))).sz = 1 from rfl, Nat.mul_one] at hv242_0
         replace hv242_0 := Option.some.inj (hv242_0.symm.trans hx242_0)
         rw [hv242_0] at ge242_0
         have HL242_0 := M_ (show Kd.R (Kd.int .i64) 3 _ _ _ _ (rd_L3 x234003_2 0) from ge242_0)
         clear hv242_0 ge242_0
         have HX242_0 := M_ hx242_0
         clear hcc242 hce242
         have qi242 : (0 < x234003_2.length) = True := eq_true (by omega)
         (try rw [show ((0 : Int)).toNat = 0 from rfl] at hx242_0)
         (try rw [Addr.add_zero'] at hx242_0)
         have HR242_0 := M_ hi242_0
         have HC242_0 := M_ hl242_0
         clear hi242_0 hl242_0
         replace p242 := eq_true p242
         replace q242 := eq_true q242
         obtain ⟨go45, co45, eo45, gb45, gl45, cl45, HG45⟩ := Kd.S_form HO_234003.out (by have h_ : (0 : Int) < ((x234003_2.length : Int) : Int) := of_decide_eq_true (by first | (with_reducible assumption) | assumption); have h2_ : 0 ≤ (0 : Int) := (by omega); omega)
         (first | cases eo45 | (injection eo45 with ea_ en_ ec_; (first | subst ea_ | (injection ea_ with ea_; subst ea_)); subst ec_; clear en_))
         have GB45 := M_ gb45
         have GG45 := M_ HG45
         clear gb45 gl45 HG45
         (first | simp only [add_plain] at hx242_0 | skip)
         obtain ⟨oki45, ce45, hcl45, hM45, hcc45, _, _, hH45⟩ := Kd.S_elem HO_234003.out [] (0 : Int) (by omega) (by have h_ : (0 : Int) < ((x234003_2.length : Int) : Int) := of_decide_eq_true (by first | (with_reducible assumption) | assumption); first | exact h_ | (have e_ := (Kd.S_reads' HO_234003.out).1; omega) | simpa using h_)
         obtain ⟨ve45_0, rfl, ge45_0⟩ := hM45
         have hv45 := hcc45 0 _ rfl
         have hX45 := HX242_0.out
         (try simp only [add_plain] at hX45)
         (try simp only [Nat.add_zero] at hv45)
         (try rw [show ((Kd.slice 3 (Kd.int .i64))).sz = 1 from rfl, Nat.mul_one] at hv45)
         replace hv45 := Option.some.inj (hv45.symm.trans hX45)
         subst hv45
         clear hX45 hcc45 hcl45
         have UU45 := M_ (show Kd.R (Kd.int .i64) 3 _ w.heap.size oki45 (.slice A242_0 (rd_L3 x234003_2 0).length c242_0) (rd_L3 x234003_2 0) from ge45_0)
         have HH45 := M_ hH45
         have HN45 := M_ (Kd.S_reads' HO_234003.out).1
         clear hH45 ge45_0
         refine start_ (n := 13) (S := fun w' => w'.cell? ⟨gb233, 0, none⟩ = some (.int .i64 0) ∧ w'.cell? ⟨gb233, 1, none⟩ = some (.int .i64 1) ∧ w'.cell? ⟨gb233, 2, none⟩ = some (u234002) ∧ w'.cell? ⟨gb233, 3, none⟩ = some (.slice (some ⟨go45, 0, none⟩) x234003_2.length co44) ∧ w'.cell? ⟨gb233, 4, none⟩ = some (u234004) ∧ w'.cell? ⟨gb233, 5, none⟩ = some (.slice Ao8 t229.length co8) ∧ w'.cell? ⟨gb233, 6, none⟩ = some (.int .i64 t232) ∧ w'.cell? ⟨go45, 0, none⟩ = some (.slice A242_0 (rd_L3 x234003_2 0).length c242_0)) (ds := [12]) z23_ (by kernel_rfl) rfl rfl ⟨(blk_cell BK233.out 0).trans rfl, (blk_cell BK233.out 1).trans rfl, (blk_cell BK233.out 2).trans rfl, (blk_cell BK233.out 3).trans rfl, (blk_cell BK233.out 4).trans rfl, (blk_cell BK233.out 5).trans rfl, (blk_cell BK233.out 6).trans rfl, hx242_0⟩ (fun hHeld => ?_); refine with_tabW spiritlevelref25_Same.tab10 spiritlevelref25_Same.bits10 (fun HT_ HW_ => ?_)
         generalize wr.drew = w43 at HO_234002 HO_234003 HO_234004 HO_234005 BK224 BK225 BK233 HB GG45 HH45 HL242_0 HR242_0 HX242_0 UU45 hx242_0 hHeld ⊢
         refine pure_ (i := 0) (N := some 38) (v := ?_) (a' := ?_) z24_ rfl rfl (any_of HT_.out (by kernel_rfl)) (fun _ _ _ h => h) (Or.inl ⟨by rfl, ?_⟩) ?_ ?_
         rotate_left
         ·intro w'
          go_simp
          with_reducible rfl
         rotate_left
         ·simp only [Act.put, e1_, e2_, e3_, i64_w, i32_w]
          rfl
         refine pure_ (i := 2) (N := some 40) (v := ?_) (a' := ?_) z25_ rfl rfl (any_of HT_.out (by kernel_rfl)) (fun _ _ _ h => h) (Or.inl ⟨by rfl, ?_⟩) ?_ ?_
         rotate_left
         ·intro w'
          go_simp
          with_reducible rfl
         rotate_left
         ·simp only [Act.put, e1_, e2_, e3_, i64_w, i32_w]
          rfl
         refine pure_ (i := 6) (N := some 44) (v := ?_) (a' := ?_) z26_ rfl rfl (any_of HT_.out (by kernel_rfl)) (fun _ _ _ h => h) (Or.inl ⟨by rfl, ?_⟩) ?_ ?_
         rotate_left
         ·intro w'
          go_simp
          with_reducible rfl
         rotate_left
         ·simp only [Act.put, e1_, e2_, e3_, i64_w, i32_w]
          rfl
         refine pure_ (i := 7) (N := some 45) (v := ?_) (a' := ?_) z27_ rfl rfl (any_of HT_.out (by kernel_rfl)) (fun _ _ _ h => h) (Or.inl ⟨by rfl, ?_⟩) ?_ ?_
         rotate_left
         ·intro w'
          go_simp
          with_reducible rfl
         rotate_left
         ·simp only [Act.put, e1_, e2_, e3_, i64_w, i32_w]
          rfl
         refine pure_ (i := 8) (N := some 46) (v := ?_) (a' := ?_) z28_ rfl rfl (any_of HT_.out (by kernel_rfl)) (fun _ _ _ h => h) (Or.inl ⟨by rfl, ?_⟩) ?_ ?_
         rotate_left
         ·intro w'
          go_simp
          with_reducible rfl
         rotate_left
         ·simp only [Act.put, e1_, e2_, e3_, i64_w, i32_w]
          rfl
         refine take_ (i := 1) (N := some 39) (v := ?_) (a' := ?_) z29_ rfl rfl (take_ofW HT_.out HW_.out (by kernel_rfl)) (fun _ _ _ h => h) (Or.inl ⟨by rfl, ?_⟩) hHeld ?_ ?_
         rotate_left
         ·rintro w' ⟨s0, s1, s2, s3, s4, s5, s6, s7⟩
          go_simp
          with_reducible rfl
         rotate_left
         ·simp only [Act.put, e1_, e2_, e3_, i64_w, i32_w]
          rfl
         refine take_ (i := 3) (N := some 41) (v := ?_) (a' := ?_) z30_ rfl rfl (take_ofW HT_.out HW_.out (by kernel_rfl)) (fun _ _ _ h => h) (Or.inl ⟨by rfl, ?_⟩) hHeld ?_ ?_
         rotate_left
         ·rintro w' ⟨s0, s1, s2, s3, s4, s5, s6, s7⟩
          go_simp
          with_reducible rfl
         rotate_left
         ·simp only [Act.put, e1_, e2_, e3_, i64_w, i32_w]
          rfl
         refine pure_ (i := 4) (N := some 42) (v := ?_) (a' := ?_) z31_ rfl rfl (any_of HT_.out (by kernel_rfl)) (fun _ _ _ h => h) (Or.inl ⟨by rfl, ?_⟩) ?_ ?_
         rotate_left
         ·intro w'
          go_simp
          with_reducible rfl
         rotate_left
         ·simp only [Act.put, e1_, e2_, e3_, i64_w, i32_w]
          rfl
         refine take_ (i := 5) (N := some 43) (v := ?_) (a' := ?_) z32_ rfl rfl (take_ofW HT_.out HW_.out (by kernel_rfl)) (fun _ _ _ h => h) (Or.inl ⟨by rfl, ?_⟩) hHeld ?_ ?_
         rotate_left
         ·rintro w' ⟨s0, s1, s2, s3, s4, s5, s6, s7⟩
          go_simp
          with_reducible rfl
         rotate_left
         ·simp only [Act.put, e1_, e2_, e3_, i64_w, i32_w]
          rfl
         refine one_ (i := 9) (N := some 47) z33_ rfl rfl (one_of HT_.out (by kernel_rfl)) (by decide) (fun K hK => ?_)
         refine value_ (w1 := ?_) (v := ?_) (by rfl) rfl ?_ ?_
         rotate_left 2
         ·go_simp
          constructor
          ·rfl
          ·rfl
         refine hK.out _ _ ⟨(blk_cell (blk_alloc BK233.out _) 0).trans rfl, (blk_cell (blk_alloc BK233.out _) 1).trans rfl, (blk_cell (blk_alloc BK233.out _) 2).trans rfl, (blk_cell (blk_alloc BK233.out _) 3).trans rfl, (blk_cell (blk_alloc BK233.out _) 4).trans rfl, (blk_cell (blk_alloc BK233.out _) 5).trans rfl, (blk_cell (blk_alloc BK233.out _) 6).trans rfl, (World.cell?_alloc_lt _ _ _ (World.block_lt_of_cell? _ _ (hHeld.2.2.2.2.2.2.2))).trans (hHeld.2.2.2.2.2.2.2)⟩ (fun hHeld => ?_)
         clear hK K
         refine norm_ (a' := ?_) ?_ ?_
         rotate_left
         ·show Act.put _ (some 47) _ = _
          simp only [Act.put, e1_, e2_, e3_, i64_w, i32_w]
          rfl
         refine one_ (i := 10) (N := some 48) z34_ rfl rfl (one_of HT_.out (by kernel_rfl)) (by decide) (fun K hK => ?_)
         refine Kd.R_append_step (Kd.int .i64) (w0 := w) w.heap.size (by rfl) (.tmp 43) (.tmp 47) 24 3 (.int .i64 0) 8 rfl Try.underlying24 info3 rfl (by decide) (by omega) (.slice A242_0 (rd_L3 x234003_2 0).length c242_0) (rd_L3 x234003_2 0) (wrap64 (2 * (wrap64 (x5_2 + 1)))) [.int .i64 (wrap64 (2 * (wrap64 (x5_2 + 1))))] (fun k_ => oki45 k_ ∨ ((fun k_ => some k_ ≠ (u234002 : Value).ownBlock ∧ some k_ ≠ (u234004 : Value).ownBlock)) k_ ∧ w43.heap.size ≤ k_) (fun _ => False) rfl rfl ?aP (fun _ hk => hk.elim) ?aF ?aO ?aB ?aS ?aL ?_
         (case aP => exact rfl)
         (case aB => exact (ws_ HB.out))
         (case aF => exact (fun k_ hk => .inr ⟨⟨Kd.fresh' (Kd.R_lt (rl_ HO_234002.out)) k_ hk, Kd.fresh' (Kd.R_lt (rl_ HO_234004.out)) k_ hk⟩, hk⟩))
         (case aO => exact (rl_ (Kd.R_mono UU45.out (fun _ hk => .inl hk))))
         (case aS => exact (below_size (ws_ HB.out)))
         (case aL => have := LMc38.out; omega)
         intro v244 w46 ho hb hg hat
         (first | have HS7_ := cell_grown hg (hHeld.2.2.2.2.2.2.2) (by first | (rw [add_block]; exact (fun e_ => ((HL242_0.out.1 _ e_.symm).2) rfl)) | (show some (Addr.add _ _).block ≠ _; rw [add_block]; exact (fun e_ => ((HL242_0.out.1 _ e_.symm).2) rfl)) | exact (fun e_ => ((HL242_0.out.1 _ e_.symm).2) rfl)) | have HS7_ := cell_grown hg (cell_unalloc (hHeld.2.2.2.2.2.2.2) (by first | (rw [add_block]; exact Kd.S_lt HO_234003.out _ rfl) | (show (Addr.add _ _).block < _; rw [add_block]; exact Kd.S_lt HO_234003.out _ rfl) | exact Kd.S_lt HO_234003.out _ rfl)) (by first | (rw [add_block]; exact (fun e_ => ((HL242_0.out.1 _ e_.symm).2) rfl)) | (show some (Addr.add _ _).block ≠ _; rw [add_block]; exact (fun e_ => ((HL242_0.out.1 _ e_.symm).2) rfl)) | exact (fun e_ => ((HL242_0.out.1 _ e_.symm).2) rfl)))
         rw [← Ny243.out] at ho
         have n0_ := M_ (Kd.R_grown2 (rl_ HO_234002.out) rfl hg (fun k_ e_ => (HL242_0.out.1 k_ e_).1.1))
         have n1_ := M_ (Kd.R_grown2 (rl_ HO_234004.out) rfl hg (fun k_ e_ => (HL242_0.out.1 k_ e_).1.2))
         have n2_ := M_ (Kd.R_over' (v := (.slice A242_0 (rd_L3 x234003_2 0).length c242_0)) (rl_ HO_234005.out) (Kd.R_typed HL242_0.out) (by decide) hg)
         have n3_ := M_ (blk_grown (bl_ BK224.out) hg (Kd.R_ne HL242_0.out BK224.out (by decide)))
         have n4_ := M_ (blk_grown (bl_ BK225.out) hg (Kd.R_ne HL242_0.out BK225.out (by decide)))
         have n5_ := M_ (blk_grown (bl_ BK233.out) hg (Kd.R_ne HL242_0.out BK233.out (by decide)))
         have n6_ := M_ (hb)
         have n7_ := M_ (Kd.H_grown (Kd.H_widen (by repeat (first | exact HH45.out | refine Kd.H_alloc ?_ _ | refine Kd.H_drewN ?_ _ | refine Kd.H_drew ?_))) hg (fun k_ e_ => .inl (UU45.out.1 k_ e_)))
         have n8_ := M_ (ho)
         clear HO_234002
         clear HO_234004
         clear HO_234005
         clear BK224
         clear BK225
         clear BK233
         clear HB
         clear HH45
         clear HO_234003
         clear UU45
         clear HL242_0
         have HO_234002 := n0_
         have HO_234004 := n1_
         have HO_234005 := n2_
         have BK224 := n3_
         have BK225 := n4_
         have BK233 := n5_
         have HB := n6_
         have HH45 := n7_
         have HO245 := n8_
         clear n0_ n1_ n2_ n3_ n4_ n5_ n6_ n7_ n8_
         clear ho hb hg hat
         have p39 : 0 ≤ (0 : Int) := (by omega)
         have q39 : (0 : Int) < ((x234003_2.length : Int) : Int) := of_decide_eq_true (by first | (with_reducible assumption) | assumption)
         replace p39 := eq_true p39
         replace q39 := eq_true q39
         obtain ⟨Ao49, co49, eo49⟩ := Kd.R_slice HO245.out
         (first | subst eo49 | (injection eo49 with f1_ f2_ f3_; have f4_ := f1_.symm; have f5_ := f3_.symm; clear f1_ f2_ f3_; subst f4_; subst f5_))
         obtain ⟨_, _, hraw47, _, _, hcc47, _⟩ := Kd.H_raw HH45.out (by omega) (by have h_ : (0 : Int) < ((x234003_2.length : Int) : Int) := of_decide_eq_true (by first | (with_reducible assumption) | assumption); first | exact h_ | (have e_ := (HN45.out); omega) | simpa using h_)
         obtain ⟨_, hfr47⟩ := Kd.H_at HH45.out (by omega) (by have h_ : (0 : Int) < ((x234003_2.length : Int) : Int) := of_decide_eq_true (by first | (with_reducible assumption) | assumption); first | exact h_ | (have e_ := (HN45.out); omega) | simpa using h_)
         have hx47_0 := hcc47 0 _ rfl
         have hf47_0 := hfr47 0
         (try simp only [Nat.add_zero] at hx47_0 hf47_0)
         (try rw [show ((Kd.slice 3 (Kd.int .i64))).sz = 1 from rfl, Nat.mul_one] at hx47_0)
         (try rw [show ((Kd.slice 3 (Kd.int .i64))).sz = 1 from rfl, Nat.mul_one] at hf47_0)
         (try rw [show ((0 : Int)).toNat = 0 from rfl] at hx47_0)
         (try simp only [Nat.reduceMul, Nat.zero_mul, Nat.zero_add, Nat.reduceAdd] at hx47_0)
         (try rw [show ((0 : Int)).toNat = 0 from rfl] at hf47_0)
         (try simp only [Nat.reduceMul, Nat.zero_mul, Nat.zero_add, Nat.reduceAdd] at hf47_0)
         have HP47 := Kd.S_seg0 HH45.out (by omega) (by have h_ : (0 : Int) < ((x234003_2.length : Int) : Int) := of_decide_eq_true (by first | (with_reducible assumption) | assumption); first | exact h_ | (have e_ := (HN45.out); omega) | simpa using h_) (seg := [.slice Ao49 y243.length co49]) (j := 0) (show 1 ≤ 1 from by decide) (x' := y243) (Kd.M_row HO245.out) (fun _ hk => hk)
         (try simp only [show ((Kd.slice 3 (Kd.int .i64))).sz = 1 from rfl, Nat.mul_one, Nat.add_zero] at HP47)
         clear hcc47 hfr47
         have HNB224_go45 := M_ (show gb224 ≠ go45 from by have h_ := Kd.R_ne hraw47 BK224.out (by decide); intro e_; exact h_ (by rw [e_]; rfl))
         have HNB225_go45 := M_ (show gb225 ≠ go45 from by have h_ := Kd.R_ne hraw47 BK225.out (by decide); intro e_; exact h_ (by rw [e_]; rfl))
         have HNB233_go45 := M_ (show gb233 ≠ go45 from by have h_ := Kd.R_ne hraw47 BK233.out (by decide); intro e_; exact h_ (by rw [e_]; rfl))
         have HS47 := HP47.1
         rw [← Ny246.out] at HS47
         have HQ47 := M_ HS47
         obtain ⟨_, hgg47⟩ := Kd.R_typed hraw47 go45 rfl
         have GG47_ := M_ hgg47
         clear HP47 HS47 hgg47
         refine hK.out _ _ ⟨(blk_cell BK233.out 0).trans rfl, (blk_cell BK233.out 1).trans rfl, (blk_cell BK233.out 2).trans rfl, (blk_cell BK233.out 3).trans rfl, (blk_cell BK233.out 4).trans rfl, (blk_cell BK233.out 5).trans rfl, (blk_cell BK233.out 6).trans rfl, HS7_⟩ (fun hHeld => ?_)
         clear hK K
         refine norm_ (a' := ?_) ?_ ?_
         rotate_left
         ·show Act.put _ (some 48) _ = _
          simp only [Act.put, e1_, e2_, e3_, i64_w, i32_w]
          rfl
         refine pure_ (i := 11) (N := some 49) (v := ?_) (a' := ?_) z35_ rfl rfl (any_of HT_.out (by kernel_rfl)) (fun _ _ _ h => h) (Or.inl ⟨by rfl, ?_⟩) ?_ ?_
         rotate_left
         ·intro w'
          go_simp
          with_reducible rfl
         rotate_left
         ·simp only [Act.put, e1_, e2_, e3_, i64_w, i32_w]
          rfl
         refine last_ (i := 12) (N := none) z36_ rfl rfl (one_of HT_.out (by kernel_rfl)) (by decide) (fun K hK => ?_)
         refine skip_ (w1 := ?_) (by rfl) rfl ?_ ?_
         rotate_left
         ·go_simp
          rfl
         refine hK.out _ _ ?_
         clear hK K
         refine done_ (done_of HT_.out (by kernel_rfl)) ?_
         try go_wp2
         go_roundg k2
         case measure => have := HK1.out; have := HK2.out; omega
         case rel => exact ⟨(wrap64 (x5_2 + 1)), (y246), (.slice (some ⟨go45, 0, none⟩) x234003_2.length co44), (by first | rfl | (simp; done) | (simp [*]; done)), H', ⟨by have := HK1.out; have := HK2.out; omega⟩, ⟨by (with_reducible repeat (first | apply a0_ | apply a1_ | apply a2_)); exact Kd.R_mono (Kd.R_far (p := ⟨go45, 0, none⟩) (Kd.R_types HO_234002.out GG47_.out (by decide)) (fun _ hk => hk.2) (.slice Ao49 y243.length co49)) (fun _ hk => hk.1)⟩, ⟨by (with_reducible repeat (first | apply Kd.S_alloc | apply Kd.S_drewN | apply Kd.S_drew)); exact HQ47.out⟩, ⟨by (with_reducible repeat (first | apply a0_ | apply a1_ | apply a2_)); exact Kd.R_mono (Kd.R_far (p := ⟨go45, 0, none⟩) (Kd.R_types HO_234004.out GG47_.out (by decide)) (fun _ hk => hk.2) (.slice Ao49 y243.length co49)) (fun _ hk => hk.1)⟩, ⟨by (with_reducible repeat (first | apply a0_ | apply a1_ | apply a2_)); exact Kd.R_mono (Kd.R_far (p := ⟨go45, 0, none⟩) (Kd.R_types HO_234005.out GG47_.out (by decide)) (fun _ hk => hk.2) (.slice Ao49 y243.length co49)) (fun _ hk => trivial)⟩, ⟨by (with_reducible repeat (first | refine k0_ ?_ _ | refine k1_ ?_ | refine k2_ ?_ _)); refine blk_far ?_ HNB224_go45.out _; (with_reducible repeat (first | refine k0_ ?_ _ | refine k1_ ?_ | refine k2_ ?_ _)); exact BK224.out⟩, ⟨by (with_reducible repeat (first | refine k0_ ?_ _ | refine k1_ ?_ | refine k2_ ?_ _)); refine blk_far ?_ HNB225_go45.out _; (with_reducible repeat (first | refine k0_ ?_ _ | refine k1_ ?_ | refine k2_ ?_ _)); exact BK225.out⟩, ⟨by (with_reducible repeat (first | refine k0_ ?_ _ | refine k1_ ?_ | refine k2_ ?_ _)); refine blk_far ?_ HNB233_go45.out _; (with_reducible repeat (first | refine k0_ ?_ _ | refine k1_ ?_ | refine k2_ ?_ _)); exact BK233.out⟩, ⟨by repeat (first | (with_reducible first | exact HB.out | apply b0_ | apply b1_ | apply b2_ | refine below_set ?_ GB45.out | refine below_set ?_ GE224.out | refine below_set ?_ GE225.out | refine below_set ?_ GE233.out) | exact HB.out)⟩⟩
        ·rw [if_neg c38] at H
         exact absurd H (by simp)
       ·rw [if_neg c37] at H
        exact absurd H (by simp)
      ·rw [if_neg c36] at H
       have c36b0 : decide (x5_2 < a0_0) = false := decide_eq_false c36
       clear c36
       simp only [Option.some.injEq, Prod.mk.injEq] at H
       obtain ⟨rfl, rfl, rfl, rfl, rfl, rfl, rfl⟩ := H
       have hnb50 := NB224_225.out
       have hnc50 := NB225_224.out
       have hnb51 := NB224_233.out
       have hnc51 := NB233_224.out
       obtain ⟨hcz52_0, hcz52_1, hcz52_2, hcz52_3, hcz52_4⟩ := cz5_ BK224.out
       obtain ⟨hfz52_0, hfz52_1, hfz52_2, hfz52_3, hfz52_4⟩ := fz5_ BK224.out
       have hnb53 := NB233_225.out
       have hnc53 := NB225_233.out
       have hcz54_0 : wr.cell? ⟨gb233, 0, none⟩ = some (.int .i64 0) := (blk_cell BK233.out 0).trans rfl
       have hcz54_1 : wr.cell? ⟨gb233, 1, none⟩ = some (.int .i64 1) := (blk_cell BK233.out 1).trans rfl
       have hcz54_2 : wr.cell? ⟨gb233, 2, none⟩ = some (u234002) := (blk_cell BK233.out 2).trans rfl
       have hcz54_3 : wr.cell? ⟨gb233, 3, none⟩ = some (u234003) := (blk_cell BK233.out 3).trans rfl
       have hcz54_4 : wr.cell? ⟨gb233, 4, none⟩ = some (u234004) := (blk_cell BK233.out 4).trans rfl
       have hcz54_5 : wr.cell? ⟨gb233, 5, none⟩ = some (.slice Ao8 t229.length co8) := (blk_cell BK233.out 5).trans rfl
       have hcz54_6 : wr.cell? ⟨gb233, 6, none⟩ = some (.int .i64 t232) := (blk_cell BK233.out 6).trans rfl
       have hfz54_0 := blk_frozen BK233.out 0
       have hfz54_1 := blk_frozen BK233.out 1
       have hfz54_2 := blk_frozen BK233.out 2
       have hfz54_3 := blk_frozen BK233.out 3
       have hfz54_4 := blk_frozen BK233.out 4
       have hfz54_5 := blk_frozen BK233.out 5
       have hfz54_6 := blk_frozen BK233.out 6
       have hcz55_0 : wr.cell? ⟨gb225, 0, none⟩ = some (.int .i64 0) := (blk_cell BK225.out 0).trans rfl
       have hcz55_1 : wr.cell? ⟨gb225, 1, none⟩ = some (.int .i64 0) := (blk_cell BK225.out 1).trans rfl
       have hcz55_2 : wr.cell? ⟨gb225, 2, none⟩ = some (.slice none 0 0) := (blk_cell BK225.out 2).trans rfl
       have hcz55_3 : wr.cell? ⟨gb225, 3, none⟩ = some (.slice none 0 0) := (blk_cell BK225.out 3).trans rfl
       have hcz55_4 : wr.cell? ⟨gb225, 4, none⟩ = some (.slice none 0 0) := (blk_cell BK225.out 4).trans rfl
       have hcz55_5 : wr.cell? ⟨gb225, 5, none⟩ = some (.slice none 0 0) := (blk_cell BK225.out 5).trans rfl
       have hcz55_6 : wr.cell? ⟨gb225, 6, none⟩ = some (.int .i64 0) := (blk_cell BK225.out 6).trans rfl
       have hfz55_0 := blk_frozen BK225.out 0
       have hfz55_1 := blk_frozen BK225.out 1
       have hfz55_2 := blk_frozen BK225.out 2
       have hfz55_3 := blk_frozen BK225.out 3
       have hfz55_4 := blk_frozen BK225.out 4
       have hfz55_5 := blk_frozen BK225.out 5
       have hfz55_6 := blk_frozen BK225.out 6
       obtain ⟨Ao56, co56, eo56⟩ := Kd.R_slice HO_234002.out
       subst eo56
       obtain ⟨Ao57, co57, eo57⟩ := Kd.S_slice HO_234003.out
       subst eo57
       obtain ⟨Ao58, co58, eo58⟩ := Kd.R_slice HO_234004.out
       subst eo58
       go_wp2
       refine bodyPost_ret (results_cell_row rfl _ _ gb225 37 #[.int .i64 0, .int .i64 1, .slice Ao56 x234002_1.length co56, .slice Ao57 x234003_2.length co57, .slice Ao58 x234004_1.length co58, .slice Ao8 t229.length co8, .int .i64 t232] (0, 0) _ rfl (by (with_reducible repeat (first | refine k0_ ?_ _ | refine k1_ ?_ | refine k2_ ?_ _)); refine blk_put (cs := #[.int .i64 0, .int .i64 1, .slice Ao56 x234002_1.length co56, .slice Ao57 x234003_2.length co57, .slice Ao58 x234004_1.length co58, .slice Ao8 t229.length co8, .int .i64 0]) ?_ 6 _ rfl; refine blk_put (cs := #[.int .i64 0, .int .i64 1, .slice Ao56 x234002_1.length co56, .slice Ao57 x234003_2.length co57, .slice Ao58 x234004_1.length co58, .slice none 0 0, .int .i64 0]) ?_ 5 _ rfl; refine blk_put (cs := #[.int .i64 0, .int .i64 1, .slice Ao56 x234002_1.length co56, .slice Ao57 x234003_2.length co57, .slice none 0 0, .slice none 0 0, .int .i64 0]) ?_ 4 _ rfl; refine blk_put (cs := #[.int .i64 0, .int .i64 1, .slice Ao56 x234002_1.length co56, .slice none 0 0, .slice none 0 0, .slice none 0 0, .int .i64 0]) ?_ 3 _ rfl; refine blk_put (cs := #[.int .i64 0, .int .i64 1, .slice none 0 0, .slice none 0 0, .slice none 0 0, .slice none 0 0, .int .i64 0]) ?_ 2 _ rfl; refine blk_put (cs := #[.int .i64 0, .int .i64 0, .slice none 0 0, .slice none 0 0, .slice none 0 0, .slice none 0 0, .int .i64 0]) ?_ 1 _ rfl; refine blk_put (cs := #[.int .i64 0, .int .i64 0, .slice none 0 0, .slice none 0 0, .slice none 0 0, .slice none 0 0, .int .i64 0]) ?_ 0 _ rfl; (with_reducible repeat (first | refine k0_ ?_ _ | refine k1_ ?_ | refine k2_ ?_ _)); exact BK225.out) Try.underlying37 rfl (by kernel_rfl)) rfl ?_
       exact ⟨_, _, _, _, by first | rfl | (simp [errW_none, errW_some] <;> rfl) | (simp [*, errW_none, errW_some] <;> rfl), by (with_reducible repeat (first | apply a0_ | apply a1_ | apply a2_)); exact Kd.R_mono (Kd.R_far (p := ⟨gb225, 6, none⟩) (Kd.R_far (p := ⟨gb225, 5, none⟩) (Kd.R_far (p := ⟨gb225, 4, none⟩) (Kd.R_far (p := ⟨gb225, 3, none⟩) (Kd.R_far (p := ⟨gb225, 2, none⟩) (Kd.R_far (p := ⟨gb225, 1, none⟩) (Kd.R_far (p := ⟨gb225, 0, none⟩) (Kd.R_types HO_234002.out BK225.out (by decide)) (fun _ hk => hk.2) (.int .i64 0)) (fun _ hk => hk.2) (.int .i64 1)) (fun _ hk => hk.2) (.slice Ao56 x234002_1.length co56)) (fun _ hk => hk.2) (.slice Ao57 x234003_2.length co57)) (fun _ hk => hk.2) (.slice Ao58 x234004_1.length co58)) (fun _ hk => hk.2) (.slice Ao8 t229.length co8)) (fun _ hk => hk.2) (.int .i64 t232)) (fun _ hk => hk.1), by (with_reducible repeat (first | apply Kd.S_alloc | apply Kd.S_drewN | apply Kd.S_drew)); exact Kd.S_mono (Kd.S_far (p := ⟨gb225, 6, none⟩) (Kd.S_far (p := ⟨gb225, 5, none⟩) (Kd.S_far (p := ⟨gb225, 4, none⟩) (Kd.S_far (p := ⟨gb225, 3, none⟩) (Kd.S_far (p := ⟨gb225, 2, none⟩) (Kd.S_far (p := ⟨gb225, 1, none⟩) (Kd.S_far (p := ⟨gb225, 0, none⟩) (Kd.S_types HO_234003.out BK225.out (by decide)) (fun _ hk => hk.2) (.int .i64 0)) (fun _ hk => hk.2) (.int .i64 1)) (fun _ hk => hk.2) (.slice Ao56 x234002_1.length co56)) (fun _ hk => hk.2) (.slice Ao57 x234003_2.length co57)) (fun _ hk => hk.2) (.slice Ao58 x234004_1.length co58)) (fun _ hk => hk.2) (.slice Ao8 t229.length co8)) (fun _ hk => hk.2) (.int .i64 t232)) (fun _ hk => ⟨hk.1.1, hk.1.2⟩), by (with_reducible repeat (first | apply a0_ | apply a1_ | apply a2_)); exact Kd.R_mono (Kd.R_far (p := ⟨gb225, 6, none⟩) (Kd.R_far (p := ⟨gb225, 5, none⟩) (Kd.R_far (p := ⟨gb225, 4, none⟩) (Kd.R_far (p := ⟨gb225, 3, none⟩) (Kd.R_far (p := ⟨gb225, 2, none⟩) (Kd.R_far (p := ⟨gb225, 1, none⟩) (Kd.R_far (p := ⟨gb225, 0, none⟩) (Kd.R_types HO_234004.out BK225.out (by decide)) (fun _ hk => hk.2) (.int .i64 0)) (fun _ hk => hk.2) (.int .i64 1)) (fun _ hk => hk.2) (.slice Ao56 x234002_1.length co56)) (fun _ hk => hk.2) (.slice Ao57 x234003_2.length co57)) (fun _ hk => hk.2) (.slice Ao58 x234004_1.length co58)) (fun _ hk => hk.2) (.slice Ao8 t229.length co8)) (fun _ hk => hk.2) (.int .i64 t232)) (fun _ hk => hk.1), by (with_reducible repeat (first | apply a0_ | apply a1_ | apply a2_)); exact Kd.R_mono (Kd.R_far (p := ⟨gb225, 6, none⟩) (Kd.R_far (p := ⟨gb225, 5, none⟩) (Kd.R_far (p := ⟨gb225, 4, none⟩) (Kd.R_far (p := ⟨gb225, 3, none⟩) (Kd.R_far (p := ⟨gb225, 2, none⟩) (Kd.R_far (p := ⟨gb225, 1, none⟩) (Kd.R_far (p := ⟨gb225, 0, none⟩) (Kd.R_types HO_234005.out BK225.out (by decide)) (fun _ hk => hk.2) (.int .i64 0)) (fun _ hk => hk.2) (.int .i64 1)) (fun _ hk => hk.2) (.slice Ao56 x234002_1.length co56)) (fun _ hk => hk.2) (.slice Ao57 x234003_2.length co57)) (fun _ hk => hk.2) (.slice Ao58 x234004_1.length co58)) (fun _ hk => hk.2) (.slice Ao8 t229.length co8)) (fun _ hk => hk.2) (.int .i64 t232)) (fun _ hk => trivial), by repeat (first | (with_reducible first | exact HB.out | apply b0_ | apply b1_ | apply b2_ | refine below_set ?_ GE224.out | refine below_set ?_ GE225.out | refine below_set ?_ GE233.out) | exact HB.out)⟩

end Go.Proofs.Ytlgoniocoifjjaa.QConstantsPasses
