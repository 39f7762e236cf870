import Derived.Test.YtlgoniocoifjjaaLay
import Derived.Test.YtlgoniocoifjjaaQConstantsPassesx0
namespace Go.Proofs.Ytlgoniocoifjjaa.QConstantsPasses
open Go.RowKit Go.Proofs.YtlgoniocoifjjaaW.PrintWords Go.Proofs.YtlgoniocoifjjaaW.PrintLast Go.Proofs.YtlgoniocoifjjaaW.PrintMore
attribute [local go_sem] max2_int min2_int max_two min_two max_three min_three max_four min_four
set_option linter.unusedVariables false
set_option linter.unusedSimpArgs false

def spiritlevelref02_Twin.f (a0_0 : Int) (l0_1 : List (S45)) (l0_2 : List (S55)) (l0_3 : List Int) (l0_4 : List Int) : Option (Int × (List (S45)) × (List (S55)) × List Int × List Int) := (some (([] : List (S45)) : List (S45))).bind fun y153 => (if y153.length + l0_1.length < 8796093022208 then ((some (([] : List (S55)) : List (S55))).bind fun y159 => (if y159.length + l0_2.length < 8796093022208 then ((some (([] : List Int) : List Int)).bind fun y165 => (if y165.length + l0_3.length < 17592186044416 then ((some (([] : List Int) : List Int)).bind fun y171 => (if y171.length + l0_4.length < 17592186044416 then (some (a0_0, (y153 ++ l0_1), (y159 ++ l0_2), (y165 ++ l0_3), (y171 ++ l0_4))) else (none))) else (none))) else (none))) else (none))
set_option maxHeartbeats 8000000 in
set_option maxRecDepth 100000 in
theorem spiritlevelref02_Twin.calls (a0_0 : Int) (A0_1 : Option Addr) (c0_1 : Nat) (l0_1 : List (S45)) (A0_2 : Option Addr) (c0_2 : Nat) (l0_2 : List (S55)) (A0_3 : Option Addr) (c0_3 : Nat) (l0_3 : List Int) (A0_4 : Option Addr) (c0_4 : Nat) (l0_4 : List Int) (r1 : Int) (r2 : List (S45)) (r3 : List (S55)) (r4 : List Int) (r5 : List Int) (w : World) (hr0_1 : Kd.C k45 w A0_1 l0_1.length l0_1) (hc0_1 : l0_1.length ≤ c0_1) (hr0_2 : Kd.C k55 w A0_2 l0_2.length l0_2) (hc0_2 : l0_2.length ≤ c0_2) (hr0_3 : Kd.C (Kd.int .i64) w A0_3 l0_3.length l0_3) (hc0_3 : l0_3.length ≤ c0_3) (hr0_4 : Kd.C (Kd.int .i64) w A0_4 l0_4.length l0_4) (hc0_4 : l0_4.length ≤ c0_4) (h : spiritlevelref02_Twin.f a0_0 l0_1 l0_2 l0_3 l0_4 = some (r1, r2, r3, r4, r5)) :
  Calls Try.prog 16 #[.agg #[.int .i64 a0_0, .slice A0_1 l0_1.length c0_1, .slice A0_2 l0_2.length c0_2, .slice A0_3 l0_3.length c0_3, .slice A0_4 l0_4.length c0_4]] w fun e w' => ∃ v1_ v2_ v3_ v4_ : Value, e = .returned (.agg #[.int .i64 r1, v1_, v2_, v3_, v4_]) ∧ Kd.R k45 45 w' w.heap.size (fun _ => True) v1_ r2 ∧ Kd.R k55 55 w' w.heap.size (fun _ => True) v2_ r3 ∧ Kd.R (Kd.int .i64) 3 w' w.heap.size (fun k_ => some k_ ≠ (v4_ : Value).ownBlock) v3_ r4 ∧ Kd.R (Kd.int .i64) 3 w' w.heap.size (fun k_ => some k_ ≠ (v3_ : Value).ownBlock) v4_ r5 ∧ Below w.heap.size w w' := by
 have hu26 := Try.underlying26
 have HR0_1 := M_ hr0_1
 have HC0_1 := M_ hc0_1
 clear hr0_1 hc0_1
 have HR0_2 := M_ hr0_2
 have HC0_2 := M_ hc0_2
 clear hr0_2 hc0_2
 have HR0_3 := M_ hr0_3
 have HC0_3 := M_ hc0_3
 clear hr0_3 hc0_3
 have HR0_4 := M_ hr0_4
 have HC0_4 := M_ hc0_4
 clear hr0_4 hc0_4
 have HB := M_ (Below.refl w.heap.size w)
 have H : ((some (([] : List (S45)) : List (S45))).bind fun y153 => (if y153.length + l0_1.length < 8796093022208 then ((some (([] : List (S55)) : List (S55))).bind fun y159 => (if y159.length + l0_2.length < 8796093022208 then ((some (([] : List Int) : List Int)).bind fun y165 => (if y165.length + l0_3.length < 17592186044416 then ((some (([] : List Int) : List Int)).bind fun y171 => (if y171.length + l0_4.length < 17592186044416 then (some (a0_0, (y153 ++ l0_1), (y159 ++ l0_2), (y165 ++ l0_3), (y171 ++ l0_4))) else (none))) else (none))) else (none))) else (none))) = some (r1, r2, r3, r4, r5) := h
 clear h
 obtain ⟨y153, hy153⟩ : ∃ y_ : List (S45), y_ = (([] : List (S45))) := ⟨_, rfl⟩
 replace H : (if y153.length + l0_1.length < 8796093022208 then ((some (([] : List (S55)) : List (S55))).bind fun y159 => (if y159.length + l0_2.length < 8796093022208 then ((some (([] : List Int) : List Int)).bind fun y165 => (if y165.length + l0_3.length < 17592186044416 then ((some (([] : List Int) : List Int)).bind fun y171 => (if y171.length + l0_4.length < 17592186044416 then (some (a0_0, (y153 ++ l0_1), (y159 ++ l0_2), (y165 ++ l0_3), (y171 ++ l0_4))) else (none))) else (none))) else (none))) else (none)) = some (r1, r2, r3, r4, r5) := by first | (rw [hy153]; with_reducible exact H) | (have H2_ := (Option.bind_some _ _).symm.trans H; rw [hy153]; with_reducible exact H2_) | (have H2_ := (Option.bind_some _ _).symm.trans H; with_reducible exact H2_) | with_reducible exact H | (rw [hy153]; exact H) | exact H
 have Ny153 := M_ hy153
 clear hy153
 by_cases c2 : y153.length + l0_1.length < 8796093022208
 ·rw [if_pos c2] at H
  have LMc2 := M_ c2
  clear c2
  obtain ⟨y156, hy156⟩ : ∃ y_ : List (S45), y_ = (y153 ++ l0_1) := ⟨_, rfl⟩
  replace H : ((some (([] : List (S55)) : List (S55))).bind fun y159 => (if y159.length + l0_2.length < 8796093022208 then ((some (([] : List Int) : List Int)).bind fun y165 => (if y165.length + l0_3.length < 17592186044416 then ((some (([] : List Int) : List Int)).bind fun y171 => (if y171.length + l0_4.length < 17592186044416 then (some (a0_0, y156, (y159 ++ l0_2), (y165 ++ l0_3), (y171 ++ l0_4))) else (none))) else (none))) else (none))) = some (r1, r2, r3, r4, r5) := by first | (rw [hy156]; with_reducible exact H) | (have H2_ := (Option.bind_some _ _).symm.trans H; rw [hy156]; with_reducible exact H2_) | (have H2_ := (Option.bind_some _ _).symm.trans H; with_reducible exact H2_) | with_reducible exact H | (rw [hy156]; exact H) | exact H
  have Ny156 := M_ hy156
  clear hy156
  obtain ⟨y159, hy159⟩ : ∃ y_ : List (S55), y_ = (([] : List (S55))) := ⟨_, rfl⟩
  replace H : (if y159.length + l0_2.length < 8796093022208 then ((some (([] : List Int) : List Int)).bind fun y165 => (if y165.length + l0_3.length < 17592186044416 then ((some (([] : List Int) : List Int)).bind fun y171 => (if y171.length + l0_4.length < 17592186044416 then (some (a0_0, y156, (y159 ++ l0_2), (y165 ++ l0_3), (y171 ++ l0_4))) else (none))) else (none))) else (none)) = some (r1, r2, r3, r4, r5) := by first | (rw [hy159]; with_reducible exact H) | (have H2_ := (Option.bind_some _ _).symm.trans H; rw [hy159]; with_reducible exact H2_) | (have H2_ := (Option.bind_some _ _).symm.trans H; with_reducible exact H2_) | with_reducible exact H | (rw [hy159]; exact H) | exact H
  have Ny159 := M_ hy159
  clear hy159
  by_cases c3 : y159.length + l0_2.length < 8796093022208
  ·rw [if_pos c3] at H
   have LMc3 := M_ c3
   clear c3
   obtain ⟨y162, hy162⟩ : ∃ y_ : List (S55), y_ = (y159 ++ l0_2) := ⟨_, rfl⟩
   replace H : ((some (([] : List Int) : List Int)).bind fun y165 => (if y165.length + l0_3.length < 17592186044416 then ((some (([] : List Int) : List Int)).bind fun y171 => (if y171.length + l0_4.length < 17592186044416 then (some (a0_0, y156, y162, (y165 ++ l0_3), (y171 ++ l0_4))) else (none))) else (none))) = some (r1, r2, r3, r4, r5) := by first | (rw [hy162]; with_reducible exact H) | (have H2_ := (Option.bind_some _ _).symm.trans H; rw [hy162]; with_reducible exact H2_) | (have H2_ := (Option.bind_some _ _).symm.trans H; with_reducible exact H2_) | with_reducible exact H | (rw [hy162]; exact H) | exact H
   have Ny162 := M_ hy162
   clear hy162
   obtain ⟨y165, hy165⟩ : ∃ y_ : List Int, y_ = (([] : List Int)) := ⟨_, rfl⟩
   replace H : (if y165.length + l0_3.length < 17592186044416 then ((some (([] : List Int) : List Int)).bind fun y171 => (if y171.length + l0_4.length < 17592186044416 then (some (a0_0, y156, y162, (y165 ++ l0_3), (y171 ++ l0_4))) else (none))) else (none)) = some (r1, r2, r3, r4, r5) := by first | (rw [hy165]; with_reducible exact H) | (have H2_ := (Option.bind_some _ _).symm.trans H; rw [hy165]; with_reducible exact H2_) | (have H2_ := (Option.bind_some _ _).symm.trans H; with_reducible exact H2_) | with_reducible exact H | (rw [hy165]; exact H) | exact H
   have Ny165 := M_ hy165
   clear hy165
   by_cases c4 : y165.length + l0_3.length < 17592186044416
   ·rw [if_pos c4] at H
    have LMc4 := M_ c4
    clear c4
    obtain ⟨y168, hy168⟩ : ∃ y_ : List Int, y_ = (y165 ++ l0_3) := ⟨_, rfl⟩
    replace H : ((some (([] : List Int) : List Int)).bind fun y171 => (if y171.length + l0_4.length < 17592186044416 then (some (a0_0, y156, y162, y168, (y171 ++ l0_4))) else (none))) = some (r1, r2, r3, r4, r5) := by first | (rw [hy168]; with_reducible exact H) | (have H2_ := (Option.bind_some _ _).symm.trans H; rw [hy168]; with_reducible exact H2_) | (have H2_ := (Option.bind_some _ _).symm.trans H; with_reducible exact H2_) | with_reducible exact H | (rw [hy168]; exact H) | exact H
    have Ny168 := M_ hy168
    clear hy168
    obtain ⟨y171, hy171⟩ : ∃ y_ : List Int, y_ = (([] : List Int)) := ⟨_, rfl⟩
    replace H : (if y171.length + l0_4.length < 17592186044416 then (some (a0_0, y156, y162, y168, (y171 ++ l0_4))) else (none)) = some (r1, r2, r3, r4, r5) := by first | (rw [hy171]; with_reducible exact H) | (have H2_ := (Option.bind_some _ _).symm.trans H; rw [hy171]; with_reducible exact H2_) | (have H2_ := (Option.bind_some _ _).symm.trans H; with_reducible exact H2_) | with_reducible exact H | (rw [hy171]; exact H) | exact H
    have Ny171 := M_ hy171
    clear hy171
    by_cases c5 : y171.length + l0_4.length < 17592186044416
    ·rw [if_pos c5] at H
     have LMc5 := M_ c5
     clear c5
     obtain ⟨y174, hy174⟩ : ∃ y_ : List Int, y_ = (y171 ++ l0_4) := ⟨_, rfl⟩
     replace H : (some (a0_0, y156, y162, y168, y174)) = some (r1, r2, r3, r4, r5) := by first | (rw [hy174]; with_reducible exact H) | (have H2_ := (Option.bind_some _ _).symm.trans H; rw [hy174]; with_reducible exact H2_) | (have H2_ := (Option.bind_some _ _).symm.trans H; with_reducible exact H2_) | with_reducible exact H | (rw [hy174]; exact H) | exact H
     have Ny174 := M_ hy174
     clear hy174
     simp only [Option.some.injEq, Prod.mk.injEq] at H
     obtain ⟨rfl, rfl, rfl, rfl, rfl⟩ := H
     go_enter Try.func16, Try.ntmps16
     go_wp2_with (first | ((with_reducible refine gate_dst (N := 1) rfl ?_); refine box_event ?hg (N := 1) ?hd (cs := #[.int .i64 a0_0, .slice A0_1 l0_1.length c0_1, .slice A0_2 l0_2.length c0_2, .slice A0_3 l0_3.length c0_3, .slice A0_4 l0_4.length c0_4]) (t := 26) ?hr ?_; (case hd => rfl); (case hg => rfl); (case hr => first | (go_simp; done) | (go_simp; rfl)); intro gb151 hg w6 hbox hb; have n1_ := M_ (hbox); have n2_ := M_ ((by rw [hg]; exact (below_size (wl_ HB.out)) : w.heap.size ≤ gb151)); have n3_ := M_ ((by rw [hg]; exact (below_size (wl_ HB.out)) : w.heap.size ≤ gb151)); replace HB := wb_ HB hb; have BK151 := n1_; have GW151 := n2_; have GE151 := n3_; have gi151 : Ge _ _ := ⟨GE151.out⟩; clear n1_ n2_ n3_; clear hb hbox hg) | ((with_reducible refine gate_dst (N := 2) rfl ?_); refine box_event ?hg (N := 2) ?hd (cs := #[.int .i64 0, .slice none 0 0, .slice none 0 0, .slice none 0 0, .slice none 0 0]) (t := 26) ?hr ?_; (case hd => rfl); (case hg => rfl); (case hr => first | (go_simp; done) | (go_simp; rfl)); intro gb152 hg w7 hbox hb; have n2_ := M_ (hbox); have n3_ := M_ ((by rw [hg]; exact (below_size (ws_ HB.out)) : w.heap.size ≤ gb152)); have n4_ := M_ ((by rw [hg]; exact (below_size (ws_ HB.out)) : w.heap.size ≤ gb152)); have n5_ := M_ ((by rw [hg]; exact Nat.ne_of_lt (blk_lt (bl_ BK151.out)) : gb151 ≠ gb152)); have n6_ := M_ ((by rw [hg]; exact Nat.ne_of_gt (blk_lt (bl_ BK151.out)) : gb152 ≠ gb151)); replace BK151 := bb_ BK151 hb; replace HB := wb_ HB hb; have BK152 := n2_; have GW152 := n3_; have GE152 := n4_; have gi152 : Ge _ _ := ⟨GE152.out⟩; have NB151_152 := n5_; have NB152_151 := n6_; clear n2_ n3_ n4_ n5_ n6_; clear hb hbox hg) | ((with_reducible refine gate_dst (N := 3) rfl ?_); refine Kd.R_lit k45 _ 45 ?hg (N := 3) ?hd (xs := ([] : List (S45))) (inner := []) (ok := fun _ => True) (okp := fun _ => True) ?hr ?hp (fun _ hk => hk) trivial (Below.refl _ _) (Nat.le_refl _) (by simp) ?_; (case hd => rfl); (case hg => rfl); (case hr => first | (go_simp; done) | (go_simp; rfl)); (case hp => exact (Reps.none _ _)); intro v154 w8 ho9 hb hg_ hnew_; clear hg_ hnew_; (first | rw [← Ny153.out] at ho9 | (simp only [Int.reduceToNat] at ho9; rw [← Ny153.out] at ho9)); have n0_ := M_ (Kd.R_lower ho9 (below_size (ws_ HB.out))); have HO155 := n0_; replace BK151 := bb_ BK151 hb; replace BK152 := bb_ BK152 hb; replace HB := wb_ HB hb; clear n0_; clear hb ho9; have hnb10 := NB151_152.out; have hnc10 := NB152_151.out; obtain ⟨hcz11_0, hcz11_1, hcz11_2, hcz11_3, hcz11_4⟩ := cz5_ BK151.out; have hfz11_0 := blk_frozen BK151.out 0; have hfz11_1 := blk_frozen BK151.out 1; have hfz11_2 := blk_frozen BK151.out 2; have hfz11_3 := blk_frozen BK151.out 3; have hfz11_4 := blk_frozen BK151.out 4) | ((with_reducible refine gate_builtin (b := .append) (xs := #[.tmp 3, .tmp 5]) rfl ?_); at_builtin; refine Kd.R_append_rows k45 (w0 := w) w.heap.size rfl (.tmp 3) (.tmp 5) 22 45 (.agg #[(.int .i64 0), (.int .i64 0)]) 16 rfl Try.underlying22 info45 rfl (by decide) (by omega) v154 y153 l0_1 _ _ _ (fun _ => True) (fun _ => False) rfl rfl ?aO ?aR (fun _ _ h => h) (fun _ h => h.elim) ?aF ?aB ?aS ?aL ?_; (case aR => exact cl_ (Kd.C_below HR0_1.out HB.out)); (case aB => exact (ws_ HB.out)); (case aF => exact (fun _ _ => trivial)); (case aO => exact (rl_ HO155.out)); (case aS => exact (below_size (ws_ HB.out))); (case aL => have := LMc2.out; omega); intro v157 w12 ho hb hg hat; rw [← Ny156.out] at ho; have n0_ := M_ (blk_grown (bl_ BK151.out) hg (Kd.R_ne HO155.out BK151.out (by decide))); have n1_ := M_ (blk_grown (bl_ BK152.out) hg (Kd.R_ne HO155.out BK152.out (by decide))); have n2_ := M_ (hb); have n3_ := M_ (ho); clear BK151; clear BK152; clear HB; clear HO155; have BK151 := n0_; have BK152 := n1_; have HB := n2_; have HO158 := n3_; clear n0_ n1_ n2_ n3_; clear ho hb hg hat; obtain ⟨Ao13, co13, eo13⟩ := Kd.R_slice HO158.out; subst eo13; obtain ⟨hcz14_0, hcz14_1, hcz14_2, hcz14_3, hcz14_4⟩ := cz5_ BK151.out; have hfz14_0 := blk_frozen BK151.out 0; have hfz14_1 := blk_frozen BK151.out 1; have hfz14_2 := blk_frozen BK151.out 2; have hfz14_3 := blk_frozen BK151.out 3; have hfz14_4 := blk_frozen BK151.out 4) | ((with_reducible refine gate_dst (N := 8) rfl ?_); refine Kd.R_lit k55 _ 55 ?hg (N := 8) ?hd (xs := ([] : List (S55))) (inner := []) (ok := fun _ => True) (okp := fun _ => True) ?hr ?hp (fun _ hk => hk) trivial (Below.refl _ _) (Nat.le_refl _) (by simp) ?_; (case hd => rfl); (case hg => rfl); (case hr => first | (go_simp; done) | (go_simp; rfl)); (case hp => exact (Reps.none _ _)); intro v160 w15 ho16 hb hg_ hnew_; clear hg_ hnew_; (first | rw [← Ny159.out] at ho16 | (simp only [Int.reduceToNat] at ho16; rw [← Ny159.out] at ho16)); have n0_ := M_ (Kd.R_below (rl_ (Kd.R_mono (Kd.R_far (p := ⟨gb151, 1, none⟩) (Kd.R_types HO158.out BK151.out (by decide)) (fun _ hk => hk.2) (.slice Ao13 y156.length co13)) (fun _ h_ => h_.1))) hb); have n1_ := M_ (Kd.R_lower ho16 (below_size (ws_ HB.out))); have n2_ := M_ (blk_below (g := gb151) (o := .cells #[.int .i64 a0_0, .slice Ao13 y156.length co13, .slice A0_2 l0_2.length c0_2, .slice A0_3 l0_3.length c0_3, .slice A0_4 l0_4.length c0_4] 26 (0, 0)) (by (with_reducible repeat (first | refine k0_ ?_ _ | refine k1_ ?_ | refine k2_ ?_ _)); refine blk_put (cs := #[.int .i64 a0_0, .slice A0_1 l0_1.length c0_1, .slice A0_2 l0_2.length c0_2, .slice A0_3 l0_3.length c0_3, .slice A0_4 l0_4.length c0_4]) ?_ 1 _ rfl; (with_reducible repeat (first | refine k0_ ?_ _ | refine k1_ ?_ | refine k2_ ?_ _)); exact BK151.out) hb); have n3_ := M_ (blk_below (g := gb152) (o := .cells #[.int .i64 0, .slice none 0 0, .slice none 0 0, .slice none 0 0, .slice none 0 0] 26 (0, 0)) (by (with_reducible repeat (first | refine k0_ ?_ _ | refine k1_ ?_ | refine k2_ ?_ _)); refine blk_far ?_ NB152_151.out _; (with_reducible repeat (first | refine k0_ ?_ _ | refine k1_ ?_ | refine k2_ ?_ _)); exact BK152.out) hb); clear HO158; clear BK151; clear BK152; have HO158 := n0_; have HO161 := n1_; have BK151 := n2_; have BK152 := n3_; replace HB := wb_ HB hb; clear n0_ n1_ n2_ n3_; clear hb ho16; obtain ⟨hcz17_0, hcz17_1, hcz17_2, hcz17_3, hcz17_4⟩ := cz5_ BK151.out; have hfz17_0 := blk_frozen BK151.out 0; have hfz17_1 := blk_frozen BK151.out 1; have hfz17_2 := blk_frozen BK151.out 2; have hfz17_3 := blk_frozen BK151.out 3; have hfz17_4 := blk_frozen BK151.out 4) | ((with_reducible refine gate_builtin (b := .append) (xs := #[.tmp 8, .tmp 10]) rfl ?_); at_builtin; refine Kd.R_append_rows k55 (w0 := w) w.heap.size rfl (.tmp 8) (.tmp 10) 23 55 (.agg #[(.int .i64 0), (.int .i64 0)]) 16 rfl Try.underlying23 info55 rfl (by decide) (by omega) v160 y159 l0_2 _ _ _ (fun _ => True) (fun _ => False) rfl rfl ?aO ?aR (fun _ _ h => h) (fun _ h => h.elim) ?aF ?aB ?aS ?aL ?_; (case aR => exact cl_ (Kd.C_below HR0_2.out HB.out)); (case aB => exact (ws_ HB.out)); (case aF => exact (fun _ _ => trivial)); (case aO => exact (rl_ HO161.out)); (case aS => exact (below_size (ws_ HB.out))); (case aL => have := LMc3.out; omega); intro v163 w18 ho hb hg hat; rw [← Ny162.out] at ho; have n0_ := M_ (blk_grown (bl_ BK151.out) hg (Kd.R_ne HO161.out BK151.out (by decide))); have n1_ := M_ (blk_grown (bl_ BK152.out) hg (Kd.R_ne HO161.out BK152.out (by decide))); have n2_ := M_ (Kd.R_over' (rl_ HO158.out) (Kd.R_typed (rl_ HO161.out)) (by decide) hg); have n3_ := M_ (hb); have n4_ := M_ (ho); clear BK151; clear BK152; clear HO158; clear HB; clear HO161; have BK151 := n0_; have BK152 := n1_; have HO158 := n2_; have HB := n3_; have HO164 := n4_; clear n0_ n1_ n2_ n3_ n4_; clear ho hb hg hat; obtain ⟨Ao19, co19, eo19⟩ := Kd.R_slice HO164.out; subst eo19; obtain ⟨hcz20_0, hcz20_1, hcz20_2, hcz20_3, hcz20_4⟩ := cz5_ BK151.out; have hfz20_0 := blk_frozen BK151.out 0; have hfz20_1 := blk_frozen BK151.out 1; have hfz20_2 := blk_frozen BK151.out 2; have hfz20_3 := blk_frozen BK151.out 3; have hfz20_4 := blk_frozen BK151.out 4) | ((with_reducible refine gate_dst (N := 13) rfl ?_); refine Kd.R_lit (Kd.int .i64) _ 3 ?hg (N := 13) ?hd (xs := ([] : List Int)) (inner := []) (ok := fun _ => True) (okp := fun _ => True) ?hr ?hp (fun _ hk => hk) trivial (Below.refl _ _) (Nat.le_refl _) (by simp) ?_; (case hd => rfl); (case hg => rfl); (case hr => first | (go_simp; done) | (go_simp; rfl)); (case hp => exact (Reps.none _ _)); intro v166 w21 ho22 hb hg_ hnew_; clear hg_ hnew_; (first | rw [← Ny165.out] at ho22 | (simp only [Int.reduceToNat] at ho22; rw [← Ny165.out] at ho22)); have n0_ := M_ (Kd.R_below (rl_ (Kd.R_mono (Kd.R_far (p := ⟨gb151, 2, none⟩) (Kd.R_types HO158.out BK151.out (by decide)) (fun _ hk => hk.2) (.slice Ao19 y162.length co19)) (fun _ h_ => h_.1))) hb); have n1_ := M_ (Kd.R_below (rl_ (Kd.R_mono (Kd.R_far (p := ⟨gb151, 2, none⟩) (Kd.R_types HO164.out BK151.out (by decide)) (fun _ hk => hk.2) (.slice Ao19 y162.length co19)) (fun _ h_ => h_.1))) hb); have n2_ := M_ (Kd.R_lower ho22 (below_size (ws_ HB.out))); have n3_ := M_ (blk_below (g := gb151) (o := .cells #[.int .i64 a0_0, .slice Ao13 y156.length co13, .slice Ao19 y162.length co19, .slice A0_3 l0_3.length c0_3, .slice A0_4 l0_4.length c0_4] 26 (0, 0)) (by (with_reducible repeat (first | refine k0_ ?_ _ | refine k1_ ?_ | refine k2_ ?_ _)); refine blk_put (cs := #[.int .i64 a0_0, .slice Ao13 y156.length co13, .slice A0_2 l0_2.length c0_2, .slice A0_3 l0_3.length c0_3, .slice A0_4 l0_4.length c0_4]) ?_ 2 _ rfl; (with_reducible repeat (first | refine k0_ ?_ _ | refine k1_ ?_ | refine k2_ ?_ _)); exact BK151.out) hb); have n4_ := M_ (blk_below (g := gb152) (o := .cells #[.int .i64 0, .slice none 0 0, .slice none 0 0, .slice none 0 0, .slice none 0 0] 26 (0, 0)) (by (with_reducible repeat (first | refine k0_ ?_ _ | refine k1_ ?_ | refine k2_ ?_ _)); refine blk_far ?_ NB152_151.out _; (with_reducible repeat (first | refine k0_ ?_ _ | refine k1_ ?_ | refine k2_ ?_ _)); exact BK152.out) hb); clear HO158; clear HO164; clear BK151; clear BK152; have HO158 := n0_; have HO164 := n1_; have HO167 := n2_; have BK151 := n3_; have BK152 := n4_; replace HB := wb_ HB hb; clear n0_ n1_ n2_ n3_ n4_; clear hb ho22; obtain ⟨hcz23_0, hcz23_1, hcz23_2, hcz23_3, hcz23_4⟩ := cz5_ BK151.out; have hfz23_0 := blk_frozen BK151.out 0; have hfz23_1 := blk_frozen BK151.out 1; have hfz23_2 := blk_frozen BK151.out 2; have hfz23_3 := blk_frozen BK151.out 3; have hfz23_4 := blk_frozen BK151.out 4) | ((with_reducible refine gate_builtin (b := .append) (xs := #[.tmp 13, .tmp 15]) rfl ?_); at_builtin; refine Kd.R_append_rows (Kd.int .i64) (w0 := w) w.heap.size rfl (.tmp 13) (.tmp 15) 24 3 (.int .i64 0) 8 rfl Try.underlying24 info3 rfl (by decide) (by omega) v166 y165 l0_3 _ _ _ (fun _ => True) (fun _ => False) rfl rfl ?aO ?aR (fun _ _ h => h) (fun _ h => h.elim) ?aF ?aB ?aS ?aL ?_; (case aR => exact cl_ (Kd.C_below HR0_3.out HB.out)); (case aB => exact (ws_ HB.out)); (case aF => exact (fun _ _ => trivial)); (case aO => exact (rl_ HO167.out)); (case aS => exact (below_size (ws_ HB.out))); (case aL => have := LMc4.out; omega); intro v169 w24 ho hb hg hat; rw [← Ny168.out] at ho; have n0_ := M_ (blk_grown (bl_ BK151.out) hg (Kd.R_ne HO167.out BK151.out (by decide))); have n1_ := M_ (blk_grown (bl_ BK152.out) hg (Kd.R_ne HO167.out BK152.out (by decide))); have n2_ := M_ (Kd.R_over' (rl_ HO158.out) (Kd.R_typed (rl_ HO167.out)) (by decide) hg); have n3_ := M_ (Kd.R_over' (rl_ HO164.out) (Kd.R_typed (rl_ HO167.out)) (by decide) hg); have n4_ := M_ (hb); have n5_ := M_ (ho); clear BK151; clear BK152; clear HO158; clear HO164; clear HB; clear HO167; have BK151 := n0_; have BK152 := n1_; have HO158 := n2_; have HO164 := n3_; have HB := n4_; have HO170 := n5_; clear n0_ n1_ n2_ n3_ n4_ n5_; clear ho hb hg hat; obtain ⟨Ao25, co25, eo25⟩ := Kd.R_slice HO170.out; subst eo25; obtain ⟨hcz26_0, hcz26_1, hcz26_2, hcz26_3, hcz26_4⟩ := cz5_ BK151.out; have hfz26_0 := blk_frozen BK151.out 0; have hfz26_1 := blk_frozen BK151.out 1; have hfz26_2 := blk_frozen BK151.out 2; have hfz26_3 := blk_frozen BK151.out 3; have hfz26_4 := blk_frozen BK151.out 4) | ((with_reducible refine gate_dst (N := 18) rfl ?_); have q1_ := M_ (Kd.R_far (p := ⟨gb151, 3, none⟩) (Kd.R_types HO170.out BK151.out (by decide)) (fun _ hk => hk.2) (.slice Ao25 y168.length co25)); refine Kd.R_lit (Kd.int .i64) _ 3 ?hg (N := 18) ?hd (xs := ([] : List Int)) (inner := []) (ok := fun _ => True) (okp := fun _ => True) ?hr ?hp (fun _ hk => hk) trivial (Below.refl _ _) (Nat.le_refl _) (by simp) ?_; (case hd => rfl); (case hg => rfl); (case hr => first | (go_simp; done) | (go_simp; rfl)); (case hp => exact (Reps.none _ _)); intro v172 w27 ho28 hb hg_ hnew_; clear hg_ hnew_; (first | rw [← Ny171.out] at ho28 | (simp only [Int.reduceToNat] at ho28; rw [← Ny171.out] at ho28)); have n0_ := M_ (Kd.R_below (rl_ (Kd.R_mono (Kd.R_far (p := ⟨gb151, 3, none⟩) (Kd.R_types HO158.out BK151.out (by decide)) (fun _ hk => hk.2) (.slice Ao25 y168.length co25)) (fun _ h_ => h_.1))) hb); have n1_ := M_ (Kd.R_below (rl_ (Kd.R_mono (Kd.R_far (p := ⟨gb151, 3, none⟩) (Kd.R_types HO164.out BK151.out (by decide)) (fun _ hk => hk.2) (.slice Ao25 y168.length co25)) (fun _ h_ => h_.1))) hb); have n2_ := M_ (Kd.R_elder' (rl_ (Kd.R_mono q1_.out (fun _ h_ => h_.1))) (Kd.R_base ho28) hb); have n3_ := M_ (Kd.R_lower (Kd.R_new' ho28 (Kd.R_lt (rl_ (Kd.R_mono q1_.out (fun _ h_ => h_.1))))) (below_size (ws_ HB.out))); have n4_ := M_ (blk_below (g := gb151) (o := .cells #[.int .i64 a0_0, .slice Ao13 y156.length co13, .slice Ao19 y162.length co19, .slice Ao25 y168.length co25, .slice A0_4 l0_4.length c0_4] 26 (0, 0)) (by (with_reducible repeat (first | refine k0_ ?_ _ | refine k1_ ?_ | refine k2_ ?_ _)); refine blk_put (cs := #[.int .i64 a0_0, .slice Ao13 y156.length co13, .slice Ao19 y162.length co19, .slice A0_3 l0_3.length c0_3, .slice A0_4 l0_4.length c0_4]) ?_ 3 _ rfl; (with_reducible repeat (first | refine k0_ ?_ _ | refine k1_ ?_ | refine k2_ ?_ _)); exact BK151.out) hb); have n5_ := M_ (blk_below (g := gb152) (o := .cells #[.int .i64 0, .slice none 0 0, .slice none 0 0, .slice none 0 0, .slice none 0 0] 26 (0, 0)) (by (with_reducible repeat (first | refine k0_ ?_ _ | refine k1_ ?_ | refine k2_ ?_ _)); refine blk_far ?_ NB152_151.out _; (with_reducible repeat (first | refine k0_ ?_ _ | refine k1_ ?_ | refine k2_ ?_ _)); exact BK152.out) hb); clear HO158; clear HO164; clear HO170; clear BK151; clear BK152; have HO158 := n0_; have HO164 := n1_; have HO170 := n2_; have HO173 := n3_; have BK151 := n4_; have BK152 := n5_; replace HB := wb_ HB hb; clear n0_ n1_ n2_ n3_ n4_ n5_; clear hb ho28; obtain ⟨hcz29_0, hcz29_1, hcz29_2, hcz29_3, hcz29_4⟩ := cz5_ BK151.out; have hfz29_0 := blk_frozen BK151.out 0; have hfz29_1 := blk_frozen BK151.out 1; have hfz29_2 := blk_frozen BK151.out 2; have hfz29_3 := blk_frozen BK151.out 3; have hfz29_4 := blk_frozen BK151.out 4) | ((with_reducible refine gate_builtin (b := .append) (xs := #[.tmp 18, .tmp 20]) rfl ?_); at_builtin; refine Kd.R_append_rows (Kd.int .i64) (w0 := w) w.heap.size rfl (.tmp 18) (.tmp 20) 24 3 (.int .i64 0) 8 rfl Try.underlying24 info3 rfl (by decide) (by omega) v172 y171 l0_4 _ _ _ (fun k_ => some k_ ≠ (.slice Ao25 y168.length co25 : Value).ownBlock) (fun _ => False) rfl rfl ?aO ?aR (fun _ _ h => h) (fun _ h => h.elim) ?aF ?aB ?aS ?aL ?_; (case aR => exact cl_ (Kd.C_below HR0_4.out HB.out)); (case aB => exact (ws_ HB.out)); (case aF => exact (fun k_ hk => Kd.fresh' (Kd.R_lt (rl_ HO170.out)) k_ hk)); (case aO => exact (rl_ (Kd.R_mono HO173.out (fun _ hk => hk.2)))); (case aS => exact (below_size (ws_ HB.out))); (case aL => have := LMc5.out; omega); intro v175 w30 ho hb hg hat; rw [← Ny174.out] at ho; have n0_ := M_ (blk_grown (bl_ BK151.out) hg (Kd.R_ne HO173.out BK151.out (by decide))); have n1_ := M_ (blk_grown (bl_ BK152.out) hg (Kd.R_ne HO173.out BK152.out (by decide))); have n2_ := M_ (Kd.R_over' (rl_ HO158.out) (Kd.R_typed (rl_ HO173.out)) (by decide) hg); have n3_ := M_ (Kd.R_over' (rl_ HO164.out) (Kd.R_typed (rl_ HO173.out)) (by decide) hg); have n4_ := M_ (Kd.R_after (ok := (fun _ => True)) (rl_ HO170.out) hg hat); have n5_ := M_ (hb); have n6_ := M_ (ho); clear BK151; clear BK152; clear HO158; clear HO164; clear HO170; clear HB; clear HO173; have BK151 := n0_; have BK152 := n1_; have HO158 := n2_; have HO164 := n3_; have HO170 := n4_; have HB := n5_; have HO176 := n6_; clear n0_ n1_ n2_ n3_ n4_ n5_ n6_; clear ho hb hg hat; obtain ⟨Ao31, co31, eo31⟩ := Kd.R_slice HO176.out; subst eo31; obtain ⟨hcz32_0, hcz32_1, hcz32_2, hcz32_3, hcz32_4⟩ := cz5_ BK151.out; obtain ⟨hfz32_0, hfz32_1, hfz32_2, hfz32_3, hfz32_4⟩ := fz5_ BK151.out; obtain ⟨hcz33_0, hcz33_1, hcz33_2, hcz33_3, hcz33_4⟩ := cz5_ BK152.out; have hfz33_0 := blk_frozen BK152.out 0; have hfz33_1 := blk_frozen BK152.out 1; have hfz33_2 := blk_frozen BK152.out 2; have hfz33_3 := blk_frozen BK152.out 3; have hfz33_4 := blk_frozen BK152.out 4))
     refine bodyPost_ret (results_cell_row rfl _ _ gb152 26 #[.int .i64 a0_0, .slice Ao13 y156.length co13, .slice Ao19 y162.length co19, .slice Ao25 y168.length co25, .slice Ao31 y174.length co31] (0, 0) _ rfl (by (with_reducible repeat (first | refine k0_ ?_ _ | refine k1_ ?_ | refine k2_ ?_ _)); refine blk_put (cs := #[.int .i64 a0_0, .slice Ao13 y156.length co13, .slice Ao19 y162.length co19, .slice Ao25 y168.length co25, .slice none 0 0]) ?_ 4 _ rfl; refine blk_put (cs := #[.int .i64 a0_0, .slice Ao13 y156.length co13, .slice Ao19 y162.length co19, .slice none 0 0, .slice none 0 0]) ?_ 3 _ rfl; refine blk_put (cs := #[.int .i64 a0_0, .slice Ao13 y156.length co13, .slice none 0 0, .slice none 0 0, .slice none 0 0]) ?_ 2 _ rfl; refine blk_put (cs := #[.int .i64 a0_0, .slice none 0 0, .slice none 0 0, .slice none 0 0, .slice none 0 0]) ?_ 1 _ rfl; refine blk_put (cs := #[.int .i64 0, .slice none 0 0, .slice none 0 0, .slice none 0 0, .slice none 0 0]) ?_ 0 _ rfl; (with_reducible repeat (first | refine k0_ ?_ _ | refine k1_ ?_ | refine k2_ ?_ _)); refine blk_far ?_ NB152_151.out _; (with_reducible repeat (first | refine k0_ ?_ _ | refine k1_ ?_ | refine k2_ ?_ _)); exact BK152.out) Try.underlying26 rfl (by kernel_rfl)) rfl ?_
     exact ⟨_, _, _, _, by first | rfl | (simp [errW_none, errW_some] <;> rfl) | (simp [*, errW_none, errW_some] <;> rfl), by (with_reducible repeat (first | apply a0_ | apply a1_ | apply a2_)); exact Kd.R_mono (Kd.R_far (p := ⟨gb152, 4, none⟩) (Kd.R_far (p := ⟨gb152, 3, none⟩) (Kd.R_far (p := ⟨gb152, 2, none⟩) (Kd.R_far (p := ⟨gb152, 1, none⟩) (Kd.R_far (p := ⟨gb152, 0, none⟩) (Kd.R_far (p := ⟨gb151, 4, none⟩) (Kd.R_types (Kd.R_types HO158.out BK151.out (by decide)) BK152.out (by decide)) (fun _ hk => hk.1.2) (.slice Ao31 y174.length co31)) (fun _ hk => hk.2) (.int .i64 a0_0)) (fun _ hk => hk.2) (.slice Ao13 y156.length co13)) (fun _ hk => hk.2) (.slice Ao19 y162.length co19)) (fun _ hk => hk.2) (.slice Ao25 y168.length co25)) (fun _ hk => hk.2) (.slice Ao31 y174.length co31)) (fun _ hk => trivial), by (with_reducible repeat (first | apply a0_ | apply a1_ | apply a2_)); exact Kd.R_mono (Kd.R_far (p := ⟨gb152, 4, none⟩) (Kd.R_far (p := ⟨gb152, 3, none⟩) (Kd.R_far (p := ⟨gb152, 2, none⟩) (Kd.R_far (p := ⟨gb152, 1, none⟩) (Kd.R_far (p := ⟨gb152, 0, none⟩) (Kd.R_far (p := ⟨gb151, 4, none⟩) (Kd.R_types (Kd.R_types HO164.out BK151.out (by decide)) BK152.out (by decide)) (fun _ hk => hk.1.2) (.slice Ao31 y174.length co31)) (fun _ hk => hk.2) (.int .i64 a0_0)) (fun _ hk => hk.2) (.slice Ao13 y156.length co13)) (fun _ hk => hk.2) (.slice Ao19 y162.length co19)) (fun _ hk => hk.2) (.slice Ao25 y168.length co25)) (fun _ hk => hk.2) (.slice Ao31 y174.length co31)) (fun _ hk => trivial), by (with_reducible repeat (first | apply a0_ | apply a1_ | apply a2_)); exact Kd.R_mono (Kd.R_far (p := ⟨gb152, 4, none⟩) (Kd.R_far (p := ⟨gb152, 3, none⟩) (Kd.R_far (p := ⟨gb152, 2, none⟩) (Kd.R_far (p := ⟨gb152, 1, none⟩) (Kd.R_far (p := ⟨gb152, 0, none⟩) (Kd.R_far (p := ⟨gb151, 4, none⟩) (Kd.R_types (Kd.R_types HO170.out BK151.out (by decide)) BK152.out (by decide)) (fun _ hk => hk.1.2) (.slice Ao31 y174.length co31)) (fun _ hk => hk.2) (.int .i64 a0_0)) (fun _ hk => hk.2) (.slice Ao13 y156.length co13)) (fun _ hk => hk.2) (.slice Ao19 y162.length co19)) (fun _ hk => hk.2) (.slice Ao25 y168.length co25)) (fun _ hk => hk.2) (.slice Ao31 y174.length co31)) (fun _ hk => hk.1.1.2), by (with_reducible repeat (first | apply a0_ | apply a1_ | apply a2_)); exact Kd.R_mono (Kd.R_far (p := ⟨gb152, 4, none⟩) (Kd.R_far (p := ⟨gb152, 3, none⟩) (Kd.R_far (p := ⟨gb152, 2, none⟩) (Kd.R_far (p := ⟨gb152, 1, none⟩) (Kd.R_far (p := ⟨gb152, 0, none⟩) (Kd.R_far (p := ⟨gb151, 4, none⟩) (Kd.R_types (Kd.R_types HO176.out BK151.out (by decide)) BK152.out (by decide)) (fun _ hk => hk.1.2) (.slice Ao31 y174.length co31)) (fun _ hk => hk.2) (.int .i64 a0_0)) (fun _ hk => hk.2) (.slice Ao13 y156.length co13)) (fun _ hk => hk.2) (.slice Ao19 y162.length co19)) (fun _ hk => hk.2) (.slice Ao25 y168.length co25)) (fun _ hk => hk.2) (.slice Ao31 y174.length co31)) (fun _ hk => hk.1.1), by repeat (first | (with_reducible first | exact HB.out | apply b0_ | apply b1_ | apply b2_ | refine below_set ?_ GE151.out | refine below_set ?_ GE152.out) | exact HB.out)⟩
    ·rw [if_neg c5] at H
     exact absurd H (by simp)
   ·rw [if_neg c4] at H
    exact absurd H (by simp)
  ·rw [if_neg c3] at H
   exact absurd H (by simp)
 ·rw [if_neg c2] at H
  exact absurd H (by simp)

def spiritlevelref02_Size.f (a0_0 : Int) (l0_1 : List (S45)) (l0_2 : List (S55)) (l0_3 : List Int) (l0_4 : List Int) : Option (Int) := some (wrap64 ((wrap64 (a0_0 + (l0_1.length : Int))) + (l0_2.length : Int)))
set_option maxHeartbeats 8000000 in
set_option maxRecDepth 100000 in
theorem spiritlevelref02_Size.calls (a0_0 : Int) (A0_1 : Option Addr) (c0_1 : Nat) (l0_1 : List (S45)) (A0_2 : Option Addr) (c0_2 : Nat) (l0_2 : List (S55)) (A0_3 : Option Addr) (c0_3 : Nat) (l0_3 : List Int) (A0_4 : Option Addr) (c0_4 : Nat) (l0_4 : List Int) (r : Int) (w : World) (hr0_1 : Kd.C k45 w A0_1 l0_1.length l0_1) (hc0_1 : l0_1.length ≤ c0_1) (hr0_2 : Kd.C k55 w A0_2 l0_2.length l0_2) (hc0_2 : l0_2.length ≤ c0_2) (hr0_3 : Kd.C (Kd.int .i64) w A0_3 l0_3.length l0_3) (hc0_3 : l0_3.length ≤ c0_3) (hr0_4 : Kd.C (Kd.int .i64) w A0_4 l0_4.length l0_4) (hc0_4 : l0_4.length ≤ c0_4) (h : spiritlevelref02_Size.f a0_0 l0_1 l0_2 l0_3 l0_4 = some r) :
  Calls Try.prog 33 #[.agg #[.int .i64 a0_0, .slice A0_1 l0_1.length c0_1, .slice A0_2 l0_2.length c0_2, .slice A0_3 l0_3.length c0_3, .slice A0_4 l0_4.length c0_4]] w fun e w' => e = .returned (.int .i64 r) ∧ Below w.heap.size w w' := by
 have hu26 := Try.underlying26
 have HR0_1 := M_ hr0_1
 have HC0_1 := M_ hc0_1
 clear hr0_1 hc0_1
 have HR0_2 := M_ hr0_2
 have HC0_2 := M_ hc0_2
 clear hr0_2 hc0_2
 have HR0_3 := M_ hr0_3
 have HC0_3 := M_ hc0_3
 clear hr0_3 hc0_3
 have HR0_4 := M_ hr0_4
 have HC0_4 := M_ hc0_4
 clear hr0_4 hc0_4
 have HB := M_ (Below.refl w.heap.size w)
 have H : (some (wrap64 ((wrap64 (a0_0 + (l0_1.length : Int))) + (l0_2.length : Int)))) = some r := h
 clear h
 obtain rfl := Option.some.inj H
 go_enter Try.func33, Try.ntmps33
 go_wp2_with (first | ((with_reducible refine gate_dst (N := 1) rfl ?_); refine box_event ?hg (N := 1) ?hd (cs := #[.int .i64 a0_0, .slice A0_1 l0_1.length c0_1, .slice A0_2 l0_2.length c0_2, .slice A0_3 l0_3.length c0_3, .slice A0_4 l0_4.length c0_4]) (t := 26) ?hr ?_; (case hd => rfl); (case hg => rfl); (case hr => first | (go_simp; done) | (go_simp; rfl)); intro gb177 hg w2 hbox hb; have n1_ := M_ (hbox); have n2_ := M_ ((by rw [hg]; exact (below_size (wl_ HB.out)) : w.heap.size ≤ gb177)); have n3_ := M_ ((by rw [hg]; exact (below_size (wl_ HB.out)) : w.heap.size ≤ gb177)); replace HB := wb_ HB hb; have BK177 := n1_; have GW177 := n2_; have GE177 := n3_; have gi177 : Ge _ _ := ⟨GE177.out⟩; clear n1_ n2_ n3_; clear hb hbox hg; obtain ⟨hcz3_0, hcz3_1, hcz3_2, hcz3_3, hcz3_4⟩ := cz5_ BK177.out; have hfz3_0 := blk_frozen BK177.out 0; have hfz3_1 := blk_frozen BK177.out 1; have hfz3_2 := blk_frozen BK177.out 2; have hfz3_3 := blk_frozen BK177.out 3; have hfz3_4 := blk_frozen BK177.out 4))
 go_ret
 exact ⟨by first | rfl | (simp [errW_none, errW_some] <;> rfl) | (simp [*, errW_none, errW_some] <;> rfl), by repeat (first | (with_reducible first | exact HB.out | apply b0_ | apply b1_ | apply b2_ | refine below_set ?_ GE177.out) | exact HB.out)⟩

def spiritlevelref02_literals.l0 : Nat → List Int → Int → Int → Option (Bool)
 | 0, _, _, _ => none
 | k + 1, x0, x1, x5 => if x5 < (x0.length : Int) then (if 0 ≤ x5 then (if (rd x0 x5) < 0 then (some false) else (if (wrap64 (Int.tdiv (rd x0 x5) 2)) > x1 then (some false) else (spiritlevelref02_literals.l0 k x0 x1 (wrap64 (x5 + 1))))) else (none)) else (some true)
def spiritlevelref02_literals.f (k : Nat) (l0 : List Int) (a1 : Int) : Option (Bool) := spiritlevelref02_literals.l0 k l0 a1 0
set_option maxHeartbeats 8000000 in
set_option maxRecDepth 100000 in
theorem spiritlevelref02_literals.calls (k : Nat) (A0 : Option Addr) (c0 : Nat) (l0 : List Int) (a1 : Int) (r : Bool) (w : World) (hr0 : Kd.C (Kd.int .i64) w A0 l0.length l0) (hc0 : l0.length ≤ c0) (h : spiritlevelref02_literals.f k l0 a1 = some r) :
  Calls Try.prog 34 #[.slice A0 l0.length c0, .int .i64 a1] w fun e w' => e = .returned (.bool r) ∧ Drawn0 w w' := by
 have HR0 := M_ hr0
 have HC0 := M_ hc0
 clear hr0 hc0
 have H : (spiritlevelref02_literals.l0 k l0 a1 0) = some r := h
 clear h
 have H' := M_ H
 clear H
 go_enter Try.func34, Try.ntmps34
 go_wp2
 go_loopg [5] k (fun kq v5 w' => ∃ (x5_1 : Int), v5 = .int .i64 x5_1 ∧ Aside0 (spiritlevelref02_literals.l0 kq l0 a1 x5_1 = some r) ∧ Aside0 (kq ≤ k) ∧ Drawn0 w w')
 case atStart => exact ⟨(0), (by first | rfl | (simp; done) | (simp [*]; done)), H', ⟨Nat.le_refl _⟩, by repeat (first | exact Drawn0.refl _ | apply Drawn0.step)⟩
 case round =>
  clear H'
  try clear p2
  obtain ⟨x5_1, rfl, HA, HK1, ⟨m1, rfl⟩⟩ := hrel
  cases gk with
  | zero => exact absurd HA.out (by simp [spiritlevelref02_literals.l0])
  | succ k1 =>
   have H := HA.out
   clear HA
   simp only [spiritlevelref02_literals.l0] at H
   by_cases c3 : x5_1 < (l0.length : Int)
   ·rw [if_pos c3] at H
    have c3b0 : decide (x5_1 < (l0.length : Int)) = true := decide_eq_true c3
    clear c3
    by_cases c4 : 0 ≤ x5_1
    ·rw [if_pos c4] at H
     have c4b0 : decide (0 ≤ x5_1) = true := decide_eq_true c4
     clear c4
     by_cases c5 : (rd l0 x5_1) < 0
     ·rw [if_pos c5] at H
      have c5b0 : decide ((rd l0 x5_1) < 0) = true := decide_eq_true c5
      clear c5
      obtain rfl := Option.some.inj H
      have p178 : 0 ≤ (x5_1 : Int) := of_decide_eq_true (by first | (with_reducible assumption) | assumption)
      have q178 : x5_1 < (l0.length : Int) := of_decide_eq_true (by first | (with_reducible assumption) | assumption)
      obtain ⟨ad178, e178, hx178_0⟩ := Kd.at_int HR0.out x5_1 p178 q178
      cases e178
      replace p178 := eq_true p178
      replace q178 := eq_true q178
      go_wp2
      go_ret
      exact ⟨by first | rfl | (simp; done) | (simp [*]; done), by repeat (first | exact Drawn0.refl _ | apply Drawn0.step)⟩
     ·rw [if_neg c5] at H
      have c5b0 : decide ((rd l0 x5_1) < 0) = false := decide_eq_false c5
      clear c5
      by_cases c6 : (wrap64 (Int.tdiv (rd l0 x5_1) 2)) > a1
      ·rw [if_pos c6] at H
       have c6b0 : decide (a1 < (wrap64 (Int.tdiv (rd l0 x5_1) 2))) = true := decide_eq_true c6
       clear c6
       obtain rfl := Option.some.inj H
       have p178 : 0 ≤ (x5_1 : Int) := of_decide_eq_true (by first | (with_reducible assumption) | assumption)
       have q178 : x5_1 < (l0.length : Int) := of_decide_eq_true (by first | (with_reducible assumption) | assumption)
       obtain ⟨ad178, e178, hx178_0⟩ := Kd.at_int HR0.out x5_1 p178 q178
       cases e178
       replace p178 := eq_true p178
       replace q178 := eq_true q178
       have p179 : 0 ≤ (x5_1 : Int) := of_decide_eq_true (by first | (with_reducible assumption) | assumption)
       have q179 : x5_1 < (l0.length : Int) := of_decide_eq_true (by first | (with_reducible assumption) | assumption)
       obtain ⟨ad179, e179, hx179_0⟩ := Kd.at_int HR0.out x5_1 p179 q179
       obtain rfl : ad178 = ad179 := (by injection e179)
       replace p179 := eq_true p179
       replace q179 := eq_true q179
       go_wp2
       go_ret
       exact ⟨by first | rfl | (simp; done) | (simp [*]; done), by repeat (first | exact Drawn0.refl _ | apply Drawn0.step)⟩
      ·rw [if_neg c6] at H
       have c6b0 : decide (a1 < (wrap64 (Int.tdiv (rd l0 x5_1) 2))) = false := decide_eq_false c6
       clear c6
       have H' := M_ H
       clear H
       have p178 : 0 ≤ (x5_1 : Int) := of_decide_eq_true (by first | (with_reducible assumption) | assumption)
       have q178 : x5_1 < (l0.length : Int) := of_decide_eq_true (by first | (with_reducible assumption) | assumption)
       obtain ⟨ad178, e178, hx178_0⟩ := Kd.at_int HR0.out x5_1 p178 q178
       cases e178
       replace p178 := eq_true p178
       replace q178 := eq_true q178
       have p179 : 0 ≤ (x5_1 : Int) := of_decide_eq_true (by first | (with_reducible assumption) | assumption)
       have q179 : x5_1 < (l0.length : Int) := of_decide_eq_true (by first | (with_reducible assumption) | assumption)
       obtain ⟨ad179, e179, hx179_0⟩ := Kd.at_int HR0.out x5_1 p179 q179
       obtain rfl : ad178 = ad179 := (by injection e179)
       replace p179 := eq_true p179
       replace q179 := eq_true q179
       go_wp2
       go_roundg k1
       case measure => have := HK1.out; omega
       case rel => exact ⟨(wrap64 (x5_1 + 1)), (by first | rfl | (simp; done) | (simp [*]; done)), H', ⟨by have := HK1.out; omega⟩, by repeat (first | exact Drawn0.refl _ | apply Drawn0.step)⟩
    ·rw [if_neg c4] at H
     exact absurd H (by simp)
   ·rw [if_neg c3] at H
    have c3b0 : decide (x5_1 < (l0.length : Int)) = false := decide_eq_false c3
    clear c3
    obtain rfl := Option.some.inj H
    go_wp2
    go_ret
    exact ⟨by first | rfl | (simp; done) | (simp [*]; done), by repeat (first | exact Drawn0.refl _ | apply Drawn0.step)⟩

end Go.Proofs.Ytlgoniocoifjjaa.QConstantsPasses
