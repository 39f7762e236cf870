import Derived.Test.YtlgoniocoifjjaaLay
import Derived.Test.YtlgoniocoifjjaaQConstantsPassesx0
import Derived.Test.YtlgoniocoifjjaaQConstantsPassesx3
import Derived.Test.YtlgoniocoifjjaaQConstantsPassesx4
import Derived.Test.YtlgoniocoifjjaaQConstantsPassesx10
namespace Go.Proofs.Ytlgoniocoifjjaa.QConstantsPasses
open Go.RowKit Go.Proofs.YtlgoniocoifjjaaW.PrintWords Go.Proofs.YtlgoniocoifjjaaW.PrintLast Go.Proofs.YtlgoniocoifjjaaW.PrintMore
attribute [local go_sem] max2_int min2_int max_two min_two max_three min_three max_four min_four
set_option linter.unusedVariables false
set_option linter.unusedSimpArgs false

def spiritlevelref26_None.l0 : Nat → List Int → Int → Int → List (S45) → List (S55) → List Int → List Int → Option (List Int)
 | 0, _, _, _, _, _, _, _ => none
 | k + 1, x3, x4, x195000, x195001, x195002, x195003, x195004 => (spiritlevelref02_Size.f x195000 x195001 x195002 x195003 x195004).bind fun t195 => (if x4 ≤ t195 then (if x3.length < 17592186044416 then (spiritlevelref26_None.l0 k (x3 ++ [(-1)]) (wrap64 (x4 + 1)) x195000 x195001 x195002 x195003 x195004) else (none)) else (some x3))
def spiritlevelref26_None.f (k : Nat) (a0_0 : Int) (l0_1 : List (S45)) (l0_2 : List (S55)) (l0_3 : List Int) (l0_4 : List Int) : Option (List Int) := spiritlevelref26_None.l0 k ([] : List Int) 0 a0_0 l0_1 l0_2 l0_3 l0_4
set_option maxHeartbeats 8000000 in
set_option maxRecDepth 100000 in
theorem spiritlevelref26_None.calls (k : Nat) (a0_0 : Int) (A0_1 : Option Addr) (c0_1 : Nat) (l0_1 : List (S45)) (A0_2 : Option Addr) (c0_2 : Nat) (l0_2 : List (S55)) (A0_3 : Option Addr) (c0_3 : Nat) (l0_3 : List Int) (A0_4 : Option Addr) (c0_4 : Nat) (l0_4 : List Int) (r : List Int) (w : World) (hr0_1 : Kd.C k45 w A0_1 l0_1.length l0_1) (hc0_1 : l0_1.length ≤ c0_1) (hr0_2 : Kd.C k55 w A0_2 l0_2.length l0_2) (hc0_2 : l0_2.length ≤ c0_2) (hr0_3 : Kd.C (Kd.int .i64) w A0_3 l0_3.length l0_3) (hc0_3 : l0_3.length ≤ c0_3) (hr0_4 : Kd.C (Kd.int .i64) w A0_4 l0_4.length l0_4) (hc0_4 : l0_4.length ≤ c0_4) (h : spiritlevelref26_None.f k a0_0 l0_1 l0_2 l0_3 l0_4 = some r) :
  Calls Try.prog 23 #[.agg #[.int .i64 a0_0, .slice A0_1 l0_1.length c0_1, .slice A0_2 l0_2.length c0_2, .slice A0_3 l0_3.length c0_3, .slice A0_4 l0_4.length c0_4]] w fun e w' => ∃ v0_ : Value, e = .returned (v0_) ∧ Kd.R (Kd.int .i64) 3 w' w.heap.size (fun _ => True) v0_ r ∧ Below w.heap.size w w' := by
 have hu26 := Try.underlying26
 have HR0_1 := M_ hr0_1
 have HC0_1 := M_ hc0_1
 clear hr0_1 hc0_1
 have HR0_2 := M_ hr0_2
 have HC0_2 := M_ hc0_2
 clear hr0_2 hc0_2
 have HR0_3 := M_ hr0_3
 have HC0_3 := M_ hc0_3
 clear hr0_3 hc0_3
 have HR0_4 := M_ hr0_4
 have HC0_4 := M_ hc0_4
 clear hr0_4 hc0_4
 have HB := M_ (Below.refl w.heap.size w)
 have H : (spiritlevelref26_None.l0 k ([] : List Int) 0 a0_0 l0_1 l0_2 l0_3 l0_4) = some r := h
 clear h
 have H' := M_ H
 clear H
 go_enter Try.func23, Try.ntmps23
 go_wp2_with (first | ((with_reducible refine gate_dst (N := 1) rfl ?_); refine box_event ?hg (N := 1) ?hd (cs := #[.int .i64 a0_0, .slice A0_1 l0_1.length c0_1, .slice A0_2 l0_2.length c0_2, .slice A0_3 l0_3.length c0_3, .slice A0_4 l0_4.length c0_4]) (t := 26) ?hr ?_; (case hd => rfl); (case hg => rfl); (case hr => first | (go_simp; done) | (go_simp; rfl)); intro gb194 hg w2 hbox hb; have n1_ := M_ (hbox); have n2_ := M_ ((by rw [hg]; exact (below_size (wl_ HB.out)) : w.heap.size ≤ gb194)); have n3_ := M_ ((by rw [hg]; exact (below_size (wl_ HB.out)) : w.heap.size ≤ gb194)); replace HB := wb_ HB hb; have BK194 := n1_; have GW194 := n2_; have GE194 := n3_; have gi194 : Ge _ _ := ⟨GE194.out⟩; clear n1_ n2_ n3_; clear hb hbox hg))
 go_loopg [3, 4] k (fun kq v3 v4 w' => ∃ (x3_1 : List Int) (x4_1 : Int), v4 = .int .i64 x4_1 ∧ Aside0 (spiritlevelref26_None.l0 kq x3_1 x4_1 a0_0 l0_1 l0_2 l0_3 l0_4 = some r) ∧ Aside0 (kq ≤ k) ∧ Aside0 (Kd.R (Kd.int .i64) 3 w' w.heap.size (fun _ => True) v3 x3_1) ∧ Aside0 (w'.heap[gb194]? = some (.cells #[.int .i64 a0_0, (.slice A0_1 l0_1.length c0_1), (.slice A0_2 l0_2.length c0_2), (.slice A0_3 l0_3.length c0_3), (.slice A0_4 l0_4.length c0_4)] 26 (0, 0))) ∧ Aside0 (Below w.heap.size w w'))
 case atStart => exact ⟨(([] : List Int)), (0), (by first | rfl | (simp; done) | (simp [*]; done)), H', ⟨Nat.le_refl _⟩, ⟨by first | exact Kd.R_nil _ _ _ _ _ | exact Kd.N_nil _ _ _ _ _ | exact Kd.V_nil _ _ _ _ _ | exact Kd.Q_nil _ _ _ _ _ | exact Kd.S_nil _ _ _ _ _⟩, ⟨by (with_reducible repeat (first | refine k0_ ?_ _ | refine k1_ ?_ | refine k2_ ?_ _)); exact BK194.out⟩, ⟨by repeat (first | (with_reducible first | exact HB.out | apply b0_ | apply b1_ | apply b2_ | refine below_set ?_ GE194.out) | exact HB.out)⟩⟩
 case round =>
  clear H'
  try clear c2; try clear p2
  obtain ⟨x3_1, x4_1, rfl, HA, HK1, HO_3, BK194, HB⟩ := hrel
  cases gk with
  | zero => exact absurd HA.out (by simp [spiritlevelref26_None.l0])
  | succ k1 =>
   have H := HA.out
   clear HA
   simp only [spiritlevelref26_None.l0] at H
   replace H := Option.bind_eq_some_iff.mp H
   obtain ⟨t195, A30, H⟩ := H
   replace H : (if x4_1 ≤ t195 then (if x3_1.length < 17592186044416 then (spiritlevelref26_None.l0 k1 (x3_1 ++ [(-1)]) (wrap64 (x4_1 + 1)) a0_0 l0_1 l0_2 l0_3 l0_4) else (none)) else (some x3_1)) = some r := H
   have A3 := M_ A30
   clear A30
   by_cases c4 : x4_1 ≤ t195
   ·rw [if_pos c4] at H
    have c4b0 : decide (x4_1 ≤ t195) = true := decide_eq_true c4
    clear c4
    by_cases c5 : x3_1.length < 17592186044416
    ·rw [if_pos c5] at H
     have LMc5 := M_ c5
     clear c5
     obtain ⟨y196, hy196⟩ : ∃ y_ : List Int, y_ = (x3_1 ++ [(-1)]) := ⟨_, rfl⟩
     replace H : (spiritlevelref26_None.l0 k1 y196 (wrap64 (x4_1 + 1)) a0_0 l0_1 l0_2 l0_3 l0_4) = some r := by first | (rw [hy196]; with_reducible exact H) | (have H2_ := (Option.bind_some _ _).symm.trans H; rw [hy196]; with_reducible exact H2_) | (have H2_ := (Option.bind_some _ _).symm.trans H; with_reducible exact H2_) | with_reducible exact H | (rw [hy196]; exact H) | exact H
     have Ny196 := M_ hy196
     clear hy196
     have H' := M_ H
     clear H
     obtain ⟨hcz6_0, hcz6_1, hcz6_2, hcz6_3, hcz6_4⟩ := cz5_ BK194.out
     obtain ⟨hfz6_0, hfz6_1, hfz6_2, hfz6_3, hfz6_4⟩ := fz5_ BK194.out
     go_wp2_with (first | ((with_reducible refine gate_callee (f := 33) rfl ?_); refine goesL_ (some 7) rfl rfl Try.func33 (by kernel_rfl) rfl #[.agg #[.int .i64 a0_0, .slice A0_1 l0_1.length c0_1, .slice A0_2 l0_2.length c0_2, .slice A0_3 l0_3.length c0_3, .slice A0_4 l0_4.length c0_4]] rfl (by (try simp only [List.map_toArray, List.map_cons, List.map_nil]); first | done | rfl) ?_; (with_reducible refine (spiritlevelref02_Size.calls a0_0 _ _ l0_1 _ _ l0_2 _ _ l0_3 _ _ l0_4 t195 _ ?side1 ?side2 ?side3 ?side4 ?side5 ?side6 ?side7 ?side8 A3.out).mono ?_); (case side1 => exact cl_ (Kd.C_below HR0_1.out HB.out)); (case side2 => exact HC0_1.out); (case side3 => exact cl_ (Kd.C_below HR0_2.out HB.out)); (case side4 => exact HC0_2.out); (case side5 => exact cl_ (Kd.C_below HR0_3.out HB.out)); (case side6 => exact HC0_3.out); (case side7 => exact cl_ (Kd.C_below HR0_4.out HB.out)); (case side8 => exact HC0_4.out); rintro e w7 ⟨rfl, hb⟩; refine ⟨_, rfl, ?_⟩; replace HO_3 := rb_ HO_3 hb; replace BK194 := bb_ BK194 hb; replace HB := wb_ HB hb; (try clear hb); (try clear hb2); (try clear hk); (try clear hi)) | ((with_reducible refine gate_builtin (b := .append) (xs := #[.tmp 11, .tmp 12]) rfl ?_); at_builtin; refine Kd.R_append (Kd.int .i64) (w0 := w) w.heap.size rfl (.tmp 11) (.tmp 12) 24 3 (.int .i64 0) 8 rfl Try.underlying24 info3 rfl (by decide) (by omega) u3 x3_1 (-1) [.int .i64 (-1)] (fun _ => True) (fun _ => False) rfl rfl ?aP (fun _ hk => hk.elim) ?aF ?aO ?aB ?aS ?aL ?_; (case aP => exact rfl); (case aB => exact (ws_ HB.out)); (case aF => exact (fun _ _ => trivial)); (case aO => exact (rl_ HO_3.out)); (case aS => exact (below_size (ws_ HB.out))); (case aL => have := LMc5.out; omega); intro v197 w8 ho hb hg hat; rw [← Ny196.out] at ho; have n0_ := M_ (blk_grown (bl_ BK194.out) hg (Kd.R_ne HO_3.out BK194.out (by decide))); have n1_ := M_ (hb); have n2_ := M_ (ho); clear BK194; clear HB; clear HO_3; have BK194 := n0_; have HB := n1_; have HO198 := n2_; clear n0_ n1_ n2_; clear ho hb hg hat))
     go_roundg k1
     case measure => have := HK1.out; omega
     case rel => exact ⟨(y196), (wrap64 (x4_1 + 1)), (by first | rfl | (simp; done) | (simp [*]; done)), H', ⟨by have := HK1.out; omega⟩, ⟨by (with_reducible repeat (first | apply a0_ | apply a1_ | apply a2_)); exact HO198.out⟩, ⟨by (with_reducible repeat (first | refine k0_ ?_ _ | refine k1_ ?_ | refine k2_ ?_ _)); exact BK194.out⟩, ⟨by repeat (first | (with_reducible first | exact HB.out | apply b0_ | apply b1_ | apply b2_ | refine below_set ?_ GE194.out) | exact HB.out)⟩⟩
    ·rw [if_neg c5] at H
     exact absurd H (by simp)
   ·rw [if_neg c4] at H
    have c4b0 : decide (x4_1 ≤ t195) = false := decide_eq_false c4
    clear c4
    obtain rfl := Option.some.inj H
    obtain ⟨hcz9_0, hcz9_1, hcz9_2, hcz9_3, hcz9_4⟩ := cz5_ BK194.out
    obtain ⟨hfz9_0, hfz9_1, hfz9_2, hfz9_3, hfz9_4⟩ := fz5_ BK194.out
    go_wp2_with (first | ((with_reducible refine gate_callee (f := 33) rfl ?_); refine goesL_ (some 7) rfl rfl Try.func33 (by kernel_rfl) rfl #[.agg #[.int .i64 a0_0, .slice A0_1 l0_1.length c0_1, .slice A0_2 l0_2.length c0_2, .slice A0_3 l0_3.length c0_3, .slice A0_4 l0_4.length c0_4]] rfl (by (try simp only [List.map_toArray, List.map_cons, List.map_nil]); first | done | rfl) ?_; (with_reducible refine (spiritlevelref02_Size.calls a0_0 _ _ l0_1 _ _ l0_2 _ _ l0_3 _ _ l0_4 t195 _ ?side1 ?side2 ?side3 ?side4 ?side5 ?side6 ?side7 ?side8 A3.out).mono ?_); (case side1 => exact cl_ (Kd.C_below HR0_1.out HB.out)); (case side2 => exact HC0_1.out); (case side3 => exact cl_ (Kd.C_below HR0_2.out HB.out)); (case side4 => exact HC0_2.out); (case side5 => exact cl_ (Kd.C_below HR0_3.out HB.out)); (case side6 => exact HC0_3.out); (case side7 => exact cl_ (Kd.C_below HR0_4.out HB.out)); (case side8 => exact HC0_4.out); rintro e w10 ⟨rfl, hb⟩; refine ⟨_, rfl, ?_⟩; replace HO_3 := rb_ HO_3 hb; replace BK194 := bb_ BK194 hb; replace HB := wb_ HB hb; (try clear hb); (try clear hb2); (try clear hk); (try clear hi)))
    go_ret
    exact ⟨_, by first | rfl | (simp [errW_none, errW_some] <;> rfl) | (simp [*, errW_none, errW_some] <;> rfl), by (with_reducible repeat (first | apply a0_ | apply a1_ | apply a2_)); exact HO_3.out, by repeat (first | (with_reducible first | exact HB.out | apply b0_ | apply b1_ | apply b2_ | refine below_set ?_ GE194.out) | exact HB.out)⟩

def spiritlevelref02_Gate.f (a0_0 : Int) (l0_1 : List (S45)) (l0_2 : List (S55)) (l0_3 : List Int) (l0_4 : List Int) (a1 : Int) : Option (Int) := some (wrap64 ((wrap64 ((wrap64 (a1 - 1)) - a0_0)) - (l0_1.length : Int)))
set_option maxHeartbeats 8000000 in
set_option maxRecDepth 100000 in
theorem spiritlevelref02_Gate.calls (a0_0 : Int) (A0_1 : Option Addr) (c0_1 : Nat) (l0_1 : List (S45)) (A0_2 : Option Addr) (c0_2 : Nat) (l0_2 : List (S55)) (A0_3 : Option Addr) (c0_3 : Nat) (l0_3 : List Int) (A0_4 : Option Addr) (c0_4 : Nat) (l0_4 : List Int) (a1 : Int) (r : Int) (w : World) (hr0_1 : Kd.C k45 w A0_1 l0_1.length l0_1) (hc0_1 : l0_1.length ≤ c0_1) (hr0_2 : Kd.C k55 w A0_2 l0_2.length l0_2) (hc0_2 : l0_2.length ≤ c0_2) (hr0_3 : Kd.C (Kd.int .i64) w A0_3 l0_3.length l0_3) (hc0_3 : l0_3.length ≤ c0_3) (hr0_4 : Kd.C (Kd.int .i64) w A0_4 l0_4.length l0_4) (hc0_4 : l0_4.length ≤ c0_4) (h : spiritlevelref02_Gate.f a0_0 l0_1 l0_2 l0_3 l0_4 a1 = some r) :
  Calls Try.prog 97 #[.agg #[.int .i64 a0_0, .slice A0_1 l0_1.length c0_1, .slice A0_2 l0_2.length c0_2, .slice A0_3 l0_3.length c0_3, .slice A0_4 l0_4.length c0_4], .int .i64 a1] w fun e w' => e = .returned (.int .i64 r) ∧ Below w.heap.size w w' := by
 have hu26 := Try.underlying26
 have HR0_1 := M_ hr0_1
 have HC0_1 := M_ hc0_1
 clear hr0_1 hc0_1
 have HR0_2 := M_ hr0_2
 have HC0_2 := M_ hc0_2
 clear hr0_2 hc0_2
 have HR0_3 := M_ hr0_3
 have HC0_3 := M_ hc0_3
 clear hr0_3 hc0_3
 have HR0_4 := M_ hr0_4
 have HC0_4 := M_ hc0_4
 clear hr0_4 hc0_4
 have HB := M_ (Below.refl w.heap.size w)
 have H : (some (wrap64 ((wrap64 ((wrap64 (a1 - 1)) - a0_0)) - (l0_1.length : Int)))) = some r := h
 clear h
 obtain rfl := Option.some.inj H
 go_enter Try.func97, Try.ntmps97
 go_wp2_with (first | ((with_reducible refine gate_dst (N := 2) rfl ?_); refine box_event ?hg (N := 2) ?hd (cs := #[.int .i64 a0_0, .slice A0_1 l0_1.length c0_1, .slice A0_2 l0_2.length c0_2, .slice A0_3 l0_3.length c0_3, .slice A0_4 l0_4.length c0_4]) (t := 26) ?hr ?_; (case hd => rfl); (case hg => rfl); (case hr => first | (go_simp; done) | (go_simp; rfl)); intro gb199 hg w3 hbox hb; have n1_ := M_ (hbox); have n2_ := M_ ((by rw [hg]; exact (below_size (wl_ HB.out)) : w.heap.size ≤ gb199)); have n3_ := M_ ((by rw [hg]; exact (below_size (wl_ HB.out)) : w.heap.size ≤ gb199)); replace HB := wb_ HB hb; have BK199 := n1_; have GW199 := n2_; have GE199 := n3_; have gi199 : Ge _ _ := ⟨GE199.out⟩; clear n1_ n2_ n3_; clear hb hbox hg; obtain ⟨hcz4_0, hcz4_1, hcz4_2, hcz4_3, hcz4_4⟩ := cz5_ BK199.out; have hfz4_0 := blk_frozen BK199.out 0; have hfz4_1 := blk_frozen BK199.out 1; have hfz4_2 := blk_frozen BK199.out 2; have hfz4_3 := blk_frozen BK199.out 3; have hfz4_4 := blk_frozen BK199.out 4))
 go_ret
 exact ⟨by first | rfl | (simp [errW_none, errW_some] <;> rfl) | (simp [*, errW_none, errW_some] <;> rfl), by repeat (first | (with_reducible first | exact HB.out | apply b0_ | apply b1_ | apply b2_ | refine below_set ?_ GE199.out) | exact HB.out)⟩

def spiritlevelref01_Not.f (a0 : Int) : Option (Int) := if (Int.tmod a0 2) = 0 then (some (wrap64 (a0 + 1))) else (some (wrap64 (a0 - 1)))
set_option maxHeartbeats 8000000 in
set_option maxRecDepth 100000 in
theorem spiritlevelref01_Not.calls (a0 : Int) (r : Int) (w : World) (h : spiritlevelref01_Not.f a0 = some r) :
  Calls Try.prog 112 #[.int .i64 a0] w fun e w' => e = .returned (.int .i64 r) ∧ Drawn0 w w' := by
 have H : (if (Int.tmod a0 2) = 0 then (some (wrap64 (a0 + 1))) else (some (wrap64 (a0 - 1)))) = some r := h
 clear h
 by_cases c2 : (Int.tmod a0 2) = 0
 ·rw [if_pos c2] at H
  have c2b0 : ((Int.tmod a0 2) == 0) = true := beq_iff_eq.mpr c2
  have c2b1 : ((Int.tmod a0 2) != 0) = false := bne_eq_false_iff_eq.mpr c2
  clear c2
  obtain rfl := Option.some.inj H
  go_enter Try.func112, Try.ntmps112
  go_wp2
  go_ret
  exact ⟨by first | rfl | (simp; done) | (simp [*]; done), by repeat (first | exact Drawn0.refl _ | apply Drawn0.step)⟩
 ·rw [if_neg c2] at H
  have c2b0 : ((Int.tmod a0 2) == 0) = false := beq_eq_false_iff_ne.mpr c2
  have c2b1 : ((Int.tmod a0 2) != 0) = true := bne_iff_ne.mpr c2
  obtain rfl := Option.some.inj H
  go_enter Try.func112, Try.ntmps112
  go_wp2
  go_ret
  exact ⟨by first | rfl | (simp; done) | (simp [*]; done), by repeat (first | exact Drawn0.refl _ | apply Drawn0.step)⟩

def spiritlevelref26_Other.f (a0 : Int) : Option (Int) := (spiritlevelref01_Not.f a0).bind fun t200 => (some t200)
set_option maxHeartbeats 8000000 in
set_option maxRecDepth 100000 in
theorem spiritlevelref26_Other.calls (a0 : Int) (r : Int) (w : World) (h : spiritlevelref26_Other.f a0 = some r) :
  Calls Try.prog 109 #[.int .i64 a0] w fun e w' => e = .returned (.int .i64 r) ∧ Drawn0 w w' := by
 have H : ((spiritlevelref01_Not.f a0).bind fun t200 => (some t200)) = some r := h
 clear h
 replace H := Option.bind_eq_some_iff.mp H
 obtain ⟨t200, A20, H⟩ := H
 replace H : (some t200) = some r := H
 have A2 := M_ A20
 clear A20
 obtain rfl := Option.some.inj H
 go_enter Try.func109, Try.ntmps109
 go_wp2_with (first | ((with_reducible refine gate_callee (f := 112) rfl ?_); refine goesL_ (some 4) rfl rfl Try.func112 (by kernel_rfl) rfl #[.int .i64 a0] rfl (by (try simp only [List.map_toArray, List.map_cons, List.map_nil]); first | done | rfl) ?_; (with_reducible refine (spiritlevelref01_Not.calls a0 t200 _ A2.out).mono ?_); rintro e w' ⟨rfl, ⟨nd, rfl⟩⟩; refine ⟨_, rfl, ?_⟩))
 go_ret
 exact ⟨by first | rfl | (simp; done) | (simp [*]; done), by repeat (first | exact Drawn0.refl _ | apply Drawn0.step)⟩

def spiritlevelref26_Signed.f (a0 : Int) (a1 : Int) : Option (Int) := if (Int.tmod a1 2) = 1 then ((spiritlevelref26_Other.f a0).bind fun t201 => (some t201)) else (some a0)
set_option maxHeartbeats 8000000 in
set_option maxRecDepth 100000 in
theorem spiritlevelref26_Signed.calls (a0 : Int) (a1 : Int) (r : Int) (w : World) (h : spiritlevelref26_Signed.f a0 a1 = some r) :
  Calls Try.prog 98 #[.int .i64 a0, .int .i64 a1] w fun e w' => e = .returned (.int .i64 r) ∧ Drawn0 w w' := by
 have H : (if (Int.tmod a1 2) = 1 then ((spiritlevelref26_Other.f a0).bind fun t201 => (some t201)) else (some a0)) = some r := h
 clear h
 by_cases c3 : (Int.tmod a1 2) = 1
 ·rw [if_pos c3] at H
  have c3b0 : ((Int.tmod a1 2) == 1) = true := beq_iff_eq.mpr c3
  have c3b1 : ((Int.tmod a1 2) != 1) = false := bne_eq_false_iff_eq.mpr c3
  clear c3
  replace H := Option.bind_eq_some_iff.mp H
  obtain ⟨t201, A40, H⟩ := H
  replace H : (some t201) = some r := H
  have A4 := M_ A40
  clear A40
  obtain rfl := Option.some.inj H
  go_enter Try.func98, Try.ntmps98
  go_wp2_with (first | ((with_reducible refine gate_callee (f := 109) rfl ?_); refine goesL_ (some 9) rfl rfl Try.func109 (by kernel_rfl) rfl #[.int .i64 a0] rfl (by (try simp only [List.map_toArray, List.map_cons, List.map_nil]); first | done | rfl) ?_; (with_reducible refine (spiritlevelref26_Other.calls a0 t201 _ A4.out).mono ?_); rintro e w' ⟨rfl, ⟨nd, rfl⟩⟩; refine ⟨_, rfl, ?_⟩))
  go_ret
  exact ⟨by first | rfl | (simp; done) | (simp [*]; done), by repeat (first | exact Drawn0.refl _ | apply Drawn0.step)⟩
 ·rw [if_neg c3] at H
  have c3b0 : ((Int.tmod a1 2) == 1) = false := beq_eq_false_iff_ne.mpr c3
  have c3b1 : ((Int.tmod a1 2) != 1) = true := bne_iff_ne.mpr c3
  obtain rfl := Option.some.inj H
  go_enter Try.func98, Try.ntmps98
  go_wp2
  go_ret
  exact ⟨by first | rfl | (simp; done) | (simp [*]; done), by repeat (first | exact Drawn0.refl _ | apply Drawn0.step)⟩

def spiritlevelref01_Simple.j0 : Nat → Int → Int → Bool → Option (Int × Bool)
 | 0, _, _, _ => none
 | k + 1, x0, x1, x6 => if x6 = true then (some (0, true)) else (if x0 = 1 then (some (x1, true)) else (if x1 = 1 then (some (x0, true)) else (if x0 = x1 then (some (x0, true)) else (some (0, false)))))
def spiritlevelref01_Simple.f (k : Nat) (a0 : Int) (a1 : Int) : Option (Int × Bool) := if a0 = 0 then (spiritlevelref01_Simple.j0 k a0 a1 true) else (if a1 = 0 then (spiritlevelref01_Simple.j0 k a0 a1 true) else ((spiritlevelref01_Not.f a0).bind fun t202 => (spiritlevelref01_Simple.j0 k a0 a1 (t202 == a1))))
set_option maxHeartbeats 8000000 in
set_option maxRecDepth 100000 in
theorem spiritlevelref01_Simple.calls (k : Nat) (a0 : Int) (a1 : Int) (r1 : Int) (r2 : Bool) (w : World) (h : spiritlevelref01_Simple.f k a0 a1 = some (r1, r2)) :
  Calls Try.prog 110 #[.int .i64 a0, .int .i64 a1] w fun e w' => e = .returned (.tuple #[.int .i64 r1, .bool r2]) ∧ Drawn0 w w' := by
 have H : (if a0 = 0 then (spiritlevelref01_Simple.j0 k a0 a1 true) else (if a1 = 0 then (spiritlevelref01_Simple.j0 k a0 a1 true) else ((spiritlevelref01_Not.f a0).bind fun t202 => (spiritlevelref01_Simple.j0 k a0 a1 (t202 == a1))))) = some (r1, r2) := h
 clear h
 have HC3 := M_ H
 clear H
 go_enter Try.func110, Try.ntmps110
 go_upto_region 1 with (fail)
 go_cut [6] (fun v6 wc => ∃ (kq : Nat) (x6_2 : Bool), v6 = .bool x6_2 ∧ Aside0 (spiritlevelref01_Simple.j0 kq a0 a1 x6_2 = some (r1, r2)) ∧ Aside0 (kq ≤ k) ∧ Drawn0 w wc)
 case first =>
  have H := HC3.out
  clear HC3
  by_cases c4 : a0 = 0
  ·rw [if_pos c4] at H
   have c4b0 : (a0 == 0) = true := beq_iff_eq.mpr c4
   have c4b1 : (a0 != 0) = false := bne_eq_false_iff_eq.mpr c4
   clear c4
   (first | rw [c4b0] | (simp only [i64_w, i32_w]; rw [c4b0]) | skip)
   have H' := M_ H
   clear H
   go_wp2
   go_meet
   case rel => exact ⟨_, (true), (by first | rfl | (simp; done) | (simp [*]; done)), H', ⟨by first | omega | exact Nat.le_refl _⟩, by repeat (first | exact Drawn0.refl _ | apply Drawn0.step)⟩
  ·rw [if_neg c4] at H
   have c4b0 : (a0 == 0) = false := beq_eq_false_iff_ne.mpr c4
   have c4b1 : (a0 != 0) = true := bne_iff_ne.mpr c4
   (first | rw [c4b0] | (simp only [i64_w, i32_w]; rw [c4b0]) | skip)
   by_cases c5 : a1 = 0
   ·rw [if_pos c5] at H
    have c5b0 : (a1 == 0) = true := beq_iff_eq.mpr c5
    have c5b1 : (a1 != 0) = false := bne_eq_false_iff_eq.mpr c5
    clear c5
    have H' := M_ H
    clear H
    go_wp2
    go_meet
    case rel => exact ⟨_, (true), (by first | rfl | (simp; done) | (simp [*]; done)), H', ⟨by first | omega | exact Nat.le_refl _⟩, by repeat (first | exact Drawn0.refl _ | apply Drawn0.step)⟩
   ·rw [if_neg c5] at H
    have c5b0 : (a1 == 0) = false := beq_eq_false_iff_ne.mpr c5
    have c5b1 : (a1 != 0) = true := bne_iff_ne.mpr c5
    replace H := Option.bind_eq_some_iff.mp H
    obtain ⟨t202, A60, H⟩ := H
    replace H : (spiritlevelref01_Simple.j0 k a0 a1 (t202 == a1)) = some (r1, r2) := H
    have A6 := M_ A60
    clear A60
    have H' := M_ H
    clear H
    go_wp2_with (first | (go_at_call 112; (with_reducible refine (spiritlevelref01_Not.calls a0 t202 _ A6.out).mono ?_); rintro e w' ⟨rfl, ⟨nd, rfl⟩⟩))
    go_meet
    case rel => exact ⟨_, ((t202 == a1)), (by first | rfl | (simp; done) | (simp [*]; done)), H', ⟨by first | omega | exact Nat.le_refl _⟩, by repeat (first | exact Drawn0.refl _ | apply Drawn0.step)⟩
 case rest =>
  clear HC3
  try clear c1; try clear p2; try clear c4; try clear c4b0; try clear c4b1; try clear c5; try clear c5b0; try clear c5b1
  obtain ⟨kq, x6_2, rfl, HA, HJ2, ⟨mc2, rfl⟩⟩ := hcut
  cases kq with
  | zero => exact absurd HA.out (by simp [spiritlevelref01_Simple.j0])
  | succ kj2 =>
   have H := HA.out
   clear HA
   simp only [spiritlevelref01_Simple.j0] at H
   by_cases c7 : x6_2 = true
   ·subst c7
    have H1 : (some (0, true)) = some (r1, r2) := by rw [if_pos rfl] at H; exact H
    clear H
    have H := H1
    clear H1
    simp only [Option.some.injEq, Prod.mk.injEq] at H
    obtain ⟨rfl, rfl⟩ := H
    go_wp2
    go_ret2
    exact ⟨by first | rfl | (simp; done) | (simp [*]; done), by repeat (first | exact Drawn0.refl _ | apply Drawn0.step)⟩
   ·replace c7 := Bool.eq_false_iff.mpr c7
    subst c7
    have H1 : (if a0 = 1 then (some (a1, true)) else (if a1 = 1 then (some (a0, true)) else (if a0 = a1 then (some (a0, true)) else (some (0, false))))) = some (r1, r2) := by rw [if_neg (show ¬ (false = true) by decide)] at H; exact H
    clear H
    have H := H1
    clear H1
    by_cases c8 : a0 = 1
    ·rw [if_pos c8] at H
     have c8b0 : (a0 == 1) = true := beq_iff_eq.mpr c8
     have c8b1 : (a0 != 1) = false := bne_eq_false_iff_eq.mpr c8
     clear c8
     simp only [Option.some.injEq, Prod.mk.injEq] at H
     obtain ⟨rfl, rfl⟩ := H
     go_wp2
     go_ret2
     exact ⟨by first | rfl | (simp; done) | (simp [*]; done), by repeat (first | exact Drawn0.refl _ | apply Drawn0.step)⟩
    ·rw [if_neg c8] at H
     have c8b0 : (a0 == 1) = false := beq_eq_false_iff_ne.mpr c8
     have c8b1 : (a0 != 1) = true := bne_iff_ne.mpr c8
     by_cases c9 : a1 = 1
     ·rw [if_pos c9] at H
      have c9b0 : (a1 == 1) = true := beq_iff_eq.mpr c9
      have c9b1 : (a1 != 1) = false := bne_eq_false_iff_eq.mpr c9
      clear c9
      simp only [Option.some.injEq, Prod.mk.injEq] at H
      obtain ⟨rfl, rfl⟩ := H
      go_wp2
      go_ret2
      exact ⟨by first | rfl | (simp; done) | (simp [*]; done), by repeat (first | exact Drawn0.refl _ | apply Drawn0.step)⟩
     ·rw [if_neg c9] at H
      have c9b0 : (a1 == 1) = false := beq_eq_false_iff_ne.mpr c9
      have c9b1 : (a1 != 1) = true := bne_iff_ne.mpr c9
      by_cases c10 : a0 = a1
      ·rw [if_pos c10] at H
       have c10b0 : (a0 == a1) = true := beq_iff_eq.mpr c10
       have c10b1 : (a0 != a1) = false := bne_eq_false_iff_eq.mpr c10
       clear c10
       simp only [Option.some.injEq, Prod.mk.injEq] at H
       obtain ⟨rfl, rfl⟩ := H
       go_wp2
       go_ret2
       exact ⟨by first | rfl | (simp; done) | (simp [*]; done), by repeat (first | exact Drawn0.refl _ | apply Drawn0.step)⟩
      ·rw [if_neg c10] at H
       have c10b0 : (a0 == a1) = false := beq_eq_false_iff_ne.mpr c10
       have c10b1 : (a0 != a1) = true := bne_iff_ne.mpr c10
       simp only [Option.some.injEq, Prod.mk.injEq] at H
       obtain ⟨rfl, rfl⟩ := H
       go_wp2
       go_ret2
       exact ⟨by first | rfl | (simp; done) | (simp [*]; done), by repeat (first | exact Drawn0.refl _ | apply Drawn0.step)⟩

-- hash_begin.dep
-- spiritlevelref01_Simple.f spiritlevelref02_Size.f
def spiritlevelref26_Made.dep : Nat := 0
theorem eqlAnd0 (d : Nat) (a b x y : Int) (w : World) : (Op.equalIn (d + 1 + 1) 55 (.agg #[.int .i64 a, .int .i64 b]) (.agg #[.int .i64 x, .int .i64 y])).run Try.prog w = .ok (a == x && b == y) w := by
 refine eqA_of Try.underlying55 (by kernel_rfl) ?_
 refine eqf_cons (by kernel_rfl) (a := .int .i64 a) (b := .int .i64 x) (by kernel_rfl) (by kernel_rfl) (run_equalIn_int w d _ _ _ a x Try.underlying3) ?_
 exact eqf_last (by kernel_rfl) (a := .int .i64 b) (b := .int .i64 y) (by kernel_rfl) (by kernel_rfl) (run_equalIn_int w d _ _ _ b y Try.underlying3)
theorem eqlAnd (a b x y : Int) (w : World) : (binOp .eql 55 (.agg #[.int .i64 a, .int .i64 b]) (.agg #[.int .i64 x, .int .i64 y])).run Try.prog w = .ok (.bool (a == x && b == y)) w := by
 rw [run_eql_struct, eqlAnd0 9998 a b x y w]
 rfl
structure StO (P : Nat → Prop) (w W : World) (bo : Nat) (ins : Int) (L : List S45) (gs : List S55) (bads cons : List Int) : Prop where
 hb : Below w.heap.size w W
 lo : w.heap.size ≤ bo
 blk : ∃ vL vA vB vC, W.heap[bo]? = some (.cells #[.int .i64 ins, vL, vA, vB, vC] 26 (0, 0)) ∧ Kd.R k45 45 W w.heap.size (fun _ => True) vL L ∧ Kd.R k55 55 W w.heap.size (fun _ => True) vA gs ∧ Kd.R (Kd.int .i64) 3 W w.heap.size (fun k => some k ≠ vC.ownBlock ∧ P k) vB bads ∧ Kd.R (Kd.int .i64) 3 W w.heap.size (fun k => some k ≠ vB.ownBlock ∧ P k) vC cons
def RowOf (bo : Nat) (W : World) (k : Nat) : Prop := ∃ v, W.cell? ⟨bo, 2, none⟩ = some v ∧ v.ownBlock = some k
def KeepO (bo : Nat) (W W' : World) : Prop := W.heap.size ≤ W'.heap.size ∧ (∀ (k : Nat) (cs : Array Value) (t : TypeId) (fr : Nat × Nat), W.heap[k]? = some (.cells cs t fr) → k ≠ bo → (t ≠ 55 ∨ (bo < W.heap.size ∧ ¬ RowOf bo W k)) → W'.heap[k]? = some (.cells cs t fr)) ∧ (bo < W.heap.size → ∀ k, k < W.heap.size → RowOf bo W' k → RowOf bo W k)
theorem KeepO.refl (bo : Nat) (W : World) : KeepO bo W W := ⟨Nat.le_refl _, fun _ _ _ _ h _ _ => h, fun _ _ _ h => h⟩
theorem KeepO.trans {bo : Nat} {W W' W2 : World} (h : KeepO bo W W') (h' : KeepO bo W' W2) : KeepO bo W W2 :=
 ⟨Nat.le_trans h.1 h'.1, fun k cs t fr e a b => h'.2.1 k cs t fr (h.2.1 k cs t fr e a b) a (b.imp id (fun c => ⟨Nat.lt_of_lt_of_le c.1 h.1, fun r => c.2 (h.2.2 c.1 k (Array.getElem?_eq_some_iff.1 e).1 r)⟩)), fun hb k hk r => h.2.2 hb k hk (h'.2.2 (Nat.lt_of_lt_of_le hb h.1) k (Nat.lt_of_lt_of_le hk h.1) r)⟩
theorem KeepO.below {bo : Nat} {W W' : World} (h : Below W.heap.size W W') : KeepO bo W W' :=
 ⟨h.size, fun k cs t fr e _ _ => (h.block k (Array.getElem?_eq_some_iff.1 e).1).trans e, fun hb k hk r => by
  obtain ⟨v, hv, ho⟩ := r
  exact ⟨v, by rw [← hv]; simp only [World.cell?, h.block bo hb], ho⟩⟩
theorem KeepO.blk {bo : Nat} {W W' : World} {k t : Nat} {cs : Array Value} (h : KeepO bo W W') (hb : W.heap[k]? = some (.cells cs t (0, 0))) (a : k ≠ bo) (b : t ≠ 55) : W'.heap[k]? = some (.cells cs t (0, 0)) := h.2.1 k cs t (0, 0) hb a (Or.inl b)
theorem KeepO.box {bo : Nat} {W W' : World} {k t : Nat} {cs : Array Value} (h : KeepO bo W W') (hb : W.heap[k]? = some (.cells cs t (0, 0))) (a : k ≠ bo) (b : bo < W.heap.size) (c : ¬ RowOf bo W k) : W'.heap[k]? = some (.cells cs t (0, 0)) := h.2.1 k cs t (0, 0) hb a (Or.inr ⟨b, c⟩)
theorem KeepO.push {bo : Nat} {X w1 : World} {vA v1 : Value} (hg : X.grownBy w1 vA.ownBlock) (hr : ∀ k, vA.ownBlock = some k → ∃ cs, X.heap[k]? = some (.cells cs 55 (0, 0))) (hc2 : X.cell? ⟨bo, 2, none⟩ = some vA) (hat : v1.ownBlock = vA.ownBlock ∨ ∃ b, v1.ownBlock = some b ∧ X.heap.size ≤ b) {cs : Array Value} {t : TypeId} (hb3 : w1.heap[bo]? = some (.cells cs t (0, 0))) : KeepO bo X (w1.setCell ⟨bo, 2, none⟩ v1) := by
 refine ⟨by rw [World.size_setCell]; exact hg.size, fun k cs' t' fr e a b => ?_, fun hb k hk r => ?_⟩
 ·refine (Below.heap_setCell w1 ⟨bo, 2, none⟩ v1 k a).trans ((hg.block k (Array.getElem?_eq_some_iff.1 e).1 ?_).trans e)
  intro hk
  rcases b with b | b
  ·obtain ⟨cs2, hc⟩ := hr k hk.symm
   rw [hc] at e
   injection e with e
   injection e with _ e
   exact b e.symm
  ·exact b.2 ⟨vA, hc2, hk.symm⟩
 ·obtain ⟨v, hv, ho⟩ := r
  have := blk_set hb3 2 v1
  have hv2 := (blk_cell this 2).symm.trans hv
  have h2 : (cs.setIfInBounds 2 v1)[2]? = some v := hv2
  have h3 : v = v1 := by
   by_cases hs : 2 < cs.size
   ·simpa [hs] using h2.symm
   ·simp [hs] at h2
  subst h3
  rcases hat with hat | ⟨b, hb', hle⟩
  ·exact ⟨vA, hc2, by rw [← hat]; exact ho⟩
  ·rw [hb'] at ho
   injection ho with ho
   omega
section
variable {P : Nat → Prop} {w W W' X w1 : World} {bo : Nat} {ins : Int} {L : List S45} {gs gs' : List S55} {bads cons : List Int}
theorem StO.below (h : StO P w W bo ins L gs bads cons) (hb : Below W.heap.size W W') : StO P w W' bo ins L gs bads cons := by
 obtain ⟨h0, h1, ⟨vL, vA, vB, vC, h3, h4, h5, h6, h7⟩⟩ := h
 exact ⟨below_step h0 hb, h1, ⟨vL, vA, vB, vC, blk_below h3 hb, Kd.R_below h4 hb, Kd.R_below h5 hb, Kd.R_below h6 hb, Kd.R_below h7 hb⟩⟩
theorem StO.cells (h : StO P w W bo ins L gs bads cons) : ∃ AL cL AA cA AB cB AC cC, W.heap[bo]? = some (.cells #[.int .i64 ins, .slice AL L.length cL, .slice AA gs.length cA, .slice AB bads.length cB, .slice AC cons.length cC] 26 (0, 0)) ∧ Kd.R k45 45 W w.heap.size (fun _ => True) (.slice AL L.length cL) L ∧ Kd.R k55 55 W w.heap.size (fun _ => True) (.slice AA gs.length cA) gs ∧ Kd.R (Kd.int .i64) 3 W w.heap.size (fun k => some k ≠ (Value.slice AC cons.length cC).ownBlock ∧ P k) (.slice AB bads.length cB) bads ∧ Kd.R (Kd.int .i64) 3 W w.heap.size (fun k => some k ≠ (Value.slice AB bads.length cB).ownBlock ∧ P k) (.slice AC cons.length cC) cons := by
 obtain ⟨vL, vA, vB, vC, h3, h4, h5, h6, h7⟩ := h.blk
 obtain ⟨AL, cL, rfl⟩ := Kd.R_slice h4
 obtain ⟨AA, cA, rfl⟩ := Kd.R_slice h5
 obtain ⟨AB, cB, rfl⟩ := Kd.R_slice h6
 obtain ⟨AC, cC, rfl⟩ := Kd.R_slice h7
 exact ⟨AL, cL, AA, cA, AB, cB, AC, cC, h3, h4, h5, h6, h7⟩
theorem StO.push (h : StO P w X bo ins L gs bads cons) {vA v1 : Value} {AA : Option Addr} {cA : Nat} (hv : vA = .slice AA gs.length cA) (hc2 : X.cell? ⟨bo, 2, none⟩ = some vA) (hb1 : Below w.heap.size w w1) (hg : X.grownBy w1 vA.ownBlock) (hat : v1.ownBlock = vA.ownBlock ∨ ∃ b, v1.ownBlock = some b ∧ X.heap.size ≤ b)
  (hr : Kd.R k55 55 w1 w.heap.size (fun _ => True) v1 gs') :
  StO P w (w1.setCell ⟨bo, 2, none⟩ v1) bo ins L gs' bads cons ∧ KeepO bo X (w1.setCell ⟨bo, 2, none⟩ v1) ∧ ∃ cs, w1.heap[bo]? = some (.cells cs 26 (0, 0)) ∧ (cs[2]?).isSome = true := by
 obtain ⟨h0, l1, ⟨vL, vA', vB, vC, h3, h4, h5, h6, h7⟩⟩ := h
 have e2 : vA' = vA := by
  have := (blk_cell h3 2).symm.trans hc2
  simpa using this
 subst e2
 have hrow : ∀ k, vA'.ownBlock = some k → ∃ cs, X.heap[k]? = some (.cells cs 55 (0, 0)) := Kd.R_typed h5
 have hne : some bo ≠ vA'.ownBlock := fun e => by
  obtain ⟨cs, hc⟩ := hrow bo e.symm
  rw [hc] at h3
  injection h3 with h3
  injection h3 with _ h3
  exact absurd h3 (by decide)
 have hb3 := blk_grown h3 hg hne
 have g4 := Kd.R_over' h4 hrow (by decide) hg
 have g6 := Kd.R_over' h6 hrow (by decide) hg
 have g7 := Kd.R_over' h7 hrow (by decide) hg
 refine ⟨⟨hb1.setCell l1 _, l1, ⟨vL, v1, vB, vC, ?_, Kd.R_set g4 hb3 (by decide) 2 _, Kd.R_set hr hb3 (by decide) 2 _, Kd.R_set g6 hb3 (by decide) 2 _, Kd.R_set g7 hb3 (by decide) 2 _⟩⟩, KeepO.push hg hrow hc2 hat hb3, _, hb3, rfl⟩
 have := blk_set hb3 2 v1
 simpa using this
end
theorem simple_true {first : Int} {gs : List S55} {x y : Int} (x0 : 0 ≤ x) (x1 : x ≤ 100000000) (y0 : 0 ≤ y) (y1 : y ≤ 100000000) (hc : x = 0 ∨ y = 0 ∨ x = Go.bits .xor .i64 y 1 ∨ x = 1 ∨ x = y ∨ y = 1) : spiritlevelref01_Simple.f 2 x y = some ((andP first gs x y).2, true) ∧ (andP first gs x y).1 = gs := by
 have hw : ∀ z : Int, 0 ≤ z → z ≤ 100000001 → wrap64 z = z := fun z h0 h1 => by unfold wrap64; omega
 have hb := h_bxor1 y y0 (by omega)
 unfold notH at hb
 have hn : spiritlevelref01_Not.f x = some (if x % 2 = 0 then x + 1 else x - 1) := by
  unfold spiritlevelref01_Not.f
  rw [Int.tmod_eq_emod_of_nonneg x0]
  split
  ·rw [hw _ (by omega) (by omega)]
  ·rw [hw _ (by omega) (by omega)]
 have hxy : (x % 2 = 0 → (x + 1 = y ↔ x = Go.bits .xor .i64 y 1)) ∧ (¬ x % 2 = 0 → (x - 1 = y ↔ x = Go.bits .xor .i64 y 1)) := by
  rw [hb]
  constructor <;> intro h <;> constructor <;> intro h2 <;> (split at * <;> omega)
 unfold spiritlevelref01_Simple.f
 by_cases c1 : x = 0
 ·have e : andP first gs x y = (gs, 0) := by unfold andP; rw [if_pos (Or.inl c1)]
  rw [if_pos c1, e]
  simp only [spiritlevelref01_Simple.j0]
  refine ⟨?_, ?_⟩ <;> simp
 rw [if_neg c1]
 by_cases c2 : y = 0
 ·have e : andP first gs x y = (gs, 0) := by unfold andP; rw [if_pos (Or.inr (Or.inl c2))]
  rw [if_pos c2, e]
  simp only [spiritlevelref01_Simple.j0]
  refine ⟨?_, ?_⟩ <;> simp
 rw [if_neg c2, hn, Option.bind_some]
 simp only [spiritlevelref01_Simple.j0]
 by_cases c3 : x = Go.bits .xor .i64 y 1
 ·have e : andP first gs x y = (gs, 0) := by unfold andP; rw [if_pos (Or.inr (Or.inr c3))]
  rw [e, if_pos (by rw [beq_iff_eq]; split; (rename_i h; exact (hxy.1 h).2 c3); (rename_i h; exact (hxy.2 h).2 c3))]
  exact ⟨rfl, rfl⟩
 rw [if_neg (by rw [beq_iff_eq]; split; (rename_i h; exact fun h2 => c3 ((hxy.1 h).1 h2)); (rename_i h; exact fun h2 => c3 ((hxy.2 h).1 h2)))]
 have n1 : ¬ (x = 0 ∨ y = 0 ∨ x = Go.bits .xor .i64 y 1) := by rintro (h | h | h) <;> contradiction
 by_cases c4 : x = 1
 ·have e : andP first gs x y = (gs, y) := by unfold andP; rw [if_neg n1, if_pos (Or.inl c4)]
  rw [e, if_pos c4]; exact ⟨rfl, rfl⟩
 rw [if_neg c4]
 by_cases c6 : x = y
 ·have e : andP first gs x y = (gs, y) := by unfold andP; rw [if_neg n1, if_pos (Or.inr c6)]
  rw [e]
  by_cases c5 : y = 1
  ·rw [if_pos c5, c6]; exact ⟨rfl, rfl⟩
  ·rw [if_neg c5, if_pos c6, c6]; exact ⟨rfl, rfl⟩
 by_cases c5 : y = 1
 ·have e : andP first gs x y = (gs, x) := by unfold andP; rw [if_neg n1, if_neg (by rintro (h | h) <;> contradiction), if_pos c5]
  rw [e, if_pos c5]; exact ⟨rfl, rfl⟩
 ·rcases hc with h | h | h | h | h | h <;> contradiction
theorem simple_false {x y : Int} (x0 : 0 ≤ x) (x1 : x ≤ 100000000) (y0 : 0 ≤ y) (y1 : y ≤ 100000000) (hc : ¬ (x = 0 ∨ y = 0 ∨ x = Go.bits .xor .i64 y 1 ∨ x = 1 ∨ x = y ∨ y = 1)) : spiritlevelref01_Simple.f 2 x y = some (0, false) := by
 have hw : ∀ z : Int, 0 ≤ z → z ≤ 100000001 → wrap64 z = z := fun z h0 h1 => by unfold wrap64; omega
 have hb := h_bxor1 y y0 (by omega)
 unfold notH at hb
 have hn : spiritlevelref01_Not.f x = some (if x % 2 = 0 then x + 1 else x - 1) := by
  unfold spiritlevelref01_Not.f
  rw [Int.tmod_eq_emod_of_nonneg x0]
  split
  ·rw [hw _ (by omega) (by omega)]
  ·rw [hw _ (by omega) (by omega)]
 have hxy : (x % 2 = 0 → (x + 1 = y ↔ x = Go.bits .xor .i64 y 1)) ∧ (¬ x % 2 = 0 → (x - 1 = y ↔ x = Go.bits .xor .i64 y 1)) := by
  rw [hb]
  constructor <;> intro h <;> constructor <;> intro h2 <;> (split at * <;> omega)
 have c3 : ¬ x = Go.bits .xor .i64 y 1 := fun h => hc (by simp [← h])
 unfold spiritlevelref01_Simple.f
 rw [if_neg (fun h => hc (Or.inl h)), if_neg (fun h => hc (Or.inr (Or.inl h))), hn, Option.bind_some]
 simp only [spiritlevelref01_Simple.j0]
 rw [if_neg (by rw [beq_iff_eq]; split; (rename_i h; exact fun h2 => c3 ((hxy.1 h).1 h2)); (rename_i h; exact fun h2 => c3 ((hxy.2 h).1 h2))), if_neg (fun h => hc (by simp [h])), if_neg (fun h => hc (by simp [h])), if_neg (fun h => hc (by simp [h]))]
theorem findG_at {first : Int} {gs : List S55} {p q : Int} {i : Nat} (hi : i < gs.length) (h : (gs[i]).f0 = p ∧ (gs[i]).f1 = q) (hn : ∀ j (hj : j < gs.length), j < i → ¬ ((gs[j]).f0 = p ∧ (gs[j]).f1 = q)) : findG first gs p q = some (2 * (first + (i : Int))) := by
 unfold findG
 have : gs.findIdx? (fun g => decide (g.f0 = p ∧ g.f1 = q)) = some i := by
  rw [List.findIdx?_eq_some_iff_getElem]
  exact ⟨hi, decide_eq_true h, fun j hj => by simpa using hn j (by omega) hj⟩
 rw [this]; rfl
theorem findG_none {first : Int} {gs : List S55} {p q : Int} (hn : ∀ j (hj : j < gs.length), ¬ ((gs[j]).f0 = p ∧ (gs[j]).f1 = q)) : findG first gs p q = none := by
 unfold findG
 have : gs.findIdx? (fun g => decide (g.f0 = p ∧ g.f1 = q)) = none := by
  rw [List.findIdx?_eq_none_iff]
  intro g hg
  obtain ⟨j, hj, rfl⟩ := List.getElem_of_mem hg
  exact decide_eq_false (hn j hj)
 rw [this]; rfl
set_option maxHeartbeats 8000000 in
set_option maxRecDepth 100000 in
theorem made_simple {w W : World} {bo : Nat} (x y l : Int) (hs : spiritlevelref01_Simple.f 2 x y = some (l, true)) :
  Calls Try.prog 99 #[.pointer (some ⟨bo, 0, none⟩), .int .i64 x, .int .i64 y] W fun e W' => e = .returned (.int .i64 l) ∧ Below W.heap.size W W' := by
 have HS := M_ hs
 clear hs
 go_enter Try.func99, Try.ntmps99
 go_wp2_with (go_at_call 110; (with_reducible refine (spiritlevelref01_Simple.calls 2 x y l true _ HS.out).mono ?_); rintro e w1 ⟨rfl, hd⟩; have HB := M_ hd.below; clear hd)
 go_ret
 exact ⟨by first | trivial | rfl | simp, HB.out⟩
theorem alloc_drew_ (w : World) (o : Obj) : (w.alloc o).drew = w.drew.alloc o := rfl
set_option maxHeartbeats 8000000 in
set_option maxRecDepth 100000 in
theorem made_more {P : Nat → Prop} {w W : World} {bo : Nat} {ins : Int} {L : List S45} {gs : List S55} {bads cons : List Int} (h : StO P w W bo ins L gs bads cons) (hf : Few ins L gs bads cons) (x y p q : Int) (hp : mx x y = p) (hq : mn x y = q) (hs : spiritlevelref01_Simple.f 2 x y = some (0, false)) :
  Calls Try.prog 99 #[.pointer (some ⟨bo, 0, none⟩), .int .i64 x, .int .i64 y] W fun e W' => ∃ r, e = .returned (.int .i64 r) ∧ ((findG (ins + (L.length : Int) + 1) gs p q = some r ∧ StO P w W' bo ins L gs bads cons) ∨ (findG (ins + (L.length : Int) + 1) gs p q = none ∧ r = 2 * (ins + (L.length : Int) + 1 + (gs.length : Int)) ∧ StO P w W' bo ins L (gs ++ [⟨p, q⟩]) bads cons)) ∧ KeepO bo W W' := by
 obtain ⟨f0, f1, f2, f3, f4, f5⟩ := hf
 have ep : (if x < y then y else x) = p := hp
 have eq : (if y < x then y else x) = q := hq
 have HS := M_ hs
 have HF := M_ (show 0 ≤ ins ∧ ins ≤ 1000000 ∧ L.length ≤ 1000000 ∧ gs.length ≤ 1000000 ∧ bads.length ≤ 1000000 ∧ cons.length ≤ 1000000 from ⟨f0, f1, f2, f3, f4, f5⟩)
 have HO := M_ h
 have hu26 := Try.underlying26
 have hu67 := Try.underlying55
 have hqe := fun (a b c d : Int) (w : World) => eqlAnd a b c d w
 clear hp hq hs h f0 f1 f2 f3 f4 f5
 go_enter Try.func99, Try.ntmps99
 go_upto_block 0 with (go_at_call 110; (with_reducible refine (spiritlevelref01_Simple.calls 2 x y 0 false _ HS.out).mono ?_); rintro e w1 ⟨rfl, hd⟩; have HB := M_ hd.below; clear hd)
 have HO1 := M_ (HO.out.below (below_alloc HB.out (.cells #[.int .i64 p, .int .i64 q] 55)))
 have HK1 := M_ (KeepO.below (bo := bo) (below_alloc HB.out (.cells #[.int .i64 p, .int .i64 q] 55)))
 have HX1 := M_ (heap_alloc_new w1 (.cells #[.int .i64 p, .int .i64 q] 55))
 have HLT := M_ HO.out.hb.size
 go_cut [] (fun wx => Aside0 (StO P w wx bo ins L gs bads cons) ∧ Aside0 (wx.heap[w1.heap.size]? = some (.cells #[.int .i64 p, .int .i64 q] 55 (0, 0))) ∧ Aside0 (KeepO bo W wx) ∧ Aside0 (findG (ins + (L.length : Int) + 1) gs p q = none))
 case first =>
  go_wp2
  go_loopg [10] (gs.length + 1) (fun kq v10 w' => ∃ (i : Nat), v10 = .int .i64 (i : Int) ∧ Aside0 (i ≤ gs.length ∧ kq + i = gs.length + 1) ∧ Aside0 (∀ j (hj : j < gs.length), j < i → ¬ ((gs[j]).f0 = p ∧ (gs[j]).f1 = q)) ∧ Aside0 (StO P w w' bo ins L gs bads cons) ∧ Aside0 (w'.heap[w1.heap.size]? = some (.cells #[.int .i64 p, .int .i64 q] 55 (0, 0))) ∧ Aside0 (KeepO bo W w'))
  case atStart => exact ⟨0, by simp, ⟨by omega, by omega⟩, ⟨fun j hj h => absurd h (by omega)⟩, HO1, HX1, HK1⟩
  case round =>
   clear HO HO1 HX1 HK1
   obtain ⟨i, rfl, HI, HN, HO, HX, HK⟩ := hrel
   obtain ⟨AL, cL, AA, cA, AB, cB, AC, cC, k3, -, k5, -, -⟩ := HO.out.cells
   have y0 := (blk_cell k3 0).trans (show _ = some (.int .i64 ins) from rfl)
   have y1 := (blk_cell k3 1).trans (show _ = some (.slice AL L.length cL) from rfl)
   have y2 := (blk_cell k3 2).trans (show _ = some (.slice AA gs.length cA) from rfl)
   have x0 := (blk_cell HX.out 0).trans (show _ = some (.int .i64 p) from rfl)
   have x1 := (blk_cell HX.out 1).trans (show _ = some (.int .i64 q) from rfl)
   by_cases c : i < gs.length
   ·have cb : decide (i < gs.length) = true := decide_eq_true c
    have HC := M_ c
    obtain ⟨ad, rfl, hx0, hy0⟩ := at_T55n (Kd.R_reads' k5).2.2 i c
    have hg : rd_T55 gs (i : Int) = gs[i] := by simp [rd_T55, List.getD, c]
    have p0 : (0 : Int) ≤ (i : Int) := by omega
    have p1 : (i : Int) < (gs.length : Int) := by omega
    have HE := M_ (show (gs[i]).f0 = (rd_T55 gs (i : Int)).f0 ∧ (gs[i]).f1 = (rd_T55 gs (i : Int)).f1 by rw [hg]; exact ⟨rfl, rfl⟩)
    generalize (rd_T55 gs (i : Int)).f0 = g0 at hx0 HE
    generalize (rd_T55 gs (i : Int)).f1 = g1 at hy0 HE
    have hF := HF.out
    have e1 : wrap64 (ins + (L.length : Int)) = ins + (L.length : Int) := by unfold wrap64; omega
    have e2 : wrap64 (ins + (L.length : Int) + 1) = ins + (L.length : Int) + 1 := by unfold wrap64; omega
    have e3 : wrap64 (ins + (L.length : Int) + 1 + (i : Int)) = ins + (L.length : Int) + 1 + (i : Int) := by unfold wrap64; omega
    have e4 : wrap64 (2 * (ins + (L.length : Int) + 1 + (i : Int))) = 2 * (ins + (L.length : Int) + 1 + (i : Int)) := by unfold wrap64; omega
    clear k3 k5 hg hF
    cases e : (g0 == p && g1 == q) with
    | true =>
     have HQ := M_ e
     go_wp2
     go_quiet (fail)
     go_wp2
     go_quiet (fail)
     go_wp2
     go_ret
     refine ⟨_, rfl, Or.inl ⟨?_, (by repeat (first | (with_reducible exact HO.out) | (with_reducible refine StO.below ?_ (pw_below_drewN (Below.refl _ _) _)) | (with_reducible refine StO.below ?_ (below_drew (Below.refl _ _)))))⟩, (by repeat (first | (with_reducible exact HK.out) | (with_reducible refine KeepO.trans ?_ (KeepO.below (pw_below_drewN (Below.refl _ _) _))) | (with_reducible refine KeepO.trans ?_ (KeepO.below (below_drew (Below.refl _ _))))))⟩
     have hq := HQ.out
     rw [Bool.and_eq_true, beq_iff_eq, beq_iff_eq] at hq
     have := findG_at (first := ins + (L.length : Int) + 1) (gs := gs) (p := p) (q := q) HC.out ⟨HE.out.1.trans hq.1, HE.out.2.trans hq.2⟩ HN.out
     simpa [e1, e2, e3, e4] using this
    | false =>
     have HQ := M_ e
     go_wp2
     go_quiet (fail)
     go_wp2
     go_roundg (gk - 1)
     case rel =>
      refine ⟨i + 1, congrArg (Value.int .i64) (show wrap64 ((i : Int) + 1) = ((i + 1 : Nat) : Int) by have h1 := HF.out; have h2 := HC.out; unfold wrap64; omega), ⟨by have := HC.out; omega, by have := HI.out; have := HC.out; omega⟩, ⟨fun j hj hji => ?_⟩, ⟨(by repeat (first | (with_reducible exact HO.out) | (with_reducible refine StO.below ?_ (pw_below_drewN (Below.refl _ _) _)) | (with_reducible refine StO.below ?_ (below_drew (Below.refl _ _)))))⟩, ⟨(by repeat (first | (with_reducible exact HX.out) | (with_reducible refine k0_ ?_ _) | (with_reducible refine k1_ ?_)))⟩, ⟨(by repeat (first | (with_reducible exact HK.out) | (with_reducible refine KeepO.trans ?_ (KeepO.below (pw_below_drewN (Below.refl _ _) _))) | (with_reducible refine KeepO.trans ?_ (KeepO.below (below_drew (Below.refl _ _))))))⟩⟩
      rcases Nat.lt_succ_iff_lt_or_eq.1 hji with h | h
      ·exact HN.out j hj h
      ·subst h
       rintro ⟨h1, h2⟩
       rw [HE.out.1] at h1
       rw [HE.out.2] at h2
       have := HQ.out
       simp [h1, h2] at this
     case measure => have := HI.out; have := HC.out; omega
   ·have cb : decide (i < gs.length) = false := decide_eq_false c
    have HNN := M_ (findG_none (first := ins + (L.length : Int) + 1) (gs := gs) (p := p) (q := q) (fun j hj => HN.out j hj (by have := HI.out; omega)))
    clear k3 k5 HN HI c
    go_wp2_with fail
    go_meet
    exact ⟨HO, HX, HK, HNN⟩
 case rest =>
  clear HO HO1 HX1 HK1
  obtain ⟨HO, HX, HK, HNN⟩ := hcut
  have hu23 := Try.underlying23
  have hF := HF.out
  have HL := M_ (show (gs.length + 1) * 16 ≤ 140737488355328 by omega)
  have HSZ := M_ (show spiritlevelref02_Size.f ins L (gs ++ [⟨p, q⟩]) bads cons = some (ins + (L.length : Int) + 1 + (gs.length : Int)) by
   unfold spiritlevelref02_Size.f
   have h1 : wrap64 (ins + (L.length : Int)) = ins + (L.length : Int) := by unfold wrap64; omega
   have h2 : wrap64 (ins + (L.length : Int) + (((gs ++ [⟨p, q⟩] : List S55).length : Nat) : Int)) = ins + (L.length : Int) + 1 + (gs.length : Int) := by
    rw [List.length_append, List.length_singleton]; unfold wrap64; omega
   rw [h1, h2])
  have e4 : wrap64 (2 * (ins + (L.length : Int) + 1 + (gs.length : Int))) = 2 * (ins + (L.length : Int) + 1 + (gs.length : Int)) := by unfold wrap64; omega
  clear hF
  go_upto_region 10 with fail
  go_cut [] (fun wx => Aside0 (StO P w wx bo ins L (gs ++ [⟨p, q⟩]) bads cons) ∧ Aside0 (KeepO bo W wx))
  case first =>
   have HO2 := M_ (HO.out.below (below_drew (Below.refl _ _)))
   obtain ⟨AL, cL, AA, cA, AB, cB, AC, cC, k3, -, k5, -, -⟩ := HO.out.cells
   have z2 := (blk_cell k3 2).trans (show _ = some (.slice AA gs.length cA) from rfl)
   have z2b := (blk_cell (blk_alloc k3 (.cells #[.int .i64 p, .int .i64 q] 55)) 2).trans (show _ = some (.slice AA gs.length cA) from rfl)
   have z2a := (blk_cell (blk_alloc (blk_drew k3) (.cells #[.int .i64 p, .int .i64 q] 55)) 2).trans (show _ = some (.slice AA gs.length cA) from rfl)
   have x0 := (blk_cell HX.out 0).trans (show _ = some (.int .i64 p) from rfl)
   have x1 := (blk_cell HX.out 1).trans (show _ = some (.int .i64 q) from rfl)
   have K5 := M_ (Kd.R_below k5 (below_drew (Below.refl _ _)))
   clear k3 k5
   go_region_law (go_loud ((try rw [alloc_drew_]); refine Kd.R_append_step k55 (w0 := w) (W := wc.drew) w.heap.size (by rfl) (.tmp 62) (.tmp 64) 23 55 _ 16 rfl hu23 info55 rfl (by decide) (by decide) (.slice AA gs.length cA) gs ⟨p, q⟩ [.int .i64 p, .int .i64 q] (fun _ => True) (fun _ => False) rfl (congrArg (fun n_ => Value.slice (some ⟨n_, 0, none⟩) 1 1) (show wc.heap.size = wc.drew.heap.size from rfl)) (k55_mkM _ _ _ ⟨p, q⟩) (fun _ hk => hk.elim) (fun _ _ => trivial) K5.out HO2.out.hb HO2.out.hb.size HL.out ?_; intro v1 w5 hr hb1 hg hat; have HP := M_ (StO.push HO2.out rfl (show wc.drew.cell? ⟨bo, 2, none⟩ = some (.slice AA gs.length cA) from z2) hb1 hg hat hr); obtain ⟨A2, c2, e2⟩ := Kd.R_slice hr; have hm2 : (gs ++ [⟨p, q⟩] : List S55).length = gs.length + 1 := (by simp); rw [hm2] at e2; subst e2; clear hm2 hr hb1 hg hat; obtain ⟨u1, hq1⟩ := StK.pushed HP.out.2.2; have hq2 := StK.pushed2 HP.out.2.2; have HSY := M_ HP.out.1; have HKY := M_ (HK.out.trans ((KeepO.below (below_drew (Below.refl _ _))).trans HP.out.2.1)); clear HP))
   all_goals (go_wp2_with fail; go_meet; exact ⟨HSY, HKY⟩)
  case rest =>
   clear HO HX HK
   obtain ⟨HO, HK⟩ := hcut
   obtain ⟨G, HGe⟩ : ∃ G : List S55, Aside0 (G = gs ++ [⟨p, q⟩]) := ⟨_, ⟨rfl⟩⟩
   rw [← HGe.out] at HO HSZ
   obtain ⟨AL, cL, AA, cA, AB, cB, AC, cC, k3, k4, k5, k6, k7⟩ := HO.out.cells
   have y0 := (blk_cell k3 0).trans (show _ = some (.int .i64 ins) from rfl)
   have y1 := (blk_cell k3 1).trans (show _ = some (.slice AL L.length cL) from rfl)
   have y2 := (blk_cell k3 2).trans (show _ = some (.slice AA G.length cA) from rfl)
   have y3 := (blk_cell k3 3).trans (show _ = some (.slice AB bads.length cB) from rfl)
   have y4 := (blk_cell k3 4).trans (show _ = some (.slice AC cons.length cC) from rfl)
   have R4 := M_ (Kd.R_reads' k4).2
   have R5 := M_ (Kd.R_reads' k5).2
   have R6 := M_ (Kd.R_reads' k6).2
   have R7 := M_ (Kd.R_reads' k7).2
   clear k3 k4 k5 k6 k7
   go_wp2_with (go_at_call 33; (with_reducible refine (spiritlevelref02_Size.calls ins _ _ L _ _ G _ _ bads _ _ cons _ _ ?side1 ?side2 ?side3 ?side4 ?side5 ?side6 ?side7 ?side8 HSZ.out).mono ?_); (case side1 => repeat (first | (with_reducible exact R4.out.2) | (with_reducible refine c0_ ?_ _) | (with_reducible refine c1_ ?_ _) | (with_reducible refine c2_ ?_))); (case side2 => exact R4.out.1); (case side3 => repeat (first | (with_reducible exact R5.out.2) | (with_reducible refine c0_ ?_ _) | (with_reducible refine c1_ ?_ _) | (with_reducible refine c2_ ?_))); (case side4 => exact R5.out.1); (case side5 => repeat (first | (with_reducible exact R6.out.2) | (with_reducible refine c0_ ?_ _) | (with_reducible refine c1_ ?_ _) | (with_reducible refine c2_ ?_))); (case side6 => exact R6.out.1); (case side7 => repeat (first | (with_reducible exact R7.out.2) | (with_reducible refine c0_ ?_ _) | (with_reducible refine c1_ ?_ _) | (with_reducible refine c2_ ?_))); (case side8 => exact R7.out.1); rintro e w6 ⟨rfl, hb⟩; have HO6 := M_ (StO.below (by repeat (first | (with_reducible exact HO.out) | (with_reducible refine StO.below ?_ (pw_below_drewN (Below.refl _ _) _)) | (with_reducible refine StO.below ?_ (below_drew (Below.refl _ _))))) hb); have HK6 := M_ (KeepO.trans (by repeat (first | (with_reducible exact HK.out) | (with_reducible refine KeepO.trans ?_ (KeepO.below (pw_below_drewN (Below.refl _ _) _))) | (with_reducible refine KeepO.trans ?_ (KeepO.below (below_drew (Below.refl _ _)))))) (KeepO.below hb)); clear hb)
   simp only [e4]
   go_ret
   exact ⟨_, rfl, Or.inr ⟨HNN.out, by first | rfl | trivial | simp, by rw [← HGe.out]; exact HO6.out⟩, HK6.out⟩
theorem made_calls {P : Nat → Prop} {w W : World} {bo : Nat} {ins : Int} {L : List S45} {gs : List S55} {bads cons : List Int} (h : StO P w W bo ins L gs bads cons) (hf : Few ins L gs bads cons) (x y : Int) (x0 : 0 ≤ x) (x1 : x ≤ 100000000) (y0 : 0 ≤ y) (y1 : y ≤ 100000000) :
  Calls Try.prog 99 #[.pointer (some ⟨bo, 0, none⟩), .int .i64 x, .int .i64 y] W fun e W' => e = .returned (.int .i64 (andP (ins + (L.length : Int) + 1) gs x y).2) ∧ StO P w W' bo ins L (andP (ins + (L.length : Int) + 1) gs x y).1 bads cons ∧ KeepO bo W W' := by
 by_cases hc : x = 0 ∨ y = 0 ∨ x = Go.bits .xor .i64 y 1 ∨ x = 1 ∨ x = y ∨ y = 1
 ·obtain ⟨hs, he⟩ := simple_true (first := ins + (L.length : Int) + 1) (gs := gs) x0 x1 y0 y1 hc
  refine (made_simple (w := w) x y _ hs).mono ?_
  rintro e W' ⟨rfl, hb⟩
  rw [he]
  exact ⟨rfl, h.below hb, KeepO.below hb⟩
 ·refine (made_more h hf x y _ _ rfl rfl (simple_false x0 x1 y0 y1 hc)).mono ?_
  rintro e W' ⟨r, rfl, hr, hk⟩
  have ea : andP (ins + (L.length : Int) + 1) gs x y = (match findG (ins + (L.length : Int) + 1) gs (mx x y) (mn x y) with | some l => (gs, l) | none => (gs ++ [⟨mx x y, mn x y⟩], 2 * (ins + (L.length : Int) + 1 + (gs.length : Int)))) := by
   unfold andP
   rw [if_neg (fun h => hc (by rcases h with h | h | h <;> simp [h])), if_neg (fun h => hc (by rcases h with h | h <;> simp [h])), if_neg (fun h => hc (by simp [h]))]
   rfl
  rw [ea]
  rcases hr with ⟨hf, hs⟩ | ⟨hf, rfl, hs⟩
  ·rw [hf]; exact ⟨rfl, hs, hk⟩
  ·rw [hf]; exact ⟨rfl, hs, hk⟩

end Go.Proofs.Ytlgoniocoifjjaa.QConstantsPasses
