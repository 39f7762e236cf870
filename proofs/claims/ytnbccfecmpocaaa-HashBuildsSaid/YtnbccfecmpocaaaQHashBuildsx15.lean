-- Made by wip/myprint.sh (a patched print): a text of this session's own.
import Derived.Test.YtnbccfecmpocaaaLay
import Derived.Test.YtnbccfecmpocaaaQHashBuildsx0
import Derived.Test.YtnbccfecmpocaaaQHashBuildsx8
namespace Go.Proofs.Ytnbccfecmpocaaa.QHashBuilds
open Go.RowKit Go.Proofs.YtnbccfecmpocaaaW.PrintWords Go.Proofs.YtnbccfecmpocaaaW.PrintLast Go.Proofs.YtnbccfecmpocaaaW.PrintMore
attribute [local go_sem] max2_int min2_int max_two min_two max_three min_three max_four min_four   -- for this text's walks alone
set_option linter.unusedVariables false
set_option linter.unusedSimpArgs false

/-! ### spiritlevelref26_None: function 42 -/
def spiritlevelref26_None.l0 : Nat → List Int → Int → Int → List (S86) → List (S67) → List Int → List Int → Option (List Int)
 | 0, _, _, _, _, _, _, _ => none
 | k + 1, x3, x4, x249000, x249001, x249002, x249003, x249004 => (spiritlevelref02_Size.f x249000 x249001 x249002 x249003 x249004).bind fun t249 => (if x4 ≤ t249 then (if x3.length < 17592186044416 then (spiritlevelref26_None.l0 k (x3 ++ [(-1)]) (wrap64 (x4 + 1)) x249000 x249001 x249002 x249003 x249004) else (none)) else (some x3))
def spiritlevelref26_None.f (k : Nat) (a0_0 : Int) (l0_1 : List (S86)) (l0_2 : List (S67)) (l0_3 : List Int) (l0_4 : List Int) : Option (List Int) := spiritlevelref26_None.l0 k ([] : List Int) 0 a0_0 l0_1 l0_2 l0_3 l0_4
theorem spiritlevelref26_None.mono_l : ∀ k, (∀ y0 y1 y2 y3 y4 y5 y6, LeO (spiritlevelref26_None.l0 k y0 y1 y2 y3 y4 y5 y6) (spiritlevelref26_None.l0 (k + 1) y0 y1 y2 y3 y4 y5 y6))
 | 0 => fun _ _ _ _ _ _ _ r h => by simp [spiritlevelref26_None.l0] at h
 | k + 1 => by
  have ih0 := spiritlevelref26_None.mono_l k
  ·intro y0 y1 y2 y3 y4 y5 y6
   unfold spiritlevelref26_None.l0
   repeat' first
   | (with_reducible exact ih0 _ _ _ _ _ _ _)
   | (with_reducible exact LeO.refl _)
   | (with_reducible exact LeO.none _)
   | (with_reducible refine LeO.ite ?_ ?_)
   | (with_reducible refine LeO.bind ?_ (fun _ => ?_))
   | exact ih0 _ _ _ _ _ _ _
   | exact LeO.none _
   | refine LeO.ite ?_ ?_
   | refine LeO.bind ?_ (fun _ => ?_)
theorem spiritlevelref26_None.mono : ∀ a0 a1 a2 a3 a4 k, LeO (spiritlevelref26_None.f k a0 a1 a2 a3 a4) (spiritlevelref26_None.f (k + 1) a0 a1 a2 a3 a4) := by
 intro a0 a1 a2 a3 a4 k
 have ih0 := spiritlevelref26_None.mono_l k
 unfold spiritlevelref26_None.f
 repeat' first
   | (with_reducible exact ih0 _ _ _ _ _ _ _)
   | (with_reducible exact LeO.refl _)
   | (with_reducible exact LeO.none _)
   | (with_reducible refine LeO.ite ?_ ?_)
   | (with_reducible refine LeO.bind ?_ (fun _ => ?_))
   | exact ih0 _ _ _ _ _ _ _
   | exact LeO.none _
   | refine LeO.ite ?_ ?_
   | refine LeO.bind ?_ (fun _ => ?_)
set_option maxHeartbeats 8000000 in
set_option maxRecDepth 100000 in
theorem spiritlevelref26_None.calls (k : Nat) (a0_0 : Int) (A0_1 : Option Addr) (c0_1 : Nat) (l0_1 : List (S86)) (A0_2 : Option Addr) (c0_2 : Nat) (l0_2 : List (S67)) (A0_3 : Option Addr) (c0_3 : Nat) (l0_3 : List Int) (A0_4 : Option Addr) (c0_4 : Nat) (l0_4 : List Int) (r : List Int) (w : World) (hr0_1 : Kd.C k86 w A0_1 l0_1.length l0_1) (hc0_1 : l0_1.length ≤ c0_1) (hr0_2 : Kd.C k67 w A0_2 l0_2.length l0_2) (hc0_2 : l0_2.length ≤ c0_2) (hr0_3 : Kd.C (Kd.int .i64) w A0_3 l0_3.length l0_3) (hc0_3 : l0_3.length ≤ c0_3) (hr0_4 : Kd.C (Kd.int .i64) w A0_4 l0_4.length l0_4) (hc0_4 : l0_4.length ≤ c0_4) (h : spiritlevelref26_None.f k a0_0 l0_1 l0_2 l0_3 l0_4 = some r) :
  Calls Try.prog 42 #[.agg #[.int .i64 a0_0, .slice A0_1 l0_1.length c0_1, .slice A0_2 l0_2.length c0_2, .slice A0_3 l0_3.length c0_3, .slice A0_4 l0_4.length c0_4]] w fun e w' => ∃ v0_ : Value, e = .returned (v0_) ∧ Kd.R (Kd.int .i64) 3 w' w.heap.size (fun _ => True) v0_ r ∧ Below w.heap.size w w' := by
 have hu26 := Try.underlying26
 have HR0_1 := M_ hr0_1
 have HC0_1 := M_ hc0_1
 clear hr0_1 hc0_1
 have HR0_2 := M_ hr0_2
 have HC0_2 := M_ hc0_2
 clear hr0_2 hc0_2
 have HR0_3 := M_ hr0_3
 have HC0_3 := M_ hc0_3
 clear hr0_3 hc0_3
 have HR0_4 := M_ hr0_4
 have HC0_4 := M_ hc0_4
 clear hr0_4 hc0_4
 have HB := M_ (Below.refl w.heap.size w)
 have H : (spiritlevelref26_None.l0 k ([] : List Int) 0 a0_0 l0_1 l0_2 l0_3 l0_4) = some r := h
 clear h
 have H' := M_ H
 clear H
 go_enter Try.func42, Try.ntmps42
 go_wp2_with (first | ((with_reducible refine gate_dst (N := 1) rfl ?_); refine box_event ?hg (N := 1) ?hd (cs := #[.int .i64 a0_0, .slice A0_1 l0_1.length c0_1, .slice A0_2 l0_2.length c0_2, .slice A0_3 l0_3.length c0_3, .slice A0_4 l0_4.length c0_4]) (t := 26) ?hr ?_; (case hd => rfl); (case hg => rfl); (case hr => first | (go_simp; done) | (go_simp; rfl)); intro gb248 hg w2 hbox hb; have n1_ := M_ (hbox); have n2_ := M_ ((by rw [hg]; exact (below_size (wl_ HB.out)) : w.heap.size ≤ gb248)); have n3_ := M_ ((by rw [hg]; exact (below_size (wl_ HB.out)) : w.heap.size ≤ gb248)); replace HB := wb_ HB hb; have BK248 := n1_; have GW248 := n2_; have GE248 := n3_; have gi248 : Ge _ _ := ⟨GE248.out⟩; clear n1_ n2_ n3_; clear hb hbox hg))
 go_loopg [3, 4] k (fun kq v3 v4 w' => ∃ (x3_1 : List Int) (x4_1 : Int), v4 = .int .i64 x4_1 ∧ Aside0 (spiritlevelref26_None.l0 kq x3_1 x4_1 a0_0 l0_1 l0_2 l0_3 l0_4 = some r) ∧ Aside0 (kq ≤ k) ∧ Aside0 (Kd.R (Kd.int .i64) 3 w' w.heap.size (fun _ => True) v3 x3_1) ∧ Aside0 (w'.heap[gb248]? = some (.cells #[.int .i64 a0_0, (.slice A0_1 l0_1.length c0_1), (.slice A0_2 l0_2.length c0_2), (.slice A0_3 l0_3.length c0_3), (.slice A0_4 l0_4.length c0_4)] 26 (0, 0))) ∧ Aside0 (Below w.heap.size w w'))
 case atStart => exact ⟨(([] : List Int)), (0), (by first | rfl | (simp; done) | (simp [*]; done)), H', ⟨Nat.le_refl _⟩, ⟨by first | exact Kd.R_nil _ _ _ _ _ | exact Kd.N_nil _ _ _ _ _ | exact Kd.V_nil _ _ _ _ _ | exact Kd.Q_nil _ _ _ _ _ | exact Kd.S_nil _ _ _ _ _⟩, ⟨by (with_reducible repeat (first | refine blk_drewN ?_ _ | refine blk_drew ?_ | refine blk_alloc ?_ _)); exact BK248.out⟩, ⟨by repeat (first | (with_reducible first | exact HB.out | apply b0_ | apply b1_ | apply b2_ | refine below_set ?_ GE248.out) | exact HB.out)⟩⟩
 case round =>
  clear H'
  try clear p2
  obtain ⟨x3_1, x4_1, rfl, HA, HK1, HO_3, BK248, HB⟩ := hrel
  cases gk with
  | zero => exact absurd HA.out (by simp [spiritlevelref26_None.l0])
  | succ k1 =>
   have H := HA.out
   clear HA
   simp only [spiritlevelref26_None.l0] at H
   replace H := Option.bind_eq_some_iff.mp H
   obtain ⟨t249, A30, H⟩ := H
   replace H : (if x4_1 ≤ t249 then (if x3_1.length < 17592186044416 then (spiritlevelref26_None.l0 k1 (x3_1 ++ [(-1)]) (wrap64 (x4_1 + 1)) a0_0 l0_1 l0_2 l0_3 l0_4) else (none)) else (some x3_1)) = some r := H
   have A3 := M_ A30
   clear A30
   by_cases c4 : x4_1 ≤ t249
   ·rw [if_pos c4] at H
    have c4b0 : decide (x4_1 ≤ t249) = true := decide_eq_true c4
    clear c4
    by_cases c5 : x3_1.length < 17592186044416
    ·rw [if_pos c5] at H
     have LMc5 := M_ c5
     clear c5
     obtain ⟨y250, hy250⟩ : ∃ y_ : List Int, y_ = (x3_1 ++ [(-1)]) := ⟨_, rfl⟩
     replace H : (spiritlevelref26_None.l0 k1 y250 (wrap64 (x4_1 + 1)) a0_0 l0_1 l0_2 l0_3 l0_4) = some r := by first | (rw [hy250]; with_reducible exact H) | (have H2_ := (Option.bind_some _ _).symm.trans H; rw [hy250]; with_reducible exact H2_) | (have H2_ := (Option.bind_some _ _).symm.trans H; with_reducible exact H2_) | with_reducible exact H | (rw [hy250]; exact H) | exact H
     have Ny250 := M_ hy250
     clear hy250
     have H' := M_ H
     clear H
     obtain ⟨hcz6_0, hcz6_1, hcz6_2, hcz6_3, hcz6_4⟩ := cz5_ BK248.out
     obtain ⟨hfz6_0, hfz6_1, hfz6_2, hfz6_3, hfz6_4⟩ := fz5_ BK248.out
     go_wp2_with (first | ((with_reducible refine gate_callee (f := 35) rfl ?_); refine goesL_ (some 7) rfl rfl Try.func35 (by kernel_rfl) rfl #[.agg #[.int .i64 a0_0, .slice A0_1 l0_1.length c0_1, .slice A0_2 l0_2.length c0_2, .slice A0_3 l0_3.length c0_3, .slice A0_4 l0_4.length c0_4]] rfl (by (try simp only [List.map_toArray, List.map_cons, List.map_nil]); first | done | rfl | (simp only [List.length_drop, List.length_take]; rfl)) ?_; (with_reducible refine (spiritlevelref02_Size.calls a0_0 _ _ l0_1 _ _ l0_2 _ _ l0_3 _ _ l0_4 t249 _ ?side1 ?side2 ?side3 ?side4 ?side5 ?side6 ?side7 ?side8 A3.out).mono ?_); (case side1 => exact cl_ (Kd.C_below HR0_1.out HB.out)); (case side2 => exact HC0_1.out); (case side3 => exact cl_ (Kd.C_below HR0_2.out HB.out)); (case side4 => exact HC0_2.out); (case side5 => exact cl_ (Kd.C_below HR0_3.out HB.out)); (case side6 => exact HC0_3.out); (case side7 => exact cl_ (Kd.C_below HR0_4.out HB.out)); (case side8 => exact HC0_4.out); rintro e w7 ⟨rfl, hb⟩; refine ⟨_, rfl, ?_⟩; replace HO_3 := rb_ HO_3 hb; replace BK248 := bb_ BK248 hb; replace HB := wb_ HB hb; (try clear hb); (try clear hb2); (try clear hk); (try clear hi)) | ((with_reducible refine gate_builtin (b := .append) (xs := #[.tmp 11, .tmp 12]) rfl ?_); at_builtin; refine Kd.R_append (Kd.int .i64) (w0 := w) w.heap.size rfl (.tmp 11) (.tmp 12) 24 3 (.int .i64 0) 8 rfl Try.underlying24 info3 rfl (by decide) (by omega) u3 x3_1 (-1) [.int .i64 (-1)] (fun _ => True) (fun _ => False) rfl rfl ?aP (fun _ hk => hk.elim) ?aF ?aO ?aB ?aS ?aL ?_; (case aP => exact rfl); (case aB => exact (ws_ HB.out)); (case aF => exact (fun _ _ => trivial)); (case aO => exact (rl_ HO_3.out)); (case aS => exact (below_size (ws_ HB.out))); (case aL => have := LMc5.out; omega); intro v251 w8 ho hb hg hat; rw [← Ny250.out] at ho; have n0_ := M_ (blk_grown (bl_ BK248.out) hg (Kd.R_ne HO_3.out BK248.out (by decide))); have n1_ := M_ (hb); have n2_ := M_ (ho); clear BK248; clear HB; clear HO_3; have BK248 := n0_; have HB := n1_; have HO252 := n2_; clear n0_ n1_ n2_; clear ho hb hg hat))
     go_roundg k1
     case measure => have := HK1.out; omega
     case rel => exact ⟨(y250), (wrap64 (x4_1 + 1)), (by first | rfl | (simp; done) | (simp [*]; done)), H', ⟨by have := HK1.out; omega⟩, ⟨by (with_reducible repeat (first | apply a0_ | apply a1_ | apply a2_)); exact HO252.out⟩, ⟨by (with_reducible repeat (first | refine blk_drewN ?_ _ | refine blk_drew ?_ | refine blk_alloc ?_ _)); exact BK248.out⟩, ⟨by repeat (first | (with_reducible first | exact HB.out | apply b0_ | apply b1_ | apply b2_ | refine below_set ?_ GE248.out) | exact HB.out)⟩⟩
    ·rw [if_neg c5] at H
     exact absurd H (by simp)
   ·rw [if_neg c4] at H
    have c4b0 : decide (x4_1 ≤ t249) = false := decide_eq_false c4
    clear c4
    obtain rfl := Option.some.inj H
    obtain ⟨hcz9_0, hcz9_1, hcz9_2, hcz9_3, hcz9_4⟩ := cz5_ BK248.out
    obtain ⟨hfz9_0, hfz9_1, hfz9_2, hfz9_3, hfz9_4⟩ := fz5_ BK248.out
    go_wp2_with (first | ((with_reducible refine gate_callee (f := 35) rfl ?_); refine goesL_ (some 7) rfl rfl Try.func35 (by kernel_rfl) rfl #[.agg #[.int .i64 a0_0, .slice A0_1 l0_1.length c0_1, .slice A0_2 l0_2.length c0_2, .slice A0_3 l0_3.length c0_3, .slice A0_4 l0_4.length c0_4]] rfl (by (try simp only [List.map_toArray, List.map_cons, List.map_nil]); first | done | rfl | (simp only [List.length_drop, List.length_take]; rfl)) ?_; (with_reducible refine (spiritlevelref02_Size.calls a0_0 _ _ l0_1 _ _ l0_2 _ _ l0_3 _ _ l0_4 t249 _ ?side1 ?side2 ?side3 ?side4 ?side5 ?side6 ?side7 ?side8 A3.out).mono ?_); (case side1 => exact cl_ (Kd.C_below HR0_1.out HB.out)); (case side2 => exact HC0_1.out); (case side3 => exact cl_ (Kd.C_below HR0_2.out HB.out)); (case side4 => exact HC0_2.out); (case side5 => exact cl_ (Kd.C_below HR0_3.out HB.out)); (case side6 => exact HC0_3.out); (case side7 => exact cl_ (Kd.C_below HR0_4.out HB.out)); (case side8 => exact HC0_4.out); rintro e w10 ⟨rfl, hb⟩; refine ⟨_, rfl, ?_⟩; replace HO_3 := rb_ HO_3 hb; replace BK248 := bb_ BK248 hb; replace HB := wb_ HB hb; (try clear hb); (try clear hb2); (try clear hk); (try clear hi)))
    go_ret
    exact ⟨_, by first | rfl | (simp [errW_none, errW_some] <;> rfl) | (simp [*, errW_none, errW_some] <;> rfl), by (with_reducible repeat (first | apply a0_ | apply a1_ | apply a2_)); exact HO_3.out, by repeat (first | (with_reducible first | exact HB.out | apply b0_ | apply b1_ | apply b2_ | refine below_set ?_ GE248.out) | exact HB.out)⟩

/-! ### spiritlevelref25_True: function 76 -/
def spiritlevelref25_True.f  : Option ((List (S67)) × Int) := some (([] : List (S67)), 1)
set_option maxHeartbeats 8000000 in
set_option maxRecDepth 100000 in
theorem spiritlevelref25_True.calls  (r1 : List (S67)) (r2 : Int) (w : World) (h : spiritlevelref25_True.f  = some (r1, r2)) :
  Calls Try.prog 76 #[] w fun e w' => ∃ v0_ : Value, e = .returned (.agg #[v0_, .int .i64 r2]) ∧ Kd.R k67 67 w' w.heap.size (fun _ => True) v0_ r1 ∧ Below w.heap.size w w' := by
 have hu51 := Try.underlying51
 have HB := M_ (Below.refl w.heap.size w)
 have H : (some (([] : List (S67)), 1)) = some (r1, r2) := h
 clear h
 simp only [Option.some.injEq, Prod.mk.injEq] at H
 obtain ⟨rfl, rfl⟩ := H
 go_enter Try.func76, Try.ntmps76
 go_wp2_with (first | ((with_reducible refine gate_dst (N := 0) rfl ?_); refine box_event ?hg (N := 0) ?hd (cs := #[.slice none 0 0, .int .i64 0]) (t := 51) ?hr ?_; (case hd => rfl); (case hg => rfl); (case hr => first | (go_simp; done) | (go_simp; rfl)); intro gb253 hg w1 hbox hb; have n1_ := M_ (hbox); have n2_ := M_ ((by rw [hg]; exact (below_size (wl_ HB.out)) : w.heap.size ≤ gb253)); have n3_ := M_ ((by rw [hg]; exact (below_size (wl_ HB.out)) : w.heap.size ≤ gb253)); replace HB := wb_ HB hb; have BK253 := n1_; have GW253 := n2_; have GE253 := n3_; have gi253 : Ge _ _ := ⟨GE253.out⟩; clear n1_ n2_ n3_; clear hb hbox hg; have hcz2_0 : w1.cell? ⟨gb253, 0, none⟩ = some (.slice none 0 0) := (blk_cell BK253.out 0).trans rfl; have hcz2_1 : w1.cell? ⟨gb253, 1, none⟩ = some (.int .i64 0) := (blk_cell BK253.out 1).trans rfl; have hfz2_0 := blk_frozen BK253.out 0; have hfz2_1 := blk_frozen BK253.out 1))
 refine bodyPost_ret (results_cell_row rfl _ _ gb253 51 #[.slice none 0 0, .int .i64 1] (0, 0) _ rfl (by (with_reducible repeat (first | refine blk_drewN ?_ _ | refine blk_drew ?_ | refine blk_alloc ?_ _)); refine blk_put (cs := #[.slice none 0 0, .int .i64 0]) ?_ 1 _ rfl; (with_reducible repeat (first | refine blk_drewN ?_ _ | refine blk_drew ?_ | refine blk_alloc ?_ _)); refine blk_put (cs := #[.slice none 0 0, .int .i64 0]) ?_ 0 _ rfl; (with_reducible repeat (first | refine blk_drewN ?_ _ | refine blk_drew ?_ | refine blk_alloc ?_ _)); exact BK253.out) Try.underlying51 rfl (by kernel_rfl)) rfl ?_
 exact ⟨_, by first | rfl | (simp [errW_none, errW_some] <;> rfl) | (simp [*, errW_none, errW_some] <;> rfl), by first | exact Kd.R_nil _ _ _ _ _ | exact Kd.N_nil _ _ _ _ _ | exact Kd.V_nil _ _ _ _ _ | exact Kd.Q_nil _ _ _ _ _ | exact Kd.S_nil _ _ _ _ _, by repeat (first | (with_reducible first | exact HB.out | apply b0_ | apply b1_ | apply b2_ | refine below_set ?_ GE253.out) | exact HB.out)⟩

/-! ### spiritlevelref25_Latch: function 77 -/
def spiritlevelref25_Latch.f (a0_0 : Int) (l0_1 : List (S86)) (l0_2 : List (S67)) (l0_3 : List Int) (l0_4 : List Int) (a1 : Int) : Option (Int) := some (wrap64 (2 * (wrap64 ((wrap64 (a0_0 + 1)) + a1))))
set_option maxHeartbeats 8000000 in
set_option maxRecDepth 100000 in
theorem spiritlevelref25_Latch.calls (a0_0 : Int) (A0_1 : Option Addr) (c0_1 : Nat) (l0_1 : List (S86)) (A0_2 : Option Addr) (c0_2 : Nat) (l0_2 : List (S67)) (A0_3 : Option Addr) (c0_3 : Nat) (l0_3 : List Int) (A0_4 : Option Addr) (c0_4 : Nat) (l0_4 : List Int) (a1 : Int) (r : Int) (w : World) (hr0_1 : Kd.C k86 w A0_1 l0_1.length l0_1) (hc0_1 : l0_1.length ≤ c0_1) (hr0_2 : Kd.C k67 w A0_2 l0_2.length l0_2) (hc0_2 : l0_2.length ≤ c0_2) (hr0_3 : Kd.C (Kd.int .i64) w A0_3 l0_3.length l0_3) (hc0_3 : l0_3.length ≤ c0_3) (hr0_4 : Kd.C (Kd.int .i64) w A0_4 l0_4.length l0_4) (hc0_4 : l0_4.length ≤ c0_4) (h : spiritlevelref25_Latch.f a0_0 l0_1 l0_2 l0_3 l0_4 a1 = some r) :
  Calls Try.prog 77 #[.agg #[.int .i64 a0_0, .slice A0_1 l0_1.length c0_1, .slice A0_2 l0_2.length c0_2, .slice A0_3 l0_3.length c0_3, .slice A0_4 l0_4.length c0_4], .int .i64 a1] w fun e w' => e = .returned (.int .i64 r) ∧ Below w.heap.size w w' := by
 have hu26 := Try.underlying26
 have HR0_1 := M_ hr0_1
 have HC0_1 := M_ hc0_1
 clear hr0_1 hc0_1
 have HR0_2 := M_ hr0_2
 have HC0_2 := M_ hc0_2
 clear hr0_2 hc0_2
 have HR0_3 := M_ hr0_3
 have HC0_3 := M_ hc0_3
 clear hr0_3 hc0_3
 have HR0_4 := M_ hr0_4
 have HC0_4 := M_ hc0_4
 clear hr0_4 hc0_4
 have HB := M_ (Below.refl w.heap.size w)
 have H : (some (wrap64 (2 * (wrap64 ((wrap64 (a0_0 + 1)) + a1))))) = some r := h
 clear h
 obtain rfl := Option.some.inj H
 go_enter Try.func77, Try.ntmps77
 go_wp2_with (first | ((with_reducible refine gate_dst (N := 2) rfl ?_); refine box_event ?hg (N := 2) ?hd (cs := #[.int .i64 a0_0, .slice A0_1 l0_1.length c0_1, .slice A0_2 l0_2.length c0_2, .slice A0_3 l0_3.length c0_3, .slice A0_4 l0_4.length c0_4]) (t := 26) ?hr ?_; (case hd => rfl); (case hg => rfl); (case hr => first | (go_simp; done) | (go_simp; rfl)); intro gb254 hg w3 hbox hb; have n1_ := M_ (hbox); have n2_ := M_ ((by rw [hg]; exact (below_size (wl_ HB.out)) : w.heap.size ≤ gb254)); have n3_ := M_ ((by rw [hg]; exact (below_size (wl_ HB.out)) : w.heap.size ≤ gb254)); replace HB := wb_ HB hb; have BK254 := n1_; have GW254 := n2_; have GE254 := n3_; have gi254 : Ge _ _ := ⟨GE254.out⟩; clear n1_ n2_ n3_; clear hb hbox hg; have hcz4_0 : w3.cell? ⟨gb254, 0, none⟩ = some (.int .i64 a0_0) := (blk_cell BK254.out 0).trans rfl; have hcz4_1 : w3.cell? ⟨gb254, 1, none⟩ = some (.slice A0_1 l0_1.length c0_1) := (blk_cell BK254.out 1).trans rfl; have hcz4_2 : w3.cell? ⟨gb254, 2, none⟩ = some (.slice A0_2 l0_2.length c0_2) := (blk_cell BK254.out 2).trans rfl; have hcz4_3 : w3.cell? ⟨gb254, 3, none⟩ = some (.slice A0_3 l0_3.length c0_3) := (blk_cell BK254.out 3).trans rfl; have hcz4_4 : w3.cell? ⟨gb254, 4, none⟩ = some (.slice A0_4 l0_4.length c0_4) := (blk_cell BK254.out 4).trans rfl; have hfz4_0 := blk_frozen BK254.out 0; have hfz4_1 := blk_frozen BK254.out 1; have hfz4_2 := blk_frozen BK254.out 2; have hfz4_3 := blk_frozen BK254.out 3; have hfz4_4 := blk_frozen BK254.out 4))
 go_ret
 exact ⟨by first | rfl | (simp [errW_none, errW_some] <;> rfl) | (simp [*, errW_none, errW_some] <;> rfl), by repeat (first | (with_reducible first | exact HB.out | apply b0_ | apply b1_ | apply b2_ | refine below_set ?_ GE254.out) | exact HB.out)⟩

end Go.Proofs.Ytnbccfecmpocaaa.QHashBuilds
