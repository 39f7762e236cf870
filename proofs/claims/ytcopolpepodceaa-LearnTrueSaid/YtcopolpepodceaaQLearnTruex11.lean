-- Made by wip/myprint.sh (a patched print): a text of this session's own.
import Derived.Test.YtcopolpepodceaaQLearnTruex0
import Derived.Test.YtcopolpepodceaaQLearnTruex6
import Derived.Test.YtcopolpepodceaaQLearnTruex10
namespace Go.Proofs.Ytcopolpepodceaa.QLearnTrue
open Go.RowKit Go.Proofs.YtcopolpepodceaaW.PrintWords Go.Proofs.YtcopolpepodceaaW.PrintLast Go.Proofs.YtcopolpepodceaaW.PrintMore
attribute [local go_sem] max2_int min2_int max_two min_two max_three min_three max_four min_four   -- for this text's walks alone
set_option linter.unusedVariables false
set_option linter.unusedSimpArgs false

/-! ### spiritlevellaw17_LearnTrue: function 7 -/
mutual
def spiritlevellaw17_LearnTrue.j0 : Nat → Int → List (List Int) → List Int → Bool → Bool → Option (Bool)
 | 0, _, _, _, _, _ => none
 | k + 1, x0, x1, x2, x7, x33 => if x33 = true then (some x7) else ((learn_Clause.f k x0 x1 x2).bind fun bt268 => (if bt268.2 = 0 then (spiritlevellaw17_LearnTrue.l0 k x0 x1 x2 x7 bt268.1 0) else (some x7)))
def spiritlevellaw17_LearnTrue.l0 : Nat → Int → List (List Int) → List Int → Bool → List Int → Int → Option (Bool)
 | 0, _, _, _, _, _, _ => none
 | k + 1, x0, x1, x2, x7, x8, x10 => if 0 ≤ (IntKind.u64.wrap (x0)) then (if x10 < (shl .i64 1 (IntKind.u64.wrap (x0))) then ((spiritlevelref13_Values.f k x0 x10).bind fun t272 => (spiritlevellaw17_LearnTrue.l1 k x0 x1 x2 x7 x8 x10 t272 true 0)) else (some x7)) else (none)
def spiritlevellaw17_LearnTrue.l1 : Nat → Int → List (List Int) → List Int → Bool → List Int → Int → List Bool → Bool → Int → Option (Bool)
 | 0, _, _, _, _, _, _, _, _, _ => none
 | k + 1, x0, x1, x2, x7, x8, x10, x11, x12, x13 => if x13 < (x1.length : Int) then (if 0 ≤ x13 then ((clause_True.f k (rd_L2 x1 x13) x11).bind fun bt276 => (if bt276.2 = 0 then (if x12 = true then (spiritlevellaw17_LearnTrue.l1 k x0 x1 x2 x7 x8 x10 x11 bt276.1 (wrap64 (x13 + 1))) else (spiritlevellaw17_LearnTrue.l1 k x0 x1 x2 x7 x8 x10 x11 false (wrap64 (x13 + 1)))) else (some false))) else (none)) else (if x12 = true then ((clause_True.f k x8 x11).bind fun bt278 => (spiritlevellaw17_LearnTrue.l2 k x0 x1 x2 x7 x8 x10 x11 bt278.1 bt278.2 true 0)) else (spiritlevellaw17_LearnTrue.l0 k x0 x1 x2 x7 x8 (wrap64 (x10 + 1))))
def spiritlevellaw17_LearnTrue.l2 : Nat → Int → List (List Int) → List Int → Bool → List Int → Int → List Bool → Bool → Int → Bool → Int → Option (Bool)
 | 0, _, _, _, _, _, _, _, _, _, _, _ => none
 | k + 1, x0, x1, x2, x7, x8, x10, x11, x16, x17, x18, x19 => if x19 < (x2.length : Int) then (if x18 = true then (if 0 ≤ x19 then ((spiritlevelref13_Truth.f (rd x2 x19) x11).bind fun t281 => (spiritlevellaw17_LearnTrue.l2 k x0 x1 x2 x7 x8 x10 x11 x16 x17 t281 (wrap64 (x19 + 1)))) else (none)) else (spiritlevellaw17_LearnTrue.l2 k x0 x1 x2 x7 x8 x10 x11 x16 x17 false (wrap64 (x19 + 1)))) else (if x17 = 0 then (if x16 = true then (if x18 = true then (some false) else (spiritlevellaw17_LearnTrue.l0 k x0 x1 x2 x7 x8 (wrap64 (x10 + 1)))) else (some false)) else (some false))
end
def spiritlevellaw17_LearnTrue.f (k : Nat) (a0 : Int) (l1 : List (List Int)) (l2 : List Int) : Option (Bool) := (spiritlevellaw17_alive.f k).bind fun t266 => ((spiritlevellaw17_fit.f k a0 l1 l2).bind fun t267 => (if t267 = true then (if a0 > 8 then (spiritlevellaw17_LearnTrue.j0 k a0 l1 l2 t266 true) else (spiritlevellaw17_LearnTrue.j0 k a0 l1 l2 t266 (!t266))) else (spiritlevellaw17_LearnTrue.j0 k a0 l1 l2 t266 true)))
theorem spiritlevellaw17_LearnTrue.mono_l : ∀ k, (∀ y0 y1 y2 y3 y4, LeO (spiritlevellaw17_LearnTrue.j0 k y0 y1 y2 y3 y4) (spiritlevellaw17_LearnTrue.j0 (k + 1) y0 y1 y2 y3 y4)) ∧ (∀ y0 y1 y2 y3 y4 y5, LeO (spiritlevellaw17_LearnTrue.l0 k y0 y1 y2 y3 y4 y5) (spiritlevellaw17_LearnTrue.l0 (k + 1) y0 y1 y2 y3 y4 y5)) ∧ (∀ y0 y1 y2 y3 y4 y5 y6 y7 y8, LeO (spiritlevellaw17_LearnTrue.l1 k y0 y1 y2 y3 y4 y5 y6 y7 y8) (spiritlevellaw17_LearnTrue.l1 (k + 1) y0 y1 y2 y3 y4 y5 y6 y7 y8)) ∧ (∀ y0 y1 y2 y3 y4 y5 y6 y7 y8 y9 y10, LeO (spiritlevellaw17_LearnTrue.l2 k y0 y1 y2 y3 y4 y5 y6 y7 y8 y9 y10) (spiritlevellaw17_LearnTrue.l2 (k + 1) y0 y1 y2 y3 y4 y5 y6 y7 y8 y9 y10))
 | 0 => ⟨fun _ _ _ _ _ r h => by simp [spiritlevellaw17_LearnTrue.j0] at h, fun _ _ _ _ _ _ r h => by simp [spiritlevellaw17_LearnTrue.l0] at h, fun _ _ _ _ _ _ _ _ _ r h => by simp [spiritlevellaw17_LearnTrue.l1] at h, fun _ _ _ _ _ _ _ _ _ _ _ r h => by simp [spiritlevellaw17_LearnTrue.l2] at h⟩
 | k + 1 => by
  obtain ⟨ih0, ih1, ih2, ih3⟩ := spiritlevellaw17_LearnTrue.mono_l k
  refine ⟨?_, ?_, ?_, ?_⟩
  ·intro y0 y1 y2 y3 y4
   unfold spiritlevellaw17_LearnTrue.j0
   repeat' first
   | (with_reducible exact ih0 _ _ _ _ _)
   | (with_reducible exact ih1 _ _ _ _ _ _)
   | (with_reducible exact ih2 _ _ _ _ _ _ _ _ _)
   | (with_reducible exact ih3 _ _ _ _ _ _ _ _ _ _ _)
   | (with_reducible exact clause_True.mono _ _ _)
   | (with_reducible exact learn_Clause.mono _ _ _ _)
   | (with_reducible exact spiritlevellaw17_alive.mono _)
   | (with_reducible exact spiritlevellaw17_fit.mono _ _ _ _)
   | (with_reducible exact spiritlevelref13_Values.mono _ _ _)
   | (with_reducible exact LeO.refl _)
   | (with_reducible exact LeO.none _)
   | (with_reducible refine LeO.ite ?_ ?_)
   | (with_reducible refine LeO.bind ?_ (fun _ => ?_))
   | exact ih0 _ _ _ _ _
   | exact ih1 _ _ _ _ _ _
   | exact ih2 _ _ _ _ _ _ _ _ _
   | exact ih3 _ _ _ _ _ _ _ _ _ _ _
   | exact clause_True.mono _ _ _
   | exact learn_Clause.mono _ _ _ _
   | exact spiritlevellaw17_alive.mono _
   | exact spiritlevellaw17_fit.mono _ _ _ _
   | exact spiritlevelref13_Values.mono _ _ _
   | exact LeO.none _
   | refine LeO.ite ?_ ?_
   | refine LeO.bind ?_ (fun _ => ?_)
  ·intro y0 y1 y2 y3 y4 y5
   unfold spiritlevellaw17_LearnTrue.l0
   repeat' first
   | (with_reducible exact ih0 _ _ _ _ _)
   | (with_reducible exact ih1 _ _ _ _ _ _)
   | (with_reducible exact ih2 _ _ _ _ _ _ _ _ _)
   | (with_reducible exact ih3 _ _ _ _ _ _ _ _ _ _ _)
   | (with_reducible exact clause_True.mono _ _ _)
   | (with_reducible exact learn_Clause.mono _ _ _ _)
   | (with_reducible exact spiritlevellaw17_alive.mono _)
   | (with_reducible exact spiritlevellaw17_fit.mono _ _ _ _)
   | (with_reducible exact spiritlevelref13_Values.mono _ _ _)
   | (with_reducible exact LeO.refl _)
   | (with_reducible exact LeO.none _)
   | (with_reducible refine LeO.ite ?_ ?_)
   | (with_reducible refine LeO.bind ?_ (fun _ => ?_))
   | exact ih0 _ _ _ _ _
   | exact ih1 _ _ _ _ _ _
   | exact ih2 _ _ _ _ _ _ _ _ _
   | exact ih3 _ _ _ _ _ _ _ _ _ _ _
   | exact clause_True.mono _ _ _
   | exact learn_Clause.mono _ _ _ _
   | exact spiritlevellaw17_alive.mono _
   | exact spiritlevellaw17_fit.mono _ _ _ _
   | exact spiritlevelref13_Values.mono _ _ _
   | exact LeO.none _
   | refine LeO.ite ?_ ?_
   | refine LeO.bind ?_ (fun _ => ?_)
  ·intro y0 y1 y2 y3 y4 y5 y6 y7 y8
   unfold spiritlevellaw17_LearnTrue.l1
   repeat' first
   | (with_reducible exact ih0 _ _ _ _ _)
   | (with_reducible exact ih1 _ _ _ _ _ _)
   | (with_reducible exact ih2 _ _ _ _ _ _ _ _ _)
   | (with_reducible exact ih3 _ _ _ _ _ _ _ _ _ _ _)
   | (with_reducible exact clause_True.mono _ _ _)
   | (with_reducible exact learn_Clause.mono _ _ _ _)
   | (with_reducible exact spiritlevellaw17_alive.mono _)
   | (with_reducible exact spiritlevellaw17_fit.mono _ _ _ _)
   | (with_reducible exact spiritlevelref13_Values.mono _ _ _)
   | (with_reducible exact LeO.refl _)
   | (with_reducible exact LeO.none _)
   | (with_reducible refine LeO.ite ?_ ?_)
   | (with_reducible refine LeO.bind ?_ (fun _ => ?_))
   | exact ih0 _ _ _ _ _
   | exact ih1 _ _ _ _ _ _
   | exact ih2 _ _ _ _ _ _ _ _ _
   | exact ih3 _ _ _ _ _ _ _ _ _ _ _
   | exact clause_True.mono _ _ _
   | exact learn_Clause.mono _ _ _ _
   | exact spiritlevellaw17_alive.mono _
   | exact spiritlevellaw17_fit.mono _ _ _ _
   | exact spiritlevelref13_Values.mono _ _ _
   | exact LeO.none _
   | refine LeO.ite ?_ ?_
   | refine LeO.bind ?_ (fun _ => ?_)
  ·intro y0 y1 y2 y3 y4 y5 y6 y7 y8 y9 y10
   unfold spiritlevellaw17_LearnTrue.l2
   repeat' first
   | (with_reducible exact ih0 _ _ _ _ _)
   | (with_reducible exact ih1 _ _ _ _ _ _)
   | (with_reducible exact ih2 _ _ _ _ _ _ _ _ _)
   | (with_reducible exact ih3 _ _ _ _ _ _ _ _ _ _ _)
   | (with_reducible exact clause_True.mono _ _ _)
   | (with_reducible exact learn_Clause.mono _ _ _ _)
   | (with_reducible exact spiritlevellaw17_alive.mono _)
   | (with_reducible exact spiritlevellaw17_fit.mono _ _ _ _)
   | (with_reducible exact spiritlevelref13_Values.mono _ _ _)
   | (with_reducible exact LeO.refl _)
   | (with_reducible exact LeO.none _)
   | (with_reducible refine LeO.ite ?_ ?_)
   | (with_reducible refine LeO.bind ?_ (fun _ => ?_))
   | exact ih0 _ _ _ _ _
   | exact ih1 _ _ _ _ _ _
   | exact ih2 _ _ _ _ _ _ _ _ _
   | exact ih3 _ _ _ _ _ _ _ _ _ _ _
   | exact clause_True.mono _ _ _
   | exact learn_Clause.mono _ _ _ _
   | exact spiritlevellaw17_alive.mono _
   | exact spiritlevellaw17_fit.mono _ _ _ _
   | exact spiritlevelref13_Values.mono _ _ _
   | exact LeO.none _
   | refine LeO.ite ?_ ?_
   | refine LeO.bind ?_ (fun _ => ?_)
theorem spiritlevellaw17_LearnTrue.mono : ∀ a0 a1 a2 k, LeO (spiritlevellaw17_LearnTrue.f k a0 a1 a2) (spiritlevellaw17_LearnTrue.f (k + 1) a0 a1 a2) := by
 intro a0 a1 a2 k
 obtain ⟨ih0, ih1, ih2, ih3⟩ := spiritlevellaw17_LearnTrue.mono_l k
 unfold spiritlevellaw17_LearnTrue.f
 repeat' first
   | (with_reducible exact ih0 _ _ _ _ _)
   | (with_reducible exact ih1 _ _ _ _ _ _)
   | (with_reducible exact ih2 _ _ _ _ _ _ _ _ _)
   | (with_reducible exact ih3 _ _ _ _ _ _ _ _ _ _ _)
   | (with_reducible exact clause_True.mono _ _ _)
   | (with_reducible exact learn_Clause.mono _ _ _ _)
   | (with_reducible exact spiritlevellaw17_alive.mono _)
   | (with_reducible exact spiritlevellaw17_fit.mono _ _ _ _)
   | (with_reducible exact spiritlevelref13_Values.mono _ _ _)
   | (with_reducible exact LeO.refl _)
   | (with_reducible exact LeO.none _)
   | (with_reducible refine LeO.ite ?_ ?_)
   | (with_reducible refine LeO.bind ?_ (fun _ => ?_))
   | exact ih0 _ _ _ _ _
   | exact ih1 _ _ _ _ _ _
   | exact ih2 _ _ _ _ _ _ _ _ _
   | exact ih3 _ _ _ _ _ _ _ _ _ _ _
   | exact clause_True.mono _ _ _
   | exact learn_Clause.mono _ _ _ _
   | exact spiritlevellaw17_alive.mono _
   | exact spiritlevellaw17_fit.mono _ _ _ _
   | exact spiritlevelref13_Values.mono _ _ _
   | exact LeO.none _
   | refine LeO.ite ?_ ?_
   | refine LeO.bind ?_ (fun _ => ?_)
set_option maxHeartbeats 8000000 in
set_option maxRecDepth 100000 in
theorem spiritlevellaw17_LearnTrue.calls (k : Nat) (a0 : Int) (A1 : Option Addr) (c1 : Nat) (l1 : List (List Int)) (A2 : Option Addr) (c2 : Nat) (l2 : List Int) (r : Bool) (w : World) (hr1 : Kd.C (Kd.slice 3 (Kd.int .i64)) w A1 l1.length l1) (hc1 : l1.length ≤ c1) (hr2 : Kd.C (Kd.int .i64) w A2 l2.length l2) (hc2 : l2.length ≤ c2) (ht_ : r = true) (h : spiritlevellaw17_LearnTrue.f k a0 l1 l2 = some r) :
  Calls Try.prog 7 #[.int .i64 a0, .slice A1 l1.length c1, .slice A2 l2.length c2] w fun e w' => e = .returned (.bool r) ∧ Below w.heap.size w w' := by
 have HTR_ := M_ ht_
 clear ht_
 have HR1 := M_ hr1
 have HC1 := M_ hc1
 clear hr1 hc1
 have HR2 := M_ hr2
 have HC2 := M_ hc2
 clear hr2 hc2
 have HB := M_ (Below.refl w.heap.size w)
 have H : ((spiritlevellaw17_alive.f k).bind fun t266 => ((spiritlevellaw17_fit.f k a0 l1 l2).bind fun t267 => (if t267 = true then (if a0 > 8 then (spiritlevellaw17_LearnTrue.j0 k a0 l1 l2 t266 true) else (spiritlevellaw17_LearnTrue.j0 k a0 l1 l2 t266 (!t266))) else (spiritlevellaw17_LearnTrue.j0 k a0 l1 l2 t266 true)))) = some r := h
 clear h
 replace H := Option.bind_eq_some_iff.mp H
 obtain ⟨t266, A40, H⟩ := H
 replace H : ((spiritlevellaw17_fit.f k a0 l1 l2).bind fun t267 => (if t267 = true then (if a0 > 8 then (spiritlevellaw17_LearnTrue.j0 k a0 l1 l2 t266 true) else (spiritlevellaw17_LearnTrue.j0 k a0 l1 l2 t266 (!t266))) else (spiritlevellaw17_LearnTrue.j0 k a0 l1 l2 t266 true))) = some r := H
 have A4 := M_ A40
 clear A40
 have HC5 := M_ H
 clear H
 go_enter Try.func7, Try.ntmps7
 go_upto_region 2 with (first | ((with_reducible refine gate_callee (f := 14) rfl ?_); refine goesL_ (some 20) rfl rfl Try.func14 (by kernel_rfl) rfl #[] rfl (by (try simp only [List.map_toArray, List.map_cons, List.map_nil]); first | done | rfl | (simp only [List.length_drop, List.length_take]; rfl)) ?_; (with_reducible refine (spiritlevellaw17_alive.calls k  t266 _ A4.out).mono ?_); rintro e w6 ⟨rfl, hb⟩; refine ⟨_, rfl, ?_⟩; have n0_ := M_ (below_step (by repeat (first | (with_reducible first | exact HB.out | apply b0_ | apply b1_ | apply b2_) | exact HB.out)) hb); clear HB; have HB := n0_; clear n0_; (try clear hb); (try clear hb2); (try clear hk); (try clear hi)))
 (try simp only [Act.put, e1_, e2_, e3_])
 go_cut [33] (fun v33 wc => ∃ (kq : Nat) (x33_4 : Bool), v33 = .bool x33_4 ∧ Aside0 (spiritlevellaw17_LearnTrue.j0 kq a0 l1 l2 t266 x33_4 = some r) ∧ Aside0 (kq ≤ k) ∧ Aside0 (Below w.heap.size w wc))
 case first =>
  have H := HC5.out
  clear HC5
  replace H := Option.bind_eq_some_iff.mp H
  obtain ⟨t267, A70, H⟩ := H
  replace H : (if t267 = true then (if a0 > 8 then (spiritlevellaw17_LearnTrue.j0 k a0 l1 l2 t266 true) else (spiritlevellaw17_LearnTrue.j0 k a0 l1 l2 t266 (!t266))) else (spiritlevellaw17_LearnTrue.j0 k a0 l1 l2 t266 true)) = some r := H
  have A7 := M_ A70
  clear A70
  by_cases c8 : t267 = true
  ·subst c8
   have H1 : (if a0 > 8 then (spiritlevellaw17_LearnTrue.j0 k a0 l1 l2 t266 true) else (spiritlevellaw17_LearnTrue.j0 k a0 l1 l2 t266 (!t266))) = some r := by rw [if_pos rfl] at H; exact H
   clear H
   have H := H1
   clear H1
   by_cases c9 : a0 > 8
   ·rw [if_pos c9] at H
    have c9b0 : decide (8 < a0) = true := decide_eq_true c9
    clear c9
    (first | rw [c9b0] | (simp only [i64_w, i32_w]; rw [c9b0]) | skip)
    have H' := M_ H
    clear H
    go_wp2_with (first | ((with_reducible refine gate_callee (f := 15) rfl ?_); refine goesL_ (some 24) rfl rfl Try.func15 (by kernel_rfl) rfl #[.int .i64 a0, .slice A1 l1.length c1, .slice A2 l2.length c2] rfl (by (try simp only [List.map_toArray, List.map_cons, List.map_nil]); first | done | rfl | (simp only [List.length_drop, List.length_take]; rfl)) ?_; (with_reducible refine (spiritlevellaw17_fit.calls k a0 _ _ l1 _ _ l2 true _ ?side1 ?side2 ?side3 ?side4 A7.out).mono ?_); (case side1 => repeat (first | exact (Kd.C_below HR1.out HB.out) | (with_reducible refine c0_ ?_ _) | (with_reducible refine c1_ ?_ _) | (with_reducible refine c2_ ?_))); (case side2 => exact HC1.out); (case side3 => repeat (first | exact (Kd.C_below HR2.out HB.out) | (with_reducible refine c0_ ?_ _) | (with_reducible refine c1_ ?_ _) | (with_reducible refine c2_ ?_))); (case side4 => exact HC2.out); rintro e w10 ⟨rfl, hb⟩; refine ⟨_, rfl, ?_⟩; have n0_ := M_ (below_step (by repeat (first | (with_reducible first | exact HB.out | apply b0_ | apply b1_ | apply b2_) | exact HB.out)) hb); clear HB; have HB := n0_; clear n0_; (try clear hb); (try clear hb2); (try clear hk); (try clear hi)))
    go_meet
    case rel => exact ⟨_, (true), (by first | rfl | (simp; done) | (simp [*]; done)), H', ⟨by first | omega | exact Nat.le_refl _⟩, ⟨by repeat (first | (with_reducible first | exact HB.out | apply b0_ | apply b1_ | apply b2_) | exact HB.out)⟩⟩
   ·rw [if_neg c9] at H
    have c9b0 : decide (8 < a0) = false := decide_eq_false c9
    clear c9
    (first | rw [c9b0] | (simp only [i64_w, i32_w]; rw [c9b0]) | skip)
    have H' := M_ H
    clear H
    go_wp2_with (first | ((with_reducible refine gate_callee (f := 15) rfl ?_); refine goesL_ (some 24) rfl rfl Try.func15 (by kernel_rfl) rfl #[.int .i64 a0, .slice A1 l1.length c1, .slice A2 l2.length c2] rfl (by (try simp only [List.map_toArray, List.map_cons, List.map_nil]); first | done | rfl | (simp only [List.length_drop, List.length_take]; rfl)) ?_; (with_reducible refine (spiritlevellaw17_fit.calls k a0 _ _ l1 _ _ l2 true _ ?side1 ?side2 ?side3 ?side4 A7.out).mono ?_); (case side1 => repeat (first | exact (Kd.C_below HR1.out HB.out) | (with_reducible refine c0_ ?_ _) | (with_reducible refine c1_ ?_ _) | (with_reducible refine c2_ ?_))); (case side2 => exact HC1.out); (case side3 => repeat (first | exact (Kd.C_below HR2.out HB.out) | (with_reducible refine c0_ ?_ _) | (with_reducible refine c1_ ?_ _) | (with_reducible refine c2_ ?_))); (case side4 => exact HC2.out); rintro e w11 ⟨rfl, hb⟩; refine ⟨_, rfl, ?_⟩; have n0_ := M_ (below_step (by repeat (first | (with_reducible first | exact HB.out | apply b0_ | apply b1_ | apply b2_) | exact HB.out)) hb); clear HB; have HB := n0_; clear n0_; (try clear hb); (try clear hb2); (try clear hk); (try clear hi)))
    go_meet
    case rel => exact ⟨_, (!t266), (by first | rfl | (simp; done) | (simp [*]; done)), H', ⟨by first | omega | exact Nat.le_refl _⟩, ⟨by repeat (first | (with_reducible first | exact HB.out | apply b0_ | apply b1_ | apply b2_) | exact HB.out)⟩⟩
  ·replace c8 := Bool.eq_false_iff.mpr c8
   subst c8
   have H1 : (spiritlevellaw17_LearnTrue.j0 k a0 l1 l2 t266 true) = some r := by rw [if_neg (show ¬ (false = true) by decide)] at H; exact H
   clear H
   have H := H1
   clear H1
   have H' := M_ H
   clear H
   go_wp2_with (first | ((with_reducible refine gate_callee (f := 15) rfl ?_); refine goesL_ (some 24) rfl rfl Try.func15 (by kernel_rfl) rfl #[.int .i64 a0, .slice A1 l1.length c1, .slice A2 l2.length c2] rfl (by (try simp only [List.map_toArray, List.map_cons, List.map_nil]); first | done | rfl | (simp only [List.length_drop, List.length_take]; rfl)) ?_; (with_reducible refine (spiritlevellaw17_fit.calls k a0 _ _ l1 _ _ l2 false _ ?side1 ?side2 ?side3 ?side4 A7.out).mono ?_); (case side1 => repeat (first | exact (Kd.C_below HR1.out HB.out) | (with_reducible refine c0_ ?_ _) | (with_reducible refine c1_ ?_ _) | (with_reducible refine c2_ ?_))); (case side2 => exact HC1.out); (case side3 => repeat (first | exact (Kd.C_below HR2.out HB.out) | (with_reducible refine c0_ ?_ _) | (with_reducible refine c1_ ?_ _) | (with_reducible refine c2_ ?_))); (case side4 => exact HC2.out); rintro e w12 ⟨rfl, hb⟩; refine ⟨_, rfl, ?_⟩; have n0_ := M_ (below_step (by repeat (first | (with_reducible first | exact HB.out | apply b0_ | apply b1_ | apply b2_) | exact HB.out)) hb); clear HB; have HB := n0_; clear n0_; (try clear hb); (try clear hb2); (try clear hk); (try clear hi)))
   go_meet
   case rel => exact ⟨_, (true), (by first | rfl | (simp; done) | (simp [*]; done)), H', ⟨by first | omega | exact Nat.le_refl _⟩, ⟨by repeat (first | (with_reducible first | exact HB.out | apply b0_ | apply b1_ | apply b2_) | exact HB.out)⟩⟩
 case rest =>
  clear HC5
  try clear c1
  try clear c2
  try clear p2
  try clear c7
  try clear c8
  try clear c9
  try clear c9b0
  obtain ⟨kq, x33_4, rfl, HA, HJ4, HB⟩ := hcut
  cases kq with
  | zero => exact absurd HA.out (by simp [spiritlevellaw17_LearnTrue.j0])
  | succ kj4 =>
   have H := HA.out
   clear HA
   simp only [spiritlevellaw17_LearnTrue.j0] at H
   by_cases c13 : x33_4 = true
   ·subst c13
    have H1 : (some t266) = some r := by rw [if_pos rfl] at H; exact H
    clear H
    have H := H1
    clear H1
    obtain rfl := Option.some.inj H
    go_wp2
    go_ret
    exact ⟨by first | rfl | (simp [errW_none, errW_some] <;> rfl) | (simp [*, errW_none, errW_some] <;> rfl), by repeat (first | (with_reducible first | exact HB.out | apply b0_ | apply b1_ | apply b2_) | exact HB.out)⟩
   ·replace c13 := Bool.eq_false_iff.mpr c13
    subst c13
    have H1 : ((learn_Clause.f kj4 a0 l1 l2).bind fun bt268 => (if bt268.2 = 0 then (spiritlevellaw17_LearnTrue.l0 kj4 a0 l1 l2 t266 bt268.1 0) else (some t266))) = some r := by rw [if_neg (show ¬ (false = true) by decide)] at H; exact H
    clear H
    have H := H1
    clear H1
    replace H := Option.bind_eq_some_iff.mp H
    obtain ⟨⟨t268, t269⟩, A140, H⟩ := H
    replace H : (if t269 = 0 then (spiritlevellaw17_LearnTrue.l0 kj4 a0 l1 l2 t266 t268 0) else (some t266)) = some r := H
    have A14 := M_ A140
    clear A140
    by_cases c15 : t269 = 0
    ·rw [if_pos c15] at H
     have c15b0 : (t269 == 0) = true := beq_iff_eq.mpr c15
     have c15b1 : (t269 != 0) = false := bne_eq_false_iff_eq.mpr c15
     clear c15
     have H' := M_ H
     clear H
     go_wp2_with (first | ((with_reducible refine gate_callee (f := 11) rfl ?_); refine goesL_ (some 39) rfl rfl Try.func11 (by kernel_rfl) rfl #[.int .i64 a0, .slice A1 l1.length c1, .slice A2 l2.length c2] rfl (by (try simp only [List.map_toArray, List.map_cons, List.map_nil]); first | done | rfl | (simp only [List.length_drop, List.length_take]; rfl)) ?_; (with_reducible refine (learn_Clause.calls kj4 a0 _ _ l1 _ _ l2 t268 t269 _ ?side1 ?side2 ?side3 ?side4 A14.out).mono ?_); (case side1 => repeat (first | exact (Kd.C_below HR1.out HB.out) | (with_reducible refine c0_ ?_ _) | (with_reducible refine c1_ ?_ _) | (with_reducible refine c2_ ?_))); (case side2 => exact HC1.out); (case side3 => repeat (first | exact (Kd.C_below HR2.out HB.out) | (with_reducible refine c0_ ?_ _) | (with_reducible refine c1_ ?_ _) | (with_reducible refine c2_ ?_))); (case side4 => exact HC2.out); rintro e w16 ⟨v270, rfl, ho0, hb⟩; refine ⟨_, rfl, ?_⟩; have n0_ := M_ (Kd.R_lower ho0 (below_size (by repeat (first | (with_reducible first | exact HB.out | apply b0_ | apply b1_ | apply b2_) | exact HB.out)))); have n1_ := M_ (below_step (by repeat (first | (with_reducible first | exact HB.out | apply b0_ | apply b1_ | apply b2_) | exact HB.out)) hb); clear HB; have HO271 := n0_; have HB := n1_; clear n0_ n1_; (try clear hb); (try clear hb2); (try clear hk); (try clear hi); (try clear ho0)))
     go_loopg [10] kj4 (fun kq v10 w' => ∃ (x10_2 : Int), v10 = .int .i64 x10_2 ∧ Aside0 (spiritlevellaw17_LearnTrue.l0 kq a0 l1 l2 t266 t268 x10_2 = some r) ∧ Aside0 (kq ≤ kj4) ∧ Aside0 (Kd.R (Kd.int .i64) 3 w' w.heap.size (fun _ => True) v270 t268) ∧ Aside0 (Below w.heap.size w w'))
     case atStart => exact ⟨(0), (by first | rfl | (simp; done) | (simp [*]; done)), H', ⟨Nat.le_refl _⟩, ⟨by (with_reducible repeat (first | apply a0_ | apply a1_ | apply a2_)); exact HO271.out⟩, ⟨by repeat (first | (with_reducible first | exact HB.out | apply b0_ | apply b1_ | apply b2_) | exact HB.out)⟩⟩
     case round =>
      clear H'
      try clear c1
      try clear c2
      try clear p2
      try clear c7
      try clear c8
      try clear c9
      try clear c9b0
      try clear c11
      try clear c13
      try clear c14
      try clear c15
      try clear c15b0
      try clear c15b1
      try clear p2
      obtain ⟨x10_2, rfl, HA, HK2, HO_8, HB⟩ := hrel
      cases gk with
      | zero => exact absurd HA.out (by simp [spiritlevellaw17_LearnTrue.l0])
      | succ k2 =>
       have H := HA.out
       clear HA
       simp only [spiritlevellaw17_LearnTrue.l0] at H
       obtain ⟨ji17, hji17⟩ : ∃ j_ : Int, (IntKind.u64.wrap (a0)) = j_ := ⟨_, rfl⟩
       replace H : (if 0 ≤ (ji17) then (if x10_2 < (shl .i64 1 (ji17)) then ((spiritlevelref13_Values.f k2 a0 x10_2).bind fun t272 => (spiritlevellaw17_LearnTrue.l1 k2 a0 l1 l2 t266 t268 x10_2 t272 true 0)) else (some t266)) else (none)) = some r := by first | (rw [hji17] at H; exact H) | (simp only [hji17] at H ⊢; exact H)
       by_cases c18 : 0 ≤ (ji17)
       ·rw [if_pos c18] at H
        have c18b0 := eq_true c18
        have c18b1 : decide (0 ≤ (ji17)) = true := decide_eq_true c18
        clear c18
        obtain ⟨ji19, hji19⟩ : ∃ j_ : Int, (shl .i64 1 (ji17)) = j_ := ⟨_, rfl⟩
        replace H : (if x10_2 < (ji19) then ((spiritlevelref13_Values.f k2 a0 x10_2).bind fun t272 => (spiritlevellaw17_LearnTrue.l1 k2 a0 l1 l2 t266 t268 x10_2 t272 true 0)) else (some t266)) = some r := by first | (rw [hji19] at H; exact H) | (simp only [hji19] at H ⊢; exact H)
        have hji19_ : (IntKind.i64.wrap (1 * 2 ^ min (ji17).toNat 64)) = ji19 := hji19
        have hji19z : (ji17) ≤ 64 → (IntKind.i64.wrap (1 * 2 ^ (ji17).toNat)) = ji19 := shl_small hji19
        have hji19u : (IntKind.i64.wrap (2 ^ min (ji17).toNat 64)) = ji19 := by have h_ := hji19_; rw [Int.one_mul] at h_; exact h_
        have hji19v : (ji17) ≤ 64 → (IntKind.i64.wrap (2 ^ (ji17).toNat)) = ji19 := fun hle_ => by have h_ := hji19z hle_; rw [Int.one_mul] at h_; exact h_
        have hji19y : (wrap64 (1 * 2 ^ min (ji17).toNat 64)) = ji19 := (i64_w _).symm.trans hji19_
        have hji19x : (ji17) ≤ 64 → (wrap64 (1 * 2 ^ (ji17).toNat)) = ji19 := fun h_ => (i64_w _).symm.trans (hji19z h_)
        by_cases c20 : x10_2 < (ji19)
        ·rw [if_pos c20] at H
         have c20b0 : decide (x10_2 < (ji19)) = true := decide_eq_true c20
         clear c20
         replace H := Option.bind_eq_some_iff.mp H
         obtain ⟨t272, A210, H⟩ := H
         replace H : (spiritlevellaw17_LearnTrue.l1 k2 a0 l1 l2 t266 t268 x10_2 t272 true 0) = some r := H
         have A21 := M_ A210
         clear A210
         have H' := M_ H
         clear H
         go_wp2_with (first | ((with_reducible refine gate_callee (f := 21) rfl ?_); refine goesL_ (some 54) rfl rfl Try.func21 (by kernel_rfl) rfl #[.int .i64 a0, .int .i64 x10_2] rfl (by (try simp only [List.map_toArray, List.map_cons, List.map_nil]); first | done | rfl | (simp only [List.length_drop, List.length_take]; rfl)) ?_; (with_reducible refine (spiritlevelref13_Values.calls k2 a0 x10_2 t272 _ A21.out).mono ?_); rintro e w22 ⟨v273, rfl, ho0, hb⟩; refine ⟨_, rfl, ?_⟩; have n0_ := M_ (Kd.R_below (by (with_reducible repeat (first | apply a0_ | apply a1_ | apply a2_)); exact HO_8.out) hb); have n1_ := M_ (Kd.R_lower ho0 (below_size (by repeat (first | (with_reducible first | exact HB.out | apply b0_ | apply b1_ | apply b2_) | exact HB.out)))); have n2_ := M_ (below_step (by repeat (first | (with_reducible first | exact HB.out | apply b0_ | apply b1_ | apply b2_) | exact HB.out)) hb); clear HO_8; clear HB; have HO_8 := n0_; have HO274 := n1_; have HB := n2_; clear n0_ n1_ n2_; (try clear hb); (try clear hb2); (try clear hk); (try clear hi); (try clear ho0)))
         go_loopg [12, 13] k2 (fun kq v12 v13 w' => ∃ (x12_3 : Bool) (x13_3 : Int), v12 = .bool x12_3 ∧ v13 = .int .i64 x13_3 ∧ Aside0 (spiritlevellaw17_LearnTrue.l1 kq a0 l1 l2 t266 t268 x10_2 t272 x12_3 x13_3 = some r) ∧ Aside0 (kq ≤ k2) ∧ Aside0 (Kd.R (Kd.int .i64) 3 w' w.heap.size (fun _ => True) v270 t268) ∧ Aside0 (Kd.R Kd.bool 4 w' w.heap.size (fun _ => True) v273 t272) ∧ Aside0 (Below w.heap.size w w'))
         case atStart => exact ⟨(true), (0), (by first | rfl | (simp; done) | (simp [*]; done)), (by first | rfl | (simp; done) | (simp [*]; done)), H', ⟨Nat.le_refl _⟩, ⟨by (with_reducible repeat (first | apply a0_ | apply a1_ | apply a2_)); exact HO_8.out⟩, ⟨by (with_reducible repeat (first | apply a0_ | apply a1_ | apply a2_)); exact HO274.out⟩, ⟨by repeat (first | (with_reducible first | exact HB.out | apply b0_ | apply b1_ | apply b2_) | exact HB.out)⟩⟩
         case round =>
          clear H'
          try clear c1
          try clear c2
          try clear p2
          try clear p6
          try clear c7
          try clear c8
          try clear c9
          try clear c9b0
          try clear c11
          try clear c13
          try clear c14
          try clear c15
          try clear c15b0
          try clear c15b1
          try clear c18
          try clear c18b0
          try clear c18b1
          try clear c20
          try clear c20b0
          try clear c21
          try clear p2
          obtain ⟨x12_3, x13_3, rfl, rfl, HA, HK3, HO_8, HO_11, HB⟩ := hrel
          cases gk with
          | zero => exact absurd HA.out (by simp [spiritlevellaw17_LearnTrue.l1])
          | succ k3 =>
           have H := HA.out
           clear HA
           simp only [spiritlevellaw17_LearnTrue.l1] at H
           by_cases c23 : x13_3 < (l1.length : Int)
           ·rw [if_pos c23] at H
            have c23b0 : decide (x13_3 < (l1.length : Int)) = true := decide_eq_true c23
            clear c23
            by_cases c24 : 0 ≤ x13_3
            ·rw [if_pos c24] at H
             have c24b0 : decide (0 ≤ x13_3) = true := decide_eq_true c24
             clear c24
             replace H := Option.bind_eq_some_iff.mp H
             obtain ⟨⟨t276, t277⟩, A250, H⟩ := H
             replace H : (if t277 = 0 then (if x12_3 = true then (spiritlevellaw17_LearnTrue.l1 k3 a0 l1 l2 t266 t268 x10_2 t272 t276 (wrap64 (x13_3 + 1))) else (spiritlevellaw17_LearnTrue.l1 k3 a0 l1 l2 t266 t268 x10_2 t272 false (wrap64 (x13_3 + 1)))) else (some false)) = some r := H
             have A25 := M_ A250
             clear A250
             by_cases c26 : t277 = 0
             ·rw [if_pos c26] at H
              have c26b0 : (t277 == 0) = true := beq_iff_eq.mpr c26
              have c26b1 : (t277 != 0) = false := bne_eq_false_iff_eq.mpr c26
              clear c26
              by_cases c27 : x12_3 = true
              ·subst c27
               have H1 : (spiritlevellaw17_LearnTrue.l1 k3 a0 l1 l2 t266 t268 x10_2 t272 t276 (wrap64 (x13_3 + 1))) = some r := by rw [if_pos rfl] at H; exact H
               clear H
               have H := H1
               clear H1
               have H' := M_ H
               clear H
               have p275 : 0 ≤ (x13_3 : Int) := of_decide_eq_true (by first | (with_reducible assumption) | assumption)
               have q275 : x13_3 < (l1.length : Int) := of_decide_eq_true (by first | (with_reducible assumption) | assumption)
               obtain ⟨ad275, A275_0, c275_0, e275, hx275_0, hl275_0, hi275_0⟩ := at_L2 HR1.out x13_3 p275 q275
               cases e275
               replace hx275_0 := (HB.out.cell (World.block_lt_of_cell? w _ hx275_0)).trans hx275_0
               have HR275_0 := M_ hi275_0
               have HC275_0 := M_ hl275_0
               clear hi275_0 hl275_0
               replace p275 := eq_true p275
               replace q275 := eq_true q275
               obtain ⟨Ao28, co28, eo28⟩ := Kd.R_slice HO_11.out
               subst eo28
               go_wp2_with (first | ((with_reducible refine gate_callee (f := 22) rfl ?_); refine goesL_ (some 67) rfl rfl Try.func22 (by kernel_rfl) rfl #[.slice A275_0 (rd_L2 l1 x13_3).length c275_0, .slice Ao28 t272.length co28] rfl (by (try simp only [List.map_toArray, List.map_cons, List.map_nil]); first | done | rfl | (simp only [List.length_drop, List.length_take]; rfl)) ?_; (with_reducible refine (clause_True.calls k3 _ _ (rd_L2 l1 x13_3) _ _ t272 t276 t277 _ ?side1 ?side2 ?side3 ?side4 A25.out).mono ?_); (case side1 => repeat (first | exact (Kd.C_below HR275_0.out HB.out) | (with_reducible refine c0_ ?_ _) | (with_reducible refine c1_ ?_ _) | (with_reducible refine c2_ ?_))); (case side2 => exact HC275_0.out); (case side3 => repeat (first | exact (Kd.R_reads' HO_11.out).2.2 | (with_reducible refine c0_ ?_ _) | (with_reducible refine c1_ ?_ _) | (with_reducible refine c2_ ?_))); (case side4 => exact (Kd.R_reads' HO_11.out).2.1); rintro e w' ⟨rfl, ⟨nd, rfl⟩⟩; refine ⟨_, rfl, ?_⟩))
               go_roundg k3
               case measure => have := HJ4.out; have := HK2.out; have := HK3.out; omega
               case rel => exact ⟨(t276), (wrap64 (x13_3 + 1)), (by first | rfl | (simp; done) | (simp [*]; done)), (by first | rfl | (simp; done) | (simp [*]; done)), H', ⟨by have := HJ4.out; have := HK2.out; have := HK3.out; omega⟩, ⟨by (with_reducible repeat (first | apply a0_ | apply a1_ | apply a2_)); exact HO_8.out⟩, ⟨by (with_reducible repeat (first | apply a0_ | apply a1_ | apply a2_)); exact HO_11.out⟩, ⟨by repeat (first | (with_reducible first | exact HB.out | apply b0_ | apply b1_ | apply b2_) | exact HB.out)⟩⟩
              ·replace c27 := Bool.eq_false_iff.mpr c27
               subst c27
               have H1 : (spiritlevellaw17_LearnTrue.l1 k3 a0 l1 l2 t266 t268 x10_2 t272 false (wrap64 (x13_3 + 1))) = some r := by rw [if_neg (show ¬ (false = true) by decide)] at H; exact H
               clear H
               have H := H1
               clear H1
               have H' := M_ H
               clear H
               have p275 : 0 ≤ (x13_3 : Int) := of_decide_eq_true (by first | (with_reducible assumption) | assumption)
               have q275 : x13_3 < (l1.length : Int) := of_decide_eq_true (by first | (with_reducible assumption) | assumption)
               obtain ⟨ad275, A275_0, c275_0, e275, hx275_0, hl275_0, hi275_0⟩ := at_L2 HR1.out x13_3 p275 q275
               cases e275
               replace hx275_0 := (HB.out.cell (World.block_lt_of_cell? w _ hx275_0)).trans hx275_0
               have HR275_0 := M_ hi275_0
               have HC275_0 := M_ hl275_0
               clear hi275_0 hl275_0
               replace p275 := eq_true p275
               replace q275 := eq_true q275
               obtain ⟨Ao29, co29, eo29⟩ := Kd.R_slice HO_11.out
               subst eo29
               go_wp2_with (first | ((with_reducible refine gate_callee (f := 22) rfl ?_); refine goesL_ (some 67) rfl rfl Try.func22 (by kernel_rfl) rfl #[.slice A275_0 (rd_L2 l1 x13_3).length c275_0, .slice Ao29 t272.length co29] rfl (by (try simp only [List.map_toArray, List.map_cons, List.map_nil]); first | done | rfl | (simp only [List.length_drop, List.length_take]; rfl)) ?_; (with_reducible refine (clause_True.calls k3 _ _ (rd_L2 l1 x13_3) _ _ t272 t276 t277 _ ?side1 ?side2 ?side3 ?side4 A25.out).mono ?_); (case side1 => repeat (first | exact (Kd.C_below HR275_0.out HB.out) | (with_reducible refine c0_ ?_ _) | (with_reducible refine c1_ ?_ _) | (with_reducible refine c2_ ?_))); (case side2 => exact HC275_0.out); (case side3 => repeat (first | exact (Kd.R_reads' HO_11.out).2.2 | (with_reducible refine c0_ ?_ _) | (with_reducible refine c1_ ?_ _) | (with_reducible refine c2_ ?_))); (case side4 => exact (Kd.R_reads' HO_11.out).2.1); rintro e w' ⟨rfl, ⟨nd, rfl⟩⟩; refine ⟨_, rfl, ?_⟩))
               go_roundg k3
               case measure => have := HJ4.out; have := HK2.out; have := HK3.out; omega
               case rel => exact ⟨(false), (wrap64 (x13_3 + 1)), (by first | rfl | (simp; done) | (simp [*]; done)), (by first | rfl | (simp; done) | (simp [*]; done)), H', ⟨by have := HJ4.out; have := HK2.out; have := HK3.out; omega⟩, ⟨by (with_reducible repeat (first | apply a0_ | apply a1_ | apply a2_)); exact HO_8.out⟩, ⟨by (with_reducible repeat (first | apply a0_ | apply a1_ | apply a2_)); exact HO_11.out⟩, ⟨by repeat (first | (with_reducible first | exact HB.out | apply b0_ | apply b1_ | apply b2_) | exact HB.out)⟩⟩
             ·rw [if_neg c26] at H
              have c26b0 : (t277 == 0) = false := beq_eq_false_iff_ne.mpr c26
              have c26b1 : (t277 != 0) = true := bne_iff_ne.mpr c26
              exact absurd ((Option.some.inj H).trans HTR_.out) (by decide)
            ·rw [if_neg c24] at H
             exact absurd H (by simp)
           ·rw [if_neg c23] at H
            have c23b0 : decide (x13_3 < (l1.length : Int)) = false := decide_eq_false c23
            clear c23
            by_cases c30 : x12_3 = true
            ·subst c30
             have H1 : ((clause_True.f k3 t268 t272).bind fun bt278 => (spiritlevellaw17_LearnTrue.l2 k3 a0 l1 l2 t266 t268 x10_2 t272 bt278.1 bt278.2 true 0)) = some r := by rw [if_pos rfl] at H; exact H
             clear H
             have H := H1
             clear H1
             replace H := Option.bind_eq_some_iff.mp H
             obtain ⟨⟨t278, t279⟩, A310, H⟩ := H
             replace H : (spiritlevellaw17_LearnTrue.l2 k3 a0 l1 l2 t266 t268 x10_2 t272 t278 t279 true 0) = some r := H
             have A31 := M_ A310
             clear A310
             have H' := M_ H
             clear H
             obtain ⟨Ao32, co32, eo32⟩ := Kd.R_slice HO_8.out
             subst eo32
             obtain ⟨Ao33, co33, eo33⟩ := Kd.R_slice HO_11.out
             subst eo33
             go_wp2_with (first | ((with_reducible refine gate_callee (f := 22) rfl ?_); refine goesL_ (some 81) rfl rfl Try.func22 (by kernel_rfl) rfl #[.slice Ao32 t268.length co32, .slice Ao33 t272.length co33] rfl (by (try simp only [List.map_toArray, List.map_cons, List.map_nil]); first | done | rfl | (simp only [List.length_drop, List.length_take]; rfl)) ?_; (with_reducible refine (clause_True.calls k3 _ _ t268 _ _ t272 t278 t279 _ ?side1 ?side2 ?side3 ?side4 A31.out).mono ?_); (case side1 => repeat (first | exact (Kd.R_reads' HO_8.out).2.2 | (with_reducible refine c0_ ?_ _) | (with_reducible refine c1_ ?_ _) | (with_reducible refine c2_ ?_))); (case side2 => exact (Kd.R_reads' HO_8.out).2.1); (case side3 => repeat (first | exact (Kd.R_reads' HO_11.out).2.2 | (with_reducible refine c0_ ?_ _) | (with_reducible refine c1_ ?_ _) | (with_reducible refine c2_ ?_))); (case side4 => exact (Kd.R_reads' HO_11.out).2.1); rintro e w' ⟨rfl, ⟨nd, rfl⟩⟩; refine ⟨_, rfl, ?_⟩))
             go_loopg [18, 19] k3 (fun kq v18 v19 w' => ∃ (x18_4 : Bool) (x19_4 : Int), v18 = .bool x18_4 ∧ v19 = .int .i64 x19_4 ∧ Aside0 (spiritlevellaw17_LearnTrue.l2 kq a0 l1 l2 t266 t268 x10_2 t272 t278 t279 x18_4 x19_4 = some r) ∧ Aside0 (kq ≤ k3) ∧ Aside0 (Kd.R (Kd.int .i64) 3 w' w.heap.size (fun _ => True) (.slice Ao32 t268.length co32) t268) ∧ Aside0 (Kd.R Kd.bool 4 w' w.heap.size (fun _ => True) (.slice Ao33 t272.length co33) t272) ∧ Aside0 (Below w.heap.size w w'))
             case atStart => exact ⟨(true), (0), (by first | rfl | (simp; done) | (simp [*]; done)), (by first | rfl | (simp; done) | (simp [*]; done)), H', ⟨Nat.le_refl _⟩, ⟨by (with_reducible repeat (first | apply a0_ | apply a1_ | apply a2_)); exact HO_8.out⟩, ⟨by (with_reducible repeat (first | apply a0_ | apply a1_ | apply a2_)); exact HO_11.out⟩, ⟨by repeat (first | (with_reducible first | exact HB.out | apply b0_ | apply b1_ | apply b2_) | exact HB.out)⟩⟩
             case round =>
              clear H'
              try clear c1
              try clear c2
              try clear p2
              try clear q2
              try clear hx2
              try clear c3
              try clear p6
              try clear c7
              try clear c8
              try clear c9
              try clear c9b0
              try clear c11
              try clear c13
              try clear c14
              try clear c15
              try clear c15b0
              try clear c15b1
              try clear c18
              try clear c18b0
              try clear c18b1
              try clear c20
              try clear c20b0
              try clear c21
              try clear c22
              try clear c23
              try clear c23b0
              try clear c24
              try clear c24b0
              try clear c26
              try clear c26b0
              try clear c26b1
              try clear c27
              try clear p27
              try clear q27
              try clear hx27
              try clear c30
              try clear hx275_0
              try clear p2
              try clear p275
              try clear p6
              try clear q275
              obtain ⟨x18_4, x19_4, rfl, rfl, HA, HK4, HO_8, HO_11, HB⟩ := hrel
              cases gk with
              | zero => exact absurd HA.out (by simp [spiritlevellaw17_LearnTrue.l2])
              | succ k4 =>
               have H := HA.out
               clear HA
               simp only [spiritlevellaw17_LearnTrue.l2] at H
               by_cases c34 : x19_4 < (l2.length : Int)
               ·rw [if_pos c34] at H
                have c34b0 : decide (x19_4 < (l2.length : Int)) = true := decide_eq_true c34
                clear c34
                by_cases c35 : x18_4 = true
                ·subst c35
                 have H1 : (if 0 ≤ x19_4 then ((spiritlevelref13_Truth.f (rd l2 x19_4) t272).bind fun t281 => (spiritlevellaw17_LearnTrue.l2 k4 a0 l1 l2 t266 t268 x10_2 t272 t278 t279 t281 (wrap64 (x19_4 + 1)))) else (none)) = some r := by rw [if_pos rfl] at H; exact H
                 clear H
                 have H := H1
                 clear H1
                 by_cases c36 : 0 ≤ x19_4
                 ·rw [if_pos c36] at H
                  have c36b0 : decide (0 ≤ x19_4) = true := decide_eq_true c36
                  clear c36
                  replace H := Option.bind_eq_some_iff.mp H
                  obtain ⟨t281, A370, H⟩ := H
                  replace H : (spiritlevellaw17_LearnTrue.l2 k4 a0 l1 l2 t266 t268 x10_2 t272 t278 t279 t281 (wrap64 (x19_4 + 1))) = some r := H
                  have A37 := M_ A370
                  clear A370
                  have H' := M_ H
                  clear H
                  have p280 : 0 ≤ (x19_4 : Int) := of_decide_eq_true (by first | (with_reducible assumption) | assumption)
                  have q280 : x19_4 < (l2.length : Int) := of_decide_eq_true (by first | (with_reducible assumption) | assumption)
                  obtain ⟨ad280, e280, hx280_0⟩ := Kd.at_int HR2.out x19_4 p280 q280
                  cases e280
                  replace hx280_0 := (HB.out.cell (World.block_lt_of_cell? w _ hx280_0)).trans hx280_0
                  replace p280 := eq_true p280
                  replace q280 := eq_true q280
                  go_wp2_with (first | (go_at_call 23; (with_reducible refine (spiritlevelref13_Truth.calls (rd l2 x19_4) _ _ t272 t281 _ ?side1 ?side2 A37.out).mono ?_); (case side1 => repeat (first | exact (Kd.R_reads' HO_11.out).2.2 | (with_reducible refine c0_ ?_ _) | (with_reducible refine c1_ ?_ _) | (with_reducible refine c2_ ?_))); (case side2 => exact (Kd.R_reads' HO_11.out).2.1); rintro e w' ⟨rfl, ⟨nd, rfl⟩⟩))
                  go_roundg k4
                  case measure => have := HJ4.out; have := HK2.out; have := HK3.out; have := HK4.out; omega
                  case rel => exact ⟨(t281), (wrap64 (x19_4 + 1)), (by first | rfl | (simp; done) | (simp [*]; done)), (by first | rfl | (simp; done) | (simp [*]; done)), H', ⟨by have := HJ4.out; have := HK2.out; have := HK3.out; have := HK4.out; omega⟩, ⟨by (with_reducible repeat (first | apply a0_ | apply a1_ | apply a2_)); exact HO_8.out⟩, ⟨by (with_reducible repeat (first | apply a0_ | apply a1_ | apply a2_)); exact HO_11.out⟩, ⟨by repeat (first | (with_reducible first | exact HB.out | apply b0_ | apply b1_ | apply b2_) | exact HB.out)⟩⟩
                 ·rw [if_neg c36] at H
                  exact absurd H (by simp)
                ·replace c35 := Bool.eq_false_iff.mpr c35
                 subst c35
                 have H1 : (spiritlevellaw17_LearnTrue.l2 k4 a0 l1 l2 t266 t268 x10_2 t272 t278 t279 false (wrap64 (x19_4 + 1))) = some r := by rw [if_neg (show ¬ (false = true) by decide)] at H; exact H
                 clear H
                 have H := H1
                 clear H1
                 have H' := M_ H
                 clear H
                 go_wp2
                 go_roundg k4
                 case measure => have := HJ4.out; have := HK2.out; have := HK3.out; have := HK4.out; omega
                 case rel => exact ⟨(false), (wrap64 (x19_4 + 1)), (by first | rfl | (simp; done) | (simp [*]; done)), (by first | rfl | (simp; done) | (simp [*]; done)), H', ⟨by have := HJ4.out; have := HK2.out; have := HK3.out; have := HK4.out; omega⟩, ⟨by (with_reducible repeat (first | apply a0_ | apply a1_ | apply a2_)); exact HO_8.out⟩, ⟨by (with_reducible repeat (first | apply a0_ | apply a1_ | apply a2_)); exact HO_11.out⟩, ⟨by repeat (first | (with_reducible first | exact HB.out | apply b0_ | apply b1_ | apply b2_) | exact HB.out)⟩⟩
               ·rw [if_neg c34] at H
                have c34b0 : decide (x19_4 < (l2.length : Int)) = false := decide_eq_false c34
                clear c34
                by_cases c38 : t279 = 0
                ·rw [if_pos c38] at H
                 have c38b0 : (t279 == 0) = true := beq_iff_eq.mpr c38
                 have c38b1 : (t279 != 0) = false := bne_eq_false_iff_eq.mpr c38
                 clear c38
                 by_cases c39 : t278 = true
                 ·subst c39
                  have H1 : (if x18_4 = true then (some false) else (spiritlevellaw17_LearnTrue.l0 k4 a0 l1 l2 t266 t268 (wrap64 (x10_2 + 1)))) = some r := by rw [if_pos rfl] at H; exact H
                  clear H
                  have H := H1
                  clear H1
                  by_cases c40 : x18_4 = true
                  ·subst c40
                   have H1 : (some false) = some r := by rw [if_pos rfl] at H; exact H
                   clear H
                   have H := H1
                   clear H1
                   exact absurd ((Option.some.inj H).trans HTR_.out) (by decide)
                  ·replace c40 := Bool.eq_false_iff.mpr c40
                   subst c40
                   have H1 : (spiritlevellaw17_LearnTrue.l0 k4 a0 l1 l2 t266 t268 (wrap64 (x10_2 + 1))) = some r := by rw [if_neg (show ¬ (false = true) by decide)] at H; exact H
                   clear H
                   have H := H1
                   clear H1
                   have H' := M_ H
                   clear H
                   go_wp2
                   go_roundg k4
                   case measure => have := HJ4.out; have := HK2.out; have := HK3.out; have := HK4.out; omega
                   case rel => exact ⟨(wrap64 (x10_2 + 1)), (by first | rfl | (simp; done) | (simp [*]; done)), H', ⟨by have := HJ4.out; have := HK2.out; have := HK3.out; have := HK4.out; omega⟩, ⟨by (with_reducible repeat (first | apply a0_ | apply a1_ | apply a2_)); exact HO_8.out⟩, ⟨by repeat (first | (with_reducible first | exact HB.out | apply b0_ | apply b1_ | apply b2_) | exact HB.out)⟩⟩
                 ·replace c39 := Bool.eq_false_iff.mpr c39
                  subst c39
                  have H1 : (some false) = some r := by rw [if_neg (show ¬ (false = true) by decide)] at H; exact H
                  clear H
                  have H := H1
                  clear H1
                  exact absurd ((Option.some.inj H).trans HTR_.out) (by decide)
                ·rw [if_neg c38] at H
                 have c38b0 : (t279 == 0) = false := beq_eq_false_iff_ne.mpr c38
                 have c38b1 : (t279 != 0) = true := bne_iff_ne.mpr c38
                 exact absurd ((Option.some.inj H).trans HTR_.out) (by decide)
            ·replace c30 := Bool.eq_false_iff.mpr c30
             subst c30
             have H1 : (spiritlevellaw17_LearnTrue.l0 k3 a0 l1 l2 t266 t268 (wrap64 (x10_2 + 1))) = some r := by rw [if_neg (show ¬ (false = true) by decide)] at H; exact H
             clear H
             have H := H1
             clear H1
             have H' := M_ H
             clear H
             go_wp2
             go_roundg k3
             case measure => have := HJ4.out; have := HK2.out; have := HK3.out; omega
             case rel => exact ⟨(wrap64 (x10_2 + 1)), (by first | rfl | (simp; done) | (simp [*]; done)), H', ⟨by have := HJ4.out; have := HK2.out; have := HK3.out; omega⟩, ⟨by (with_reducible repeat (first | apply a0_ | apply a1_ | apply a2_)); exact HO_8.out⟩, ⟨by repeat (first | (with_reducible first | exact HB.out | apply b0_ | apply b1_ | apply b2_) | exact HB.out)⟩⟩
        ·rw [if_neg c20] at H
         have c20b0 : decide (x10_2 < (ji19)) = false := decide_eq_false c20
         clear c20
         obtain rfl := Option.some.inj H
         go_wp2
         go_ret
         exact ⟨by first | rfl | (simp [errW_none, errW_some] <;> rfl) | (simp only [← hji17, ← hji19]; first | rfl | (simp [errW_none, errW_some] <;> rfl)) | (simp [*, errW_none, errW_some] <;> rfl), by repeat (first | (with_reducible first | exact HB.out | apply b0_ | apply b1_ | apply b2_) | exact HB.out)⟩
       ·rw [if_neg c18] at H
        exact absurd H (by simp)
    ·rw [if_neg c15] at H
     have c15b0 : (t269 == 0) = false := beq_eq_false_iff_ne.mpr c15
     have c15b1 : (t269 != 0) = true := bne_iff_ne.mpr c15
     obtain rfl := Option.some.inj H
     go_wp2_with (first | ((with_reducible refine gate_callee (f := 11) rfl ?_); refine goesL_ (some 39) rfl rfl Try.func11 (by kernel_rfl) rfl #[.int .i64 a0, .slice A1 l1.length c1, .slice A2 l2.length c2] rfl (by (try simp only [List.map_toArray, List.map_cons, List.map_nil]); first | done | rfl | (simp only [List.length_drop, List.length_take]; rfl)) ?_; (with_reducible refine (learn_Clause.calls kj4 a0 _ _ l1 _ _ l2 t268 t269 _ ?side1 ?side2 ?side3 ?side4 A14.out).mono ?_); (case side1 => repeat (first | exact (Kd.C_below HR1.out HB.out) | (with_reducible refine c0_ ?_ _) | (with_reducible refine c1_ ?_ _) | (with_reducible refine c2_ ?_))); (case side2 => exact HC1.out); (case side3 => repeat (first | exact (Kd.C_below HR2.out HB.out) | (with_reducible refine c0_ ?_ _) | (with_reducible refine c1_ ?_ _) | (with_reducible refine c2_ ?_))); (case side4 => exact HC2.out); rintro e w41 ⟨v270, rfl, ho0, hb⟩; refine ⟨_, rfl, ?_⟩; have n0_ := M_ (Kd.R_lower ho0 (below_size (by repeat (first | (with_reducible first | exact HB.out | apply b0_ | apply b1_ | apply b2_) | exact HB.out)))); have n1_ := M_ (below_step (by repeat (first | (with_reducible first | exact HB.out | apply b0_ | apply b1_ | apply b2_) | exact HB.out)) hb); clear HB; have HO271 := n0_; have HB := n1_; clear n0_ n1_; (try clear hb); (try clear hb2); (try clear hk); (try clear hi); (try clear ho0)))
     go_ret
     exact ⟨by first | rfl | (simp [errW_none, errW_some] <;> rfl) | (simp [*, errW_none, errW_some] <;> rfl), by repeat (first | (with_reducible first | exact HB.out | apply b0_ | apply b1_ | apply b2_) | exact HB.out)⟩

/-- THE ONE PURE STATEMENT of spiritlevellaw17_LearnTrue. -/
def spiritlevellaw17_LearnTrue.Pure : Prop := ∀ (a0 : Int) (l1 : List (List Int)) (l2 : List Int), ((Lit.int .i64 a0).wf = true) → (l1.length ≤ 9223372036854775807 ∧ l1.length * 24 ≤ 140737488351232 ∧ ∀ x0_ ∈ l1, x0_.length ≤ 9223372036854775807 ∧ x0_.length * 8 ≤ 140737488351232 ∧ ∀ x1_ ∈ x0_, (Lit.int .i64 x1_).wf = true) → (l2.length ≤ 9223372036854775807 ∧ l2.length * 8 ≤ 140737488351232 ∧ ∀ x0_ ∈ l2, (Lit.int .i64 x0_).wf = true) → ∃ k, spiritlevellaw17_LearnTrue.f k a0 l1 l2 = some true
theorem spiritlevellaw17_LearnTrue.walk (P : spiritlevellaw17_LearnTrue.Pure) (a0 : Int) (A1 : Option Addr) (c1 : Nat) (l1 : List (List Int)) (A2 : Option Addr) (c2 : Nat) (l2 : List Int) (w : World) (hr1 : Kd.C (Kd.slice 3 (Kd.int .i64)) w A1 l1.length l1) (hc1 : l1.length ≤ c1) (hr2 : Kd.C (Kd.int .i64) w A2 l2.length l2) (hc2 : l2.length ≤ c2) (ok0 : (Lit.int .i64 a0).wf = true) (ok1 : l1.length ≤ 9223372036854775807 ∧ l1.length * 24 ≤ 140737488351232 ∧ ∀ x0_ ∈ l1, x0_.length ≤ 9223372036854775807 ∧ x0_.length * 8 ≤ 140737488351232 ∧ ∀ x1_ ∈ x0_, (Lit.int .i64 x1_).wf = true) (ok2 : l2.length ≤ 9223372036854775807 ∧ l2.length * 8 ≤ 140737488351232 ∧ ∀ x0_ ∈ l2, (Lit.int .i64 x0_).wf = true) :
  Calls Try.prog 7 #[.int .i64 a0, .slice A1 l1.length c1, .slice A2 l2.length c2] w fun e w' => e = .returned (.bool true) ∧ Below w.heap.size w w' := by
 obtain ⟨k, h⟩ := P a0 l1 l2 ok0 ok1 ok2
 refine (spiritlevellaw17_LearnTrue.calls k a0 A1 c1 l1 A2 c2 l2 true w hr1 hc1 hr2 hc2 rfl h).mono ?_
 rintro e w' ⟨rfl, hd⟩
 exact ⟨rfl, hd⟩

end Go.Proofs.Ytcopolpepodceaa.QLearnTrue
