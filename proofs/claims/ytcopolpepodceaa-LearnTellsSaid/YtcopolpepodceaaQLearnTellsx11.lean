-- Made by wip/myprint.sh (a patched print): a text of this session's own.
import Derived.Test.YtcopolpepodceaaQLearnTellsx0
import Derived.Test.YtcopolpepodceaaQLearnTellsx3
import Derived.Test.YtcopolpepodceaaQLearnTellsx6
import Derived.Test.YtcopolpepodceaaQLearnTellsx10
namespace Go.Proofs.Ytcopolpepodceaa.QLearnTells
open Go.RowKit Go.Proofs.YtcopolpepodceaaW.PrintWords Go.Proofs.YtcopolpepodceaaW.PrintLast Go.Proofs.YtcopolpepodceaaW.PrintMore
attribute [local go_sem] max2_int min2_int max_two min_two max_three min_three max_four min_four   -- for this text's walks alone
set_option linter.unusedVariables false
set_option linter.unusedSimpArgs false

/-! ### learn_Clause: function 11 -/
mutual
def learn_Clause.l0 : Nat → Int → List (List Int) → List Int → List Int → Int → Int → Option (List Int × Int)
 | 0, _, _, _, _, _, _ => none
 | k + 1, x0, x1, x9, x31, x32, x33 => if x33 < x32 then (if 0 ≤ x33 then (if x33 < (x31.length : Int) then ((slices_Index_int_int.f k x9 (rd x31 x33)).bind fun t232 => ((slices_Clone_int_int.f x9).bind fun t233 => ((slices_Delete_int_int.f t233 t232 (wrap64 (t232 + 1))).bind fun t236 => ((learn_conflict.f k x0 x1 t236).bind fun t239 => (if t239 = true then (learn_Clause.l0 k x0 x1 t236 x31 x32 (wrap64 (x33 + 1))) else (learn_Clause.l0 k x0 x1 x9 x31 x32 (wrap64 (x33 + 1)))))))) else (none)) else (none)) else (learn_Clause.l1 k ([] : List Int) x9 (x9.length : Int) 0)
def learn_Clause.l1 : Nat → List Int → List Int → Int → Int → Option (List Int × Int)
 | 0, _, _, _, _ => none
 | k + 1, x14, x52, x53, x54 => if x54 < x53 then (if 0 ≤ x54 then (if x54 < (x52.length : Int) then (if x14.length < 17592186044416 then (learn_Clause.l1 k (x14 ++ [Go.bits .xor .i64 (rd x52 x54) 1]) x52 x53 (wrap64 (x54 + 1))) else (none)) else (none)) else (none)) else ((slices_Sort_int_int.f x14).bind fun t244 => (some (t244, 0)))
end
def learn_Clause.f (k : Nat) (a0 : Int) (l1 : List (List Int)) (l2 : List Int) : Option (List Int × Int) := (learn_check.f k a0 l1 l2).bind fun t226 => (if t226 = 0 then ((learn_conflict.f k a0 l1 l2).bind fun t227 => (if t227 = true then ((slices_Clone_int_int.f l2).bind fun t228 => (learn_Clause.l0 k a0 l1 t228 l2 (l2.length : Int) 0)) else (some (([] : List Int), 6)))) else (some (([] : List Int), t226)))
theorem learn_Clause.mono_l : ∀ k, (∀ y0 y1 y2 y3 y4 y5, LeO (learn_Clause.l0 k y0 y1 y2 y3 y4 y5) (learn_Clause.l0 (k + 1) y0 y1 y2 y3 y4 y5)) ∧ (∀ y0 y1 y2 y3, LeO (learn_Clause.l1 k y0 y1 y2 y3) (learn_Clause.l1 (k + 1) y0 y1 y2 y3))
 | 0 => ⟨fun _ _ _ _ _ _ r h => by simp [learn_Clause.l0] at h, fun _ _ _ _ r h => by simp [learn_Clause.l1] at h⟩
 | k + 1 => by
  obtain ⟨ih0, ih1⟩ := learn_Clause.mono_l k
  refine ⟨?_, ?_⟩
  ·intro y0 y1 y2 y3 y4 y5
   unfold learn_Clause.l0
   repeat' first
   | (with_reducible exact ih0 _ _ _ _ _ _)
   | (with_reducible exact ih1 _ _ _ _)
   | (with_reducible exact learn_check.mono _ _ _ _)
   | (with_reducible exact learn_conflict.mono _ _ _ _)
   | (with_reducible exact slices_Index_int_int.mono _ _ _)
   | (with_reducible exact LeO.refl _)
   | (with_reducible exact LeO.none _)
   | (with_reducible refine LeO.ite ?_ ?_)
   | (with_reducible refine LeO.bind ?_ (fun _ => ?_))
   | exact ih0 _ _ _ _ _ _
   | exact ih1 _ _ _ _
   | exact learn_check.mono _ _ _ _
   | exact learn_conflict.mono _ _ _ _
   | exact slices_Index_int_int.mono _ _ _
   | exact LeO.none _
   | refine LeO.ite ?_ ?_
   | refine LeO.bind ?_ (fun _ => ?_)
  ·intro y0 y1 y2 y3
   unfold learn_Clause.l1
   repeat' first
   | (with_reducible exact ih0 _ _ _ _ _ _)
   | (with_reducible exact ih1 _ _ _ _)
   | (with_reducible exact learn_check.mono _ _ _ _)
   | (with_reducible exact learn_conflict.mono _ _ _ _)
   | (with_reducible exact slices_Index_int_int.mono _ _ _)
   | (with_reducible exact LeO.refl _)
   | (with_reducible exact LeO.none _)
   | (with_reducible refine LeO.ite ?_ ?_)
   | (with_reducible refine LeO.bind ?_ (fun _ => ?_))
   | exact ih0 _ _ _ _ _ _
   | exact ih1 _ _ _ _
   | exact learn_check.mono _ _ _ _
   | exact learn_conflict.mono _ _ _ _
   | exact slices_Index_int_int.mono _ _ _
   | exact LeO.none _
   | refine LeO.ite ?_ ?_
   | refine LeO.bind ?_ (fun _ => ?_)
theorem learn_Clause.mono : ∀ a0 a1 a2 k, LeO (learn_Clause.f k a0 a1 a2) (learn_Clause.f (k + 1) a0 a1 a2) := by
 intro a0 a1 a2 k
 obtain ⟨ih0, ih1⟩ := learn_Clause.mono_l k
 unfold learn_Clause.f
 repeat' first
   | (with_reducible exact ih0 _ _ _ _ _ _)
   | (with_reducible exact ih1 _ _ _ _)
   | (with_reducible exact learn_check.mono _ _ _ _)
   | (with_reducible exact learn_conflict.mono _ _ _ _)
   | (with_reducible exact slices_Index_int_int.mono _ _ _)
   | (with_reducible exact LeO.refl _)
   | (with_reducible exact LeO.none _)
   | (with_reducible refine LeO.ite ?_ ?_)
   | (with_reducible refine LeO.bind ?_ (fun _ => ?_))
   | exact ih0 _ _ _ _ _ _
   | exact ih1 _ _ _ _
   | exact learn_check.mono _ _ _ _
   | exact learn_conflict.mono _ _ _ _
   | exact slices_Index_int_int.mono _ _ _
   | exact LeO.none _
   | refine LeO.ite ?_ ?_
   | refine LeO.bind ?_ (fun _ => ?_)
set_option maxHeartbeats 8000000 in
set_option maxRecDepth 100000 in
theorem learn_Clause.calls (k : Nat) (a0 : Int) (A1 : Option Addr) (c1 : Nat) (l1 : List (List Int)) (A2 : Option Addr) (c2 : Nat) (l2 : List Int) (r1 : List Int) (r2 : Int) (w : World) (hr1 : Kd.C (Kd.slice 3 (Kd.int .i64)) w A1 l1.length l1) (hc1 : l1.length ≤ c1) (hr2 : Kd.C (Kd.int .i64) w A2 l2.length l2) (hc2 : l2.length ≤ c2) (h : learn_Clause.f k a0 l1 l2 = some (r1, r2)) :
  Calls Try.prog 11 #[.int .i64 a0, .slice A1 l1.length c1, .slice A2 l2.length c2] w fun e w' => ∃ v0_ : Value, e = .returned (.tuple #[v0_, .int .i64 r2]) ∧ Kd.R (Kd.int .i64) 3 w' w.heap.size (fun _ => True) v0_ r1 ∧ Below w.heap.size w w' := by
 have HR1 := M_ hr1
 have HC1 := M_ hc1
 clear hr1 hc1
 have HR2 := M_ hr2
 have HC2 := M_ hc2
 clear hr2 hc2
 have HB := M_ (Below.refl w.heap.size w)
 have H : ((learn_check.f k a0 l1 l2).bind fun t226 => (if t226 = 0 then ((learn_conflict.f k a0 l1 l2).bind fun t227 => (if t227 = true then ((slices_Clone_int_int.f l2).bind fun t228 => (learn_Clause.l0 k a0 l1 t228 l2 (l2.length : Int) 0)) else (some (([] : List Int), 6)))) else (some (([] : List Int), t226)))) = some (r1, r2) := h
 clear h
 replace H := Option.bind_eq_some_iff.mp H
 obtain ⟨t226, A40, H⟩ := H
 replace H : (if t226 = 0 then ((learn_conflict.f k a0 l1 l2).bind fun t227 => (if t227 = true then ((slices_Clone_int_int.f l2).bind fun t228 => (learn_Clause.l0 k a0 l1 t228 l2 (l2.length : Int) 0)) else (some (([] : List Int), 6)))) else (some (([] : List Int), t226))) = some (r1, r2) := H
 have A4 := M_ A40
 clear A40
 by_cases c5 : t226 = 0
 ·rw [if_pos c5] at H
  have c5b0 : (t226 == 0) = true := beq_iff_eq.mpr c5
  have c5b1 : (t226 != 0) = false := bne_eq_false_iff_eq.mpr c5
  clear c5
  replace H := Option.bind_eq_some_iff.mp H
  obtain ⟨t227, A60, H⟩ := H
  replace H : (if t227 = true then ((slices_Clone_int_int.f l2).bind fun t228 => (learn_Clause.l0 k a0 l1 t228 l2 (l2.length : Int) 0)) else (some (([] : List Int), 6))) = some (r1, r2) := H
  have A6 := M_ A60
  clear A60
  by_cases c7 : t227 = true
  ·subst c7
   have H1 : ((slices_Clone_int_int.f l2).bind fun t228 => (learn_Clause.l0 k a0 l1 t228 l2 (l2.length : Int) 0)) = some (r1, r2) := by rw [if_pos rfl] at H; exact H
   clear H
   have H := H1
   clear H1
   replace H := Option.bind_eq_some_iff.mp H
   obtain ⟨t228, A80, H⟩ := H
   replace H : (learn_Clause.l0 k a0 l1 t228 l2 (l2.length : Int) 0) = some (r1, r2) := H
   have A8 := M_ A80
   clear A80
   have H' := M_ H
   clear H
   go_enter Try.func11, Try.ntmps11
   go_wp2_with (first | ((with_reducible refine gate_callee (f := 25) rfl ?_); refine goesL_ (some 20) rfl rfl Try.func25 (by kernel_rfl) rfl #[.int .i64 a0, .slice A1 l1.length c1, .slice A2 l2.length c2] rfl (by (try simp only [List.map_toArray, List.map_cons, List.map_nil]); first | done | rfl | (simp only [List.length_drop, List.length_take]; rfl)) ?_; (with_reducible refine (learn_check.calls k a0 _ _ l1 _ _ l2 t226 _ ?side1 ?side2 ?side3 ?side4 A4.out).mono ?_); (case side1 => repeat (first | exact HR1.out | (with_reducible refine c0_ ?_ _) | (with_reducible refine c1_ ?_ _) | (with_reducible refine c2_ ?_))); (case side2 => exact HC1.out); (case side3 => repeat (first | exact HR2.out | (with_reducible refine c0_ ?_ _) | (with_reducible refine c1_ ?_ _) | (with_reducible refine c2_ ?_))); (case side4 => exact HC2.out); rintro e w9 ⟨rfl, hb⟩; refine ⟨_, rfl, ?_⟩; have n0_ := M_ (below_step (by repeat (first | (with_reducible first | exact HB.out | apply b0_ | apply b1_ | apply b2_) | exact HB.out)) hb); clear HB; have HB := n0_; clear n0_; (try clear hb); (try clear hb2); (try clear hk); (try clear hi)) | ((with_reducible refine gate_callee (f := 26) rfl ?_); refine goesL_ (some 27) rfl rfl Try.func26 (by kernel_rfl) rfl #[.int .i64 a0, .slice A1 l1.length c1, .slice A2 l2.length c2] rfl (by (try simp only [List.map_toArray, List.map_cons, List.map_nil]); first | done | rfl | (simp only [List.length_drop, List.length_take]; rfl)) ?_; (with_reducible refine (learn_conflict.calls k a0 _ _ l1 _ _ l2 true _ ?side1 ?side2 ?side3 ?side4 A6.out).mono ?_); (case side1 => repeat (first | exact (Kd.C_below HR1.out HB.out) | (with_reducible refine c0_ ?_ _) | (with_reducible refine c1_ ?_ _) | (with_reducible refine c2_ ?_))); (case side2 => exact HC1.out); (case side3 => repeat (first | exact (Kd.C_below HR2.out HB.out) | (with_reducible refine c0_ ?_ _) | (with_reducible refine c1_ ?_ _) | (with_reducible refine c2_ ?_))); (case side4 => exact HC2.out); rintro e w10 ⟨rfl, hb⟩; refine ⟨_, rfl, ?_⟩; have n0_ := M_ (below_step (by repeat (first | (with_reducible first | exact HB.out | apply b0_ | apply b1_ | apply b2_) | exact HB.out)) hb); clear HB; have HB := n0_; clear n0_; (try clear hb); (try clear hb2); (try clear hk); (try clear hi)) | ((with_reducible refine gate_callee (f := 29) rfl ?_); refine goesL_ (some 30) rfl rfl Try.func29 (by kernel_rfl) rfl #[.slice A2 l2.length c2] rfl (by (try simp only [List.map_toArray, List.map_cons, List.map_nil]); first | done | rfl | (simp only [List.length_drop, List.length_take]; rfl)) ?_; (with_reducible refine (slices_Clone_int_int.calls _ _ l2 t228 _ ?side1 ?side2 A8.out).mono ?_); (case side1 => repeat (first | exact (Kd.C_below HR2.out HB.out) | (with_reducible refine c0_ ?_ _) | (with_reducible refine c1_ ?_ _) | (with_reducible refine c2_ ?_))); (case side2 => exact HC2.out); rintro e w11 ⟨v229, rfl, ho0, hb⟩; refine ⟨_, rfl, ?_⟩; have n0_ := M_ (Kd.R_lower ho0 (below_size (by repeat (first | (with_reducible first | exact HB.out | apply b0_ | apply b1_ | apply b2_) | exact HB.out)))); have n1_ := M_ (below_step (by repeat (first | (with_reducible first | exact HB.out | apply b0_ | apply b1_ | apply b2_) | exact HB.out)) hb); clear HB; have HO230 := n0_; have HB := n1_; clear n0_ n1_; (try clear hb); (try clear hb2); (try clear hk); (try clear hi); (try clear ho0)))
   go_loopg [9, 33] k (fun kq v9 v33 w' => ∃ (x9_1 : List Int) (x33_1 : Int), v33 = .int .i64 x33_1 ∧ Aside0 (learn_Clause.l0 kq a0 l1 x9_1 l2 (l2.length : Int) x33_1 = some (r1, r2)) ∧ Aside0 (kq ≤ k) ∧ Aside0 (Kd.R (Kd.int .i64) 3 w' w.heap.size (fun _ => True) v9 x9_1) ∧ Aside0 (Below w.heap.size w w'))
   case atStart => exact ⟨(t228), (0), (by first | rfl | (simp; done) | (simp [*]; done)), H', ⟨Nat.le_refl _⟩, ⟨by (with_reducible repeat (first | apply a0_ | apply a1_ | apply a2_)); exact HO230.out⟩, ⟨by repeat (first | (with_reducible first | exact HB.out | apply b0_ | apply b1_ | apply b2_) | exact HB.out)⟩⟩
   case round =>
    clear H'
    try clear c1
    try clear c2
    try clear p2
    try clear c5
    try clear c5b0
    try clear c5b1
    try clear c7
    try clear c11
    obtain ⟨x9_1, x33_1, rfl, HA, HK1, HO_9, HB⟩ := hrel
    cases gk with
    | zero => exact absurd HA.out (by simp [learn_Clause.l0])
    | succ k1 =>
     have H := HA.out
     clear HA
     simp only [learn_Clause.l0] at H
     by_cases c12 : x33_1 < (l2.length : Int)
     ·rw [if_pos c12] at H
      have c12b0 : decide (x33_1 < (l2.length : Int)) = true := decide_eq_true c12
      clear c12
      by_cases c13 : 0 ≤ x33_1
      ·rw [if_pos c13] at H
       have c13b0 : decide (0 ≤ x33_1) = true := decide_eq_true c13
       clear c13
       by_cases c14 : x33_1 < (l2.length : Int)
       ·rw [if_pos c14] at H
        have c14b0 : decide (x33_1 < (l2.length : Int)) = true := decide_eq_true c14
        clear c14
        replace H := Option.bind_eq_some_iff.mp H
        obtain ⟨t232, A150, H⟩ := H
        replace H : ((slices_Clone_int_int.f x9_1).bind fun t233 => ((slices_Delete_int_int.f t233 t232 (wrap64 (t232 + 1))).bind fun t236 => ((learn_conflict.f k1 a0 l1 t236).bind fun t239 => (if t239 = true then (learn_Clause.l0 k1 a0 l1 t236 l2 (l2.length : Int) (wrap64 (x33_1 + 1))) else (learn_Clause.l0 k1 a0 l1 x9_1 l2 (l2.length : Int) (wrap64 (x33_1 + 1))))))) = some (r1, r2) := H
        have A15 := M_ A150
        clear A150
        replace H := Option.bind_eq_some_iff.mp H
        obtain ⟨t233, A160, H⟩ := H
        replace H : ((slices_Delete_int_int.f t233 t232 (wrap64 (t232 + 1))).bind fun t236 => ((learn_conflict.f k1 a0 l1 t236).bind fun t239 => (if t239 = true then (learn_Clause.l0 k1 a0 l1 t236 l2 (l2.length : Int) (wrap64 (x33_1 + 1))) else (learn_Clause.l0 k1 a0 l1 x9_1 l2 (l2.length : Int) (wrap64 (x33_1 + 1)))))) = some (r1, r2) := H
        have A16 := M_ A160
        clear A160
        replace H := Option.bind_eq_some_iff.mp H
        obtain ⟨t236, A170, H⟩ := H
        replace H : ((learn_conflict.f k1 a0 l1 t236).bind fun t239 => (if t239 = true then (learn_Clause.l0 k1 a0 l1 t236 l2 (l2.length : Int) (wrap64 (x33_1 + 1))) else (learn_Clause.l0 k1 a0 l1 x9_1 l2 (l2.length : Int) (wrap64 (x33_1 + 1))))) = some (r1, r2) := H
        have A17 := M_ A170
        clear A170
        replace H := Option.bind_eq_some_iff.mp H
        obtain ⟨t239, A180, H⟩ := H
        replace H : (if t239 = true then (learn_Clause.l0 k1 a0 l1 t236 l2 (l2.length : Int) (wrap64 (x33_1 + 1))) else (learn_Clause.l0 k1 a0 l1 x9_1 l2 (l2.length : Int) (wrap64 (x33_1 + 1)))) = some (r1, r2) := H
        have A18 := M_ A180
        clear A180
        by_cases c19 : t239 = true
        ·subst c19
         have H1 : (learn_Clause.l0 k1 a0 l1 t236 l2 (l2.length : Int) (wrap64 (x33_1 + 1))) = some (r1, r2) := by rw [if_pos rfl] at H; exact H
         clear H
         have H := H1
         clear H1
         have H' := M_ H
         clear H
         have p231 : 0 ≤ (x33_1 : Int) := of_decide_eq_true (by first | (with_reducible assumption) | assumption)
         have q231 : x33_1 < (l2.length : Int) := of_decide_eq_true (by first | (with_reducible assumption) | assumption)
         obtain ⟨ad231, e231, hx231_0⟩ := Kd.at_int HR2.out x33_1 p231 q231
         cases e231
         replace hx231_0 := (HB.out.cell (World.block_lt_of_cell? w _ hx231_0)).trans hx231_0
         replace p231 := eq_true p231
         replace q231 := eq_true q231
         obtain ⟨Ao20, co20, eo20⟩ := Kd.R_slice HO_9.out
         subst eo20
         go_wp2_with (first | ((with_reducible refine gate_callee (f := 30) rfl ?_); refine goesL_ (some 39) rfl rfl Try.func30 (by kernel_rfl) rfl #[.slice Ao20 x9_1.length co20, .int .i64 (rd l2 x33_1)] rfl (by (try simp only [List.map_toArray, List.map_cons, List.map_nil]); first | done | rfl | (simp only [List.length_drop, List.length_take]; rfl)) ?_; (with_reducible refine (slices_Index_int_int.calls k1 _ _ x9_1 (rd l2 x33_1) t232 _ ?side1 ?side2 A15.out).mono ?_); (case side1 => repeat (first | exact (Kd.R_reads' HO_9.out).2.2 | (with_reducible refine c0_ ?_ _) | (with_reducible refine c1_ ?_ _) | (with_reducible refine c2_ ?_))); (case side2 => exact (Kd.R_reads' HO_9.out).2.1); rintro e w' ⟨rfl, ⟨nd, rfl⟩⟩; refine ⟨_, rfl, ?_⟩) | ((with_reducible refine gate_callee (f := 29) rfl ?_); refine goesL_ (some 41) rfl rfl Try.func29 (by kernel_rfl) rfl #[.slice Ao20 x9_1.length co20] rfl (by (try simp only [List.map_toArray, List.map_cons, List.map_nil]); first | done | rfl | (simp only [List.length_drop, List.length_take]; rfl)) ?_; (with_reducible refine (slices_Clone_int_int.calls _ _ x9_1 t233 _ ?side1 ?side2 A16.out).mono ?_); (case side1 => repeat (first | exact (Kd.R_reads' HO_9.out).2.2 | (with_reducible refine c0_ ?_ _) | (with_reducible refine c1_ ?_ _) | (with_reducible refine c2_ ?_))); (case side2 => exact (Kd.R_reads' HO_9.out).2.1); rintro e w21 ⟨v234, rfl, ho0, hb⟩; refine ⟨_, rfl, ?_⟩; have n0_ := M_ (Kd.R_elder' (by (with_reducible repeat (first | apply a0_ | apply a1_ | apply a2_)); exact HO_9.out) (Kd.R_base ho0) hb); have n1_ := M_ (Kd.R_lower (Kd.R_new' ho0 (Kd.R_lt (by (with_reducible repeat (first | apply a0_ | apply a1_ | apply a2_)); exact HO_9.out))) (below_size (by repeat (first | (with_reducible first | exact HB.out | apply b0_ | apply b1_ | apply b2_) | exact HB.out)))); have n2_ := M_ (below_step (by repeat (first | (with_reducible first | exact HB.out | apply b0_ | apply b1_ | apply b2_) | exact HB.out)) hb); clear HO_9; clear HB; have HO_9 := n0_; have HO235 := n1_; have HB := n2_; clear n0_ n1_ n2_; (try clear hb); (try clear hb2); (try clear hk); (try clear hi); (try clear ho0); obtain ⟨Ao22, co22, eo22⟩ := Kd.R_slice HO235.out; subst eo22) | ((with_reducible refine gate_callee (f := 31) rfl ?_); refine goesL_ (some 45) rfl rfl Try.func31 (by kernel_rfl) rfl #[.slice Ao22 t233.length co22, .int .i64 t232, .int .i64 (wrap64 (t232 + 1))] rfl (by (try simp only [List.map_toArray, List.map_cons, List.map_nil]); first | done | rfl | (simp only [List.length_drop, List.length_take]; rfl)) ?_; (with_reducible refine (slices_Delete_int_int.calls (fun k_ => some k_ = (.slice Ao22 t233.length co22 : Value).ownBlock) (.slice Ao22 t233.length co22) t233 t232 (wrap64 (t232 + 1)) t236 w _ ?side1 ?side2 A17.out).mono ?_); (case side1 => repeat (first | (with_reducible first | exact HB.out | apply b0_ | apply b1_ | apply b2_) | exact HB.out)); (case side2 => exact Kd.R_tight rfl HO235.out); rintro e w23 ⟨v237, rfl, ho0, hb, hkp⟩; refine ⟨_, rfl, ?_⟩; have n0_ := M_ (Kd.R_mono (ok' := fun k_ => some k_ ≠ (v237 : Value).ownBlock) (Kd.R_keptB (HO_9.out) hkp (fun k_ hk_ hs_ => (hk_.2) hs_)) (fun k_ hk_ => fun e_ => Or.elim (ho0.1 k_ e_.symm) (fun hs_ => hk_.2.1 hs_) (fun hn_ => Nat.not_le.2 hk_.2.2 hn_))); have n1_ := M_ (Kd.R_mono (ok' := fun k_ => some k_ ≠ (.slice Ao20 x9_1.length co20 : Value).ownBlock) ho0 (fun k_ hk_ => Or.elim hk_ (fun hs_ => fun e_ => (((HO_9.out).1 k_ e_.symm).2) hs_) (fun hn_ => (Kd.fresh' (Kd.R_lt (by (with_reducible repeat (first | apply a0_ | apply a1_ | apply a2_)); exact HO_9.out)) k_ hn_)))); have n2_ := M_ (hb); clear HO_9; clear HB; clear HO235; have HO_9 := n0_; have HO238 := n1_; have HB := n2_; clear n0_ n1_ n2_; (try clear hb); (try clear hkp); (try clear ho0); obtain ⟨Ao24, co24, eo24⟩ := Kd.R_slice HO238.out; subst eo24) | ((with_reducible refine gate_callee (f := 26) rfl ?_); refine goesL_ (some 49) rfl rfl Try.func26 (by kernel_rfl) rfl #[.int .i64 a0, .slice A1 l1.length c1, .slice Ao24 t236.length co24] rfl (by (try simp only [List.map_toArray, List.map_cons, List.map_nil]); first | done | rfl | (simp only [List.length_drop, List.length_take]; rfl)) ?_; (with_reducible refine (learn_conflict.calls k1 a0 _ _ l1 _ _ t236 true _ ?side1 ?side2 ?side3 ?side4 A18.out).mono ?_); (case side1 => repeat (first | exact (Kd.C_below HR1.out HB.out) | (with_reducible refine c0_ ?_ _) | (with_reducible refine c1_ ?_ _) | (with_reducible refine c2_ ?_))); (case side2 => exact HC1.out); (case side3 => repeat (first | exact (Kd.R_reads' HO238.out).2.2 | (with_reducible refine c0_ ?_ _) | (with_reducible refine c1_ ?_ _) | (with_reducible refine c2_ ?_))); (case side4 => exact (Kd.R_reads' HO238.out).2.1); rintro e w25 ⟨rfl, hb⟩; refine ⟨_, rfl, ?_⟩; have n0_ := M_ (Kd.R_below (by (with_reducible repeat (first | apply a0_ | apply a1_ | apply a2_)); exact HO_9.out) hb); have n1_ := M_ (Kd.R_below (by (with_reducible repeat (first | apply a0_ | apply a1_ | apply a2_)); exact HO238.out) hb); have n2_ := M_ (below_step (by repeat (first | (with_reducible first | exact HB.out | apply b0_ | apply b1_ | apply b2_) | exact HB.out)) hb); clear HO_9; clear HO238; clear HB; have HO_9 := n0_; have HO238 := n1_; have HB := n2_; clear n0_ n1_ n2_; (try clear hb); (try clear hb2); (try clear hk); (try clear hi)))
         go_roundg k1
         case measure => have := HK1.out; omega
         case rel => exact ⟨(t236), (wrap64 (x33_1 + 1)), (by first | rfl | (simp; done) | (simp [*]; done)), H', ⟨by have := HK1.out; omega⟩, ⟨by (with_reducible repeat (first | apply a0_ | apply a1_ | apply a2_)); exact Kd.R_mono HO238.out (fun _ hk => trivial)⟩, ⟨by repeat (first | (with_reducible first | exact HB.out | apply b0_ | apply b1_ | apply b2_) | exact HB.out)⟩⟩
        ·replace c19 := Bool.eq_false_iff.mpr c19
         subst c19
         have H1 : (learn_Clause.l0 k1 a0 l1 x9_1 l2 (l2.length : Int) (wrap64 (x33_1 + 1))) = some (r1, r2) := by rw [if_neg (show ¬ (false = true) by decide)] at H; exact H
         clear H
         have H := H1
         clear H1
         have H' := M_ H
         clear H
         have p231 : 0 ≤ (x33_1 : Int) := of_decide_eq_true (by first | (with_reducible assumption) | assumption)
         have q231 : x33_1 < (l2.length : Int) := of_decide_eq_true (by first | (with_reducible assumption) | assumption)
         obtain ⟨ad231, e231, hx231_0⟩ := Kd.at_int HR2.out x33_1 p231 q231
         cases e231
         replace hx231_0 := (HB.out.cell (World.block_lt_of_cell? w _ hx231_0)).trans hx231_0
         replace p231 := eq_true p231
         replace q231 := eq_true q231
         obtain ⟨Ao26, co26, eo26⟩ := Kd.R_slice HO_9.out
         subst eo26
         go_wp2_with (first | ((with_reducible refine gate_callee (f := 30) rfl ?_); refine goesL_ (some 39) rfl rfl Try.func30 (by kernel_rfl) rfl #[.slice Ao26 x9_1.length co26, .int .i64 (rd l2 x33_1)] rfl (by (try simp only [List.map_toArray, List.map_cons, List.map_nil]); first | done | rfl | (simp only [List.length_drop, List.length_take]; rfl)) ?_; (with_reducible refine (slices_Index_int_int.calls k1 _ _ x9_1 (rd l2 x33_1) t232 _ ?side1 ?side2 A15.out).mono ?_); (case side1 => repeat (first | exact (Kd.R_reads' HO_9.out).2.2 | (with_reducible refine c0_ ?_ _) | (with_reducible refine c1_ ?_ _) | (with_reducible refine c2_ ?_))); (case side2 => exact (Kd.R_reads' HO_9.out).2.1); rintro e w' ⟨rfl, ⟨nd, rfl⟩⟩; refine ⟨_, rfl, ?_⟩) | ((with_reducible refine gate_callee (f := 29) rfl ?_); refine goesL_ (some 41) rfl rfl Try.func29 (by kernel_rfl) rfl #[.slice Ao26 x9_1.length co26] rfl (by (try simp only [List.map_toArray, List.map_cons, List.map_nil]); first | done | rfl | (simp only [List.length_drop, List.length_take]; rfl)) ?_; (with_reducible refine (slices_Clone_int_int.calls _ _ x9_1 t233 _ ?side1 ?side2 A16.out).mono ?_); (case side1 => repeat (first | exact (Kd.R_reads' HO_9.out).2.2 | (with_reducible refine c0_ ?_ _) | (with_reducible refine c1_ ?_ _) | (with_reducible refine c2_ ?_))); (case side2 => exact (Kd.R_reads' HO_9.out).2.1); rintro e w27 ⟨v234, rfl, ho0, hb⟩; refine ⟨_, rfl, ?_⟩; have n0_ := M_ (Kd.R_elder' (by (with_reducible repeat (first | apply a0_ | apply a1_ | apply a2_)); exact HO_9.out) (Kd.R_base ho0) hb); have n1_ := M_ (Kd.R_lower (Kd.R_new' ho0 (Kd.R_lt (by (with_reducible repeat (first | apply a0_ | apply a1_ | apply a2_)); exact HO_9.out))) (below_size (by repeat (first | (with_reducible first | exact HB.out | apply b0_ | apply b1_ | apply b2_) | exact HB.out)))); have n2_ := M_ (below_step (by repeat (first | (with_reducible first | exact HB.out | apply b0_ | apply b1_ | apply b2_) | exact HB.out)) hb); clear HO_9; clear HB; have HO_9 := n0_; have HO235 := n1_; have HB := n2_; clear n0_ n1_ n2_; (try clear hb); (try clear hb2); (try clear hk); (try clear hi); (try clear ho0); obtain ⟨Ao28, co28, eo28⟩ := Kd.R_slice HO235.out; subst eo28) | ((with_reducible refine gate_callee (f := 31) rfl ?_); refine goesL_ (some 45) rfl rfl Try.func31 (by kernel_rfl) rfl #[.slice Ao28 t233.length co28, .int .i64 t232, .int .i64 (wrap64 (t232 + 1))] rfl (by (try simp only [List.map_toArray, List.map_cons, List.map_nil]); first | done | rfl | (simp only [List.length_drop, List.length_take]; rfl)) ?_; (with_reducible refine (slices_Delete_int_int.calls (fun k_ => some k_ = (.slice Ao28 t233.length co28 : Value).ownBlock) (.slice Ao28 t233.length co28) t233 t232 (wrap64 (t232 + 1)) t236 w _ ?side1 ?side2 A17.out).mono ?_); (case side1 => repeat (first | (with_reducible first | exact HB.out | apply b0_ | apply b1_ | apply b2_) | exact HB.out)); (case side2 => exact Kd.R_tight rfl HO235.out); rintro e w29 ⟨v237, rfl, ho0, hb, hkp⟩; refine ⟨_, rfl, ?_⟩; have n0_ := M_ (Kd.R_mono (ok' := fun k_ => some k_ ≠ (v237 : Value).ownBlock) (Kd.R_keptB (HO_9.out) hkp (fun k_ hk_ hs_ => (hk_.2) hs_)) (fun k_ hk_ => fun e_ => Or.elim (ho0.1 k_ e_.symm) (fun hs_ => hk_.2.1 hs_) (fun hn_ => Nat.not_le.2 hk_.2.2 hn_))); have n1_ := M_ (Kd.R_mono (ok' := fun k_ => some k_ ≠ (.slice Ao26 x9_1.length co26 : Value).ownBlock) ho0 (fun k_ hk_ => Or.elim hk_ (fun hs_ => fun e_ => (((HO_9.out).1 k_ e_.symm).2) hs_) (fun hn_ => (Kd.fresh' (Kd.R_lt (by (with_reducible repeat (first | apply a0_ | apply a1_ | apply a2_)); exact HO_9.out)) k_ hn_)))); have n2_ := M_ (hb); clear HO_9; clear HB; clear HO235; have HO_9 := n0_; have HO238 := n1_; have HB := n2_; clear n0_ n1_ n2_; (try clear hb); (try clear hkp); (try clear ho0); obtain ⟨Ao30, co30, eo30⟩ := Kd.R_slice HO238.out; subst eo30) | ((with_reducible refine gate_callee (f := 26) rfl ?_); refine goesL_ (some 49) rfl rfl Try.func26 (by kernel_rfl) rfl #[.int .i64 a0, .slice A1 l1.length c1, .slice Ao30 t236.length co30] rfl (by (try simp only [List.map_toArray, List.map_cons, List.map_nil]); first | done | rfl | (simp only [List.length_drop, List.length_take]; rfl)) ?_; (with_reducible refine (learn_conflict.calls k1 a0 _ _ l1 _ _ t236 false _ ?side1 ?side2 ?side3 ?side4 A18.out).mono ?_); (case side1 => repeat (first | exact (Kd.C_below HR1.out HB.out) | (with_reducible refine c0_ ?_ _) | (with_reducible refine c1_ ?_ _) | (with_reducible refine c2_ ?_))); (case side2 => exact HC1.out); (case side3 => repeat (first | exact (Kd.R_reads' HO238.out).2.2 | (with_reducible refine c0_ ?_ _) | (with_reducible refine c1_ ?_ _) | (with_reducible refine c2_ ?_))); (case side4 => exact (Kd.R_reads' HO238.out).2.1); rintro e w31 ⟨rfl, hb⟩; refine ⟨_, rfl, ?_⟩; have n0_ := M_ (Kd.R_below (by (with_reducible repeat (first | apply a0_ | apply a1_ | apply a2_)); exact HO_9.out) hb); have n1_ := M_ (Kd.R_below (by (with_reducible repeat (first | apply a0_ | apply a1_ | apply a2_)); exact HO238.out) hb); have n2_ := M_ (below_step (by repeat (first | (with_reducible first | exact HB.out | apply b0_ | apply b1_ | apply b2_) | exact HB.out)) hb); clear HO_9; clear HO238; clear HB; have HO_9 := n0_; have HO238 := n1_; have HB := n2_; clear n0_ n1_ n2_; (try clear hb); (try clear hb2); (try clear hk); (try clear hi)))
         go_roundg k1
         case measure => have := HK1.out; omega
         case rel => exact ⟨(x9_1), (wrap64 (x33_1 + 1)), (by first | rfl | (simp; done) | (simp [*]; done)), H', ⟨by have := HK1.out; omega⟩, ⟨by (with_reducible repeat (first | apply a0_ | apply a1_ | apply a2_)); exact Kd.R_mono HO_9.out (fun _ hk => trivial)⟩, ⟨by repeat (first | (with_reducible first | exact HB.out | apply b0_ | apply b1_ | apply b2_) | exact HB.out)⟩⟩
       ·rw [if_neg c14] at H
        exact absurd H (by simp)
      ·rw [if_neg c13] at H
       exact absurd H (by simp)
     ·rw [if_neg c12] at H
      have c12b0 : decide (x33_1 < (l2.length : Int)) = false := decide_eq_false c12
      clear c12
      have H' := M_ H
      clear H
      obtain ⟨Ao32, co32, eo32⟩ := Kd.R_slice HO_9.out
      subst eo32
      go_wp2
      go_loopg [14, 54] k1 (fun kq v14 v54 w' => ∃ (x14_2 : List Int) (x54_2 : Int), v54 = .int .i64 x54_2 ∧ Aside0 (learn_Clause.l1 kq x14_2 x9_1 (x9_1.length : Int) x54_2 = some (r1, r2)) ∧ Aside0 (kq ≤ k1) ∧ Aside0 (Kd.R (Kd.int .i64) 3 w' w.heap.size (fun k_ => some k_ ≠ ((.slice Ao32 x9_1.length co32) : Value).ownBlock) v14 x14_2) ∧ Aside0 (Kd.R (Kd.int .i64) 3 w' w.heap.size (fun k_ => some k_ ≠ (v14 : Value).ownBlock) (.slice Ao32 x9_1.length co32) x9_1) ∧ Aside0 (Below w.heap.size w w'))
      case atStart => exact ⟨(([] : List Int)), (0), (by first | rfl | (simp; done) | (simp [*]; done)), H', ⟨Nat.le_refl _⟩, ⟨by first | exact Kd.R_nil _ _ _ _ _ | exact Kd.N_nil _ _ _ _ _ | exact Kd.V_nil _ _ _ _ _ | exact Kd.Q_nil _ _ _ _ _ | exact Kd.S_nil _ _ _ _ _⟩, ⟨by (with_reducible repeat (first | apply a0_ | apply a1_ | apply a2_)); exact Kd.R_mono HO_9.out (fun _ hk => (by simp [Value.ownBlock]))⟩, ⟨by repeat (first | (with_reducible first | exact HB.out | apply b0_ | apply b1_ | apply b2_) | exact HB.out)⟩⟩
      case round =>
       clear H'
       try clear c1
       try clear c2
       try clear p2
       try clear q2
       try clear hx2
       try clear c3
       try clear c5
       try clear c5b0
       try clear c5b1
       try clear p6
       try clear c7
       try clear c11
       try clear c12
       try clear c12b0
       try clear c13
       try clear c13b0
       try clear c14
       try clear c14b0
       try clear c19
       try clear p23
       try clear q23
       try clear hx23
       try clear c25
       try clear c26
       try clear c29
       try clear c30
       try clear c31
       try clear hx231_0
       try clear p2
       try clear p231
       try clear q231
       obtain ⟨x14_2, x54_2, rfl, HA, HK2, HO_14, HO_52, HB⟩ := hrel
       cases gk with
       | zero => exact absurd HA.out (by simp [learn_Clause.l1])
       | succ k2 =>
        have H := HA.out
        clear HA
        simp only [learn_Clause.l1] at H
        by_cases c33 : x54_2 < (x9_1.length : Int)
        ·rw [if_pos c33] at H
         have c33b0 : decide (x54_2 < (x9_1.length : Int)) = true := decide_eq_true c33
         clear c33
         by_cases c34 : 0 ≤ x54_2
         ·rw [if_pos c34] at H
          have c34b0 : decide (0 ≤ x54_2) = true := decide_eq_true c34
          clear c34
          by_cases c35 : x54_2 < (x9_1.length : Int)
          ·rw [if_pos c35] at H
           have c35b0 : decide (x54_2 < (x9_1.length : Int)) = true := decide_eq_true c35
           clear c35
           by_cases c36 : x14_2.length < 17592186044416
           ·rw [if_pos c36] at H
            have LMc36 := M_ c36
            clear c36
            obtain ⟨y241, hy241⟩ : ∃ y_ : List Int, y_ = (x14_2 ++ [Go.bits .xor .i64 (rd x9_1 x54_2) 1]) := ⟨_, rfl⟩
            replace H : (learn_Clause.l1 k2 y241 x9_1 (x9_1.length : Int) (wrap64 (x54_2 + 1))) = some (r1, r2) := by first | (rw [hy241]; with_reducible exact H) | (have H2_ := (Option.bind_some _ _).symm.trans H; rw [hy241]; with_reducible exact H2_) | (have H2_ := (Option.bind_some _ _).symm.trans H; with_reducible exact H2_) | with_reducible exact H | (rw [hy241]; exact H) | exact H
            have Ny241 := M_ hy241
            clear hy241
            have H' := M_ H
            clear H
            have p240 : 0 ≤ (x54_2 : Int) := of_decide_eq_true (by first | (with_reducible assumption) | assumption)
            have q240 : x54_2 < (x9_1.length : Int) := of_decide_eq_true (by first | (with_reducible assumption) | assumption)
            obtain ⟨ad240, e240, hx240_0⟩ := Kd.at_int (Kd.R_reads' HO_52.out).2.2 x54_2 p240 q240
            cases e240
            replace p240 := eq_true p240
            replace q240 := eq_true q240
            go_wp2_with (first | ((with_reducible refine gate_builtin (b := .append) (xs := #[.tmp 58, .tmp 61]) rfl ?_); at_builtin; refine Kd.R_append (Kd.int .i64) (w0 := w) w.heap.size rfl (.tmp 58) (.tmp 61) 23 3 (.int .i64 0) 8 rfl Try.underlying23 info3 rfl (by decide) (by omega) u14 x14_2 (Go.bits .xor .i64 (rd x9_1 x54_2) 1) [.int .i64 (Go.bits .xor .i64 (rd x9_1 x54_2) 1)] (fun k_ => some k_ ≠ (.slice (some ad240) x9_1.length co32 : Value).ownBlock) (fun _ => False) rfl rfl ?aP (fun _ hk => hk.elim) ?aF ?aO ?aB ?aS ?aL ?_; (case aP => exact rfl); (case aB => exact (by repeat (first | (with_reducible first | exact HB.out | apply b0_ | apply b1_ | apply b2_) | exact HB.out))); (case aF => exact (fun k_ hk => Kd.fresh' (Kd.R_lt (by (with_reducible repeat (first | apply a0_ | apply a1_ | apply a2_)); exact HO_52.out)) k_ hk)); (case aO => exact (by (with_reducible repeat (first | apply a0_ | apply a1_ | apply a2_)); exact HO_14.out)); (case aS => exact (below_size (by repeat (first | (with_reducible first | exact HB.out | apply b0_ | apply b1_ | apply b2_) | exact HB.out)))); (case aL => have := LMc36.out; omega); intro v242 w37 ho hb hg hat; rw [← Ny241.out] at ho; have n0_ := M_ (Kd.R_after (ok := (fun _ => True)) (by (with_reducible repeat (first | apply a0_ | apply a1_ | apply a2_)); exact Kd.R_mono HO_52.out (fun _ hk => ⟨trivial, hk⟩)) hg hat); have n1_ := M_ (hb); have n2_ := M_ (ho); clear HO_52; clear HB; clear HO_14; have HO_52 := n0_; have HB := n1_; have HO243 := n2_; clear n0_ n1_ n2_; clear ho hb hg hat))
            go_roundg k2
            case measure => have := HK1.out; have := HK2.out; omega
            case rel => exact ⟨(y241), (wrap64 (x54_2 + 1)), (by first | rfl | (simp; done) | (simp [*]; done)), H', ⟨by have := HK1.out; have := HK2.out; omega⟩, ⟨by (with_reducible repeat (first | apply a0_ | apply a1_ | apply a2_)); exact HO243.out⟩, ⟨by (with_reducible repeat (first | apply a0_ | apply a1_ | apply a2_)); exact Kd.R_mono HO_52.out (fun _ hk => hk.2)⟩, ⟨by repeat (first | (with_reducible first | exact HB.out | apply b0_ | apply b1_ | apply b2_) | exact HB.out)⟩⟩
           ·rw [if_neg c36] at H
            exact absurd H (by simp)
          ·rw [if_neg c35] at H
           exact absurd H (by simp)
         ·rw [if_neg c34] at H
          exact absurd H (by simp)
        ·rw [if_neg c33] at H
         have c33b0 : decide (x54_2 < (x9_1.length : Int)) = false := decide_eq_false c33
         clear c33
         replace H := Option.bind_eq_some_iff.mp H
         obtain ⟨t244, A380, H⟩ := H
         replace H : (some (t244, 0)) = some (r1, r2) := H
         have A38 := M_ A380
         clear A380
         simp only [Option.some.injEq, Prod.mk.injEq] at H
         obtain ⟨rfl, rfl⟩ := H
         obtain ⟨Ao39, co39, eo39⟩ := Kd.R_slice HO_14.out
         subst eo39
         go_wp2_with (first | ((with_reducible refine gate_callee (f := 32) rfl ?_); refine goesL_ (some 65) rfl rfl Try.func32 (by kernel_rfl) rfl #[.slice Ao39 x14_2.length co39] rfl (by (try simp only [List.map_toArray, List.map_cons, List.map_nil]); first | done | rfl | (simp only [List.length_drop, List.length_take]; rfl)) ?_; (with_reducible refine (slices_Sort_int_int.calls (fun k_ => some k_ = (.slice Ao39 x14_2.length co39 : Value).ownBlock) (.slice Ao39 x14_2.length co39) x14_2 t244 w _ ?side1 ?side2 A38.out).mono ?_); (case side1 => repeat (first | (with_reducible first | exact HB.out | apply b0_ | apply b1_ | apply b2_) | exact HB.out)); (case side2 => exact Kd.R_tight rfl HO_14.out); rintro e w40 ⟨rfl, hy0, hb, hkp⟩; refine ⟨_, rfl, ?_⟩; have n0_ := M_ (Kd.R_reok rfl hy0 (fun k_ e_ => HO_14.out.1 k_ e_)); have n1_ := M_ (Kd.R_mono (ok' := fun k_ => some k_ ≠ (.slice Ao39 x14_2.length co39 : Value).ownBlock) (Kd.R_keptB (HO_52.out) hkp (fun k_ hk_ hs_ => (hk_) hs_)) (fun k_ hk_ => hk_.1)); have n2_ := M_ (hb); clear HO_14; clear HO_52; clear HB; have HO_14 := n0_; have HO_52 := n1_; have HB := n2_; clear n0_ n1_ n2_; (try clear hb); (try clear hkp); (try clear hy0)))
         go_ret2
         exact ⟨_, by first | rfl | (simp [errW_none, errW_some] <;> rfl) | (simp [*, errW_none, errW_some] <;> rfl), by (with_reducible repeat (first | apply a0_ | apply a1_ | apply a2_)); exact Kd.R_mono HO_14.out (fun _ hk => trivial), by repeat (first | (with_reducible first | exact HB.out | apply b0_ | apply b1_ | apply b2_) | exact HB.out)⟩
  ·replace c7 := Bool.eq_false_iff.mpr c7
   subst c7
   have H1 : (some (([] : List Int), 6)) = some (r1, r2) := by rw [if_neg (show ¬ (false = true) by decide)] at H; exact H
   clear H
   have H := H1
   clear H1
   simp only [Option.some.injEq, Prod.mk.injEq] at H
   obtain ⟨rfl, rfl⟩ := H
   go_enter Try.func11, Try.ntmps11
   go_wp2_with (first | ((with_reducible refine gate_callee (f := 25) rfl ?_); refine goesL_ (some 20) rfl rfl Try.func25 (by kernel_rfl) rfl #[.int .i64 a0, .slice A1 l1.length c1, .slice A2 l2.length c2] rfl (by (try simp only [List.map_toArray, List.map_cons, List.map_nil]); first | done | rfl | (simp only [List.length_drop, List.length_take]; rfl)) ?_; (with_reducible refine (learn_check.calls k a0 _ _ l1 _ _ l2 t226 _ ?side1 ?side2 ?side3 ?side4 A4.out).mono ?_); (case side1 => repeat (first | exact HR1.out | (with_reducible refine c0_ ?_ _) | (with_reducible refine c1_ ?_ _) | (with_reducible refine c2_ ?_))); (case side2 => exact HC1.out); (case side3 => repeat (first | exact HR2.out | (with_reducible refine c0_ ?_ _) | (with_reducible refine c1_ ?_ _) | (with_reducible refine c2_ ?_))); (case side4 => exact HC2.out); rintro e w41 ⟨rfl, hb⟩; refine ⟨_, rfl, ?_⟩; have n0_ := M_ (below_step (by repeat (first | (with_reducible first | exact HB.out | apply b0_ | apply b1_ | apply b2_) | exact HB.out)) hb); clear HB; have HB := n0_; clear n0_; (try clear hb); (try clear hb2); (try clear hk); (try clear hi)) | ((with_reducible refine gate_callee (f := 26) rfl ?_); refine goesL_ (some 27) rfl rfl Try.func26 (by kernel_rfl) rfl #[.int .i64 a0, .slice A1 l1.length c1, .slice A2 l2.length c2] rfl (by (try simp only [List.map_toArray, List.map_cons, List.map_nil]); first | done | rfl | (simp only [List.length_drop, List.length_take]; rfl)) ?_; (with_reducible refine (learn_conflict.calls k a0 _ _ l1 _ _ l2 false _ ?side1 ?side2 ?side3 ?side4 A6.out).mono ?_); (case side1 => repeat (first | exact (Kd.C_below HR1.out HB.out) | (with_reducible refine c0_ ?_ _) | (with_reducible refine c1_ ?_ _) | (with_reducible refine c2_ ?_))); (case side2 => exact HC1.out); (case side3 => repeat (first | exact (Kd.C_below HR2.out HB.out) | (with_reducible refine c0_ ?_ _) | (with_reducible refine c1_ ?_ _) | (with_reducible refine c2_ ?_))); (case side4 => exact HC2.out); rintro e w42 ⟨rfl, hb⟩; refine ⟨_, rfl, ?_⟩; have n0_ := M_ (below_step (by repeat (first | (with_reducible first | exact HB.out | apply b0_ | apply b1_ | apply b2_) | exact HB.out)) hb); clear HB; have HB := n0_; clear n0_; (try clear hb); (try clear hb2); (try clear hk); (try clear hi)))
   go_ret2
   exact ⟨_, by first | rfl | (simp [errW_none, errW_some] <;> rfl) | (simp [*, errW_none, errW_some] <;> rfl), by first | exact Kd.R_nil _ _ _ _ _ | exact Kd.N_nil _ _ _ _ _ | exact Kd.V_nil _ _ _ _ _ | exact Kd.Q_nil _ _ _ _ _ | exact Kd.S_nil _ _ _ _ _, by repeat (first | (with_reducible first | exact HB.out | apply b0_ | apply b1_ | apply b2_) | exact HB.out)⟩
 ·rw [if_neg c5] at H
  have c5b0 : (t226 == 0) = false := beq_eq_false_iff_ne.mpr c5
  have c5b1 : (t226 != 0) = true := bne_iff_ne.mpr c5
  simp only [Option.some.injEq, Prod.mk.injEq] at H
  obtain ⟨rfl, rfl⟩ := H
  go_enter Try.func11, Try.ntmps11
  go_wp2_with (first | ((with_reducible refine gate_callee (f := 25) rfl ?_); refine goesL_ (some 20) rfl rfl Try.func25 (by kernel_rfl) rfl #[.int .i64 a0, .slice A1 l1.length c1, .slice A2 l2.length c2] rfl (by (try simp only [List.map_toArray, List.map_cons, List.map_nil]); first | done | rfl | (simp only [List.length_drop, List.length_take]; rfl)) ?_; (with_reducible refine (learn_check.calls k a0 _ _ l1 _ _ l2 t226 _ ?side1 ?side2 ?side3 ?side4 A4.out).mono ?_); (case side1 => repeat (first | exact HR1.out | (with_reducible refine c0_ ?_ _) | (with_reducible refine c1_ ?_ _) | (with_reducible refine c2_ ?_))); (case side2 => exact HC1.out); (case side3 => repeat (first | exact HR2.out | (with_reducible refine c0_ ?_ _) | (with_reducible refine c1_ ?_ _) | (with_reducible refine c2_ ?_))); (case side4 => exact HC2.out); rintro e w43 ⟨rfl, hb⟩; refine ⟨_, rfl, ?_⟩; have n0_ := M_ (below_step (by repeat (first | (with_reducible first | exact HB.out | apply b0_ | apply b1_ | apply b2_) | exact HB.out)) hb); clear HB; have HB := n0_; clear n0_; (try clear hb); (try clear hb2); (try clear hk); (try clear hi)))
  go_ret2
  exact ⟨_, by first | rfl | (simp [errW_none, errW_some] <;> rfl) | (simp [*, errW_none, errW_some] <;> rfl), by first | exact Kd.R_nil _ _ _ _ _ | exact Kd.N_nil _ _ _ _ _ | exact Kd.V_nil _ _ _ _ _ | exact Kd.Q_nil _ _ _ _ _ | exact Kd.S_nil _ _ _ _ _, by repeat (first | (with_reducible first | exact HB.out | apply b0_ | apply b1_ | apply b2_) | exact HB.out)⟩

/-! ### spiritlevelref17_Stay: function 46 -/
def spiritlevelref17_Stay.l0 : Nat → List (List Int) → List Int → List Int → Int → Option (List Int)
 | 0, _, _, _, _ => none
 | k + 1, x0, x1, x5, x6 => if x6 < (x1.length : Int) then ((some (([] : List Int) : List Int)).bind fun y245 => (if y245.length + x5.length < 17592186044416 then ((some (y245 ++ x5 : List Int)).bind fun y248 => (if 0 ≤ (wrap64 (x6 + 1)) then (if (wrap64 (x6 + 1)) ≤ (x1.length : Int) then (if y248.length + (x1.drop ((wrap64 (x6 + 1)) : Int).toNat).length < 17592186044416 then ((spiritlevelref17_Fails.f k x0 (y248 ++ (x1.drop ((wrap64 (x6 + 1)) : Int).toNat))).bind fun t255 => (if t255 = true then (spiritlevelref17_Stay.l0 k x0 x1 x5 (wrap64 (x6 + 1))) else (if 0 ≤ x6 then (if x5.length < 17592186044416 then (spiritlevelref17_Stay.l0 k x0 x1 (x5 ++ [rd x1 x6]) (wrap64 (x6 + 1))) else (none)) else (none)))) else (none)) else (none)) else (none))) else (none))) else (some x5)
def spiritlevelref17_Stay.f (k : Nat) (l0 : List (List Int)) (l1 : List Int) : Option (List Int) := spiritlevelref17_Stay.l0 k l0 l1 ([] : List Int) 0
theorem spiritlevelref17_Stay.mono_l : ∀ k, (∀ y0 y1 y2 y3, LeO (spiritlevelref17_Stay.l0 k y0 y1 y2 y3) (spiritlevelref17_Stay.l0 (k + 1) y0 y1 y2 y3))
 | 0 => fun _ _ _ _ r h => by simp [spiritlevelref17_Stay.l0] at h
 | k + 1 => by
  have ih0 := spiritlevelref17_Stay.mono_l k
  ·intro y0 y1 y2 y3
   unfold spiritlevelref17_Stay.l0
   repeat' first
   | (with_reducible exact ih0 _ _ _ _)
   | (with_reducible exact spiritlevelref17_Fails.mono _ _ _)
   | (with_reducible exact LeO.refl _)
   | (with_reducible exact LeO.none _)
   | (with_reducible refine LeO.ite ?_ ?_)
   | (with_reducible refine LeO.bind ?_ (fun _ => ?_))
   | exact ih0 _ _ _ _
   | exact spiritlevelref17_Fails.mono _ _ _
   | exact LeO.none _
   | refine LeO.ite ?_ ?_
   | refine LeO.bind ?_ (fun _ => ?_)
theorem spiritlevelref17_Stay.mono : ∀ a0 a1 k, LeO (spiritlevelref17_Stay.f k a0 a1) (spiritlevelref17_Stay.f (k + 1) a0 a1) := by
 intro a0 a1 k
 have ih0 := spiritlevelref17_Stay.mono_l k
 unfold spiritlevelref17_Stay.f
 repeat' first
   | (with_reducible exact ih0 _ _ _ _)
   | (with_reducible exact spiritlevelref17_Fails.mono _ _ _)
   | (with_reducible exact LeO.refl _)
   | (with_reducible exact LeO.none _)
   | (with_reducible refine LeO.ite ?_ ?_)
   | (with_reducible refine LeO.bind ?_ (fun _ => ?_))
   | exact ih0 _ _ _ _
   | exact spiritlevelref17_Fails.mono _ _ _
   | exact LeO.none _
   | refine LeO.ite ?_ ?_
   | refine LeO.bind ?_ (fun _ => ?_)
def spiritlevelref17_Stay.T5 : Bool × List (List Nat × List Nat) := (true, [([], []), ([], []), ([], []), ([1, 2], [1, 2]), ([], []), ([], []), ([5], [5]), ([4, 6], [4, 6]), ([3, 7, 3], [3, 7]), ([0, 8, 8], [0, 8]), ([9], [9])])
def spiritlevelref17_Stay.B5 : List Nat := [0, 0, 0, 6, 0, 0, 32, 112, 254, 511, 1023]
theorem spiritlevelref17_Stay.tab5 : rtab .any (opsOf Try.f46 5) = spiritlevelref17_Stay.T5 := by kernel_rfl
theorem spiritlevelref17_Stay.bits5 : waitsOk spiritlevelref17_Stay.T5.2 spiritlevelref17_Stay.B5 = true := by kernel_rfl
set_option maxHeartbeats 8000000 in
set_option maxRecDepth 100000 in
theorem spiritlevelref17_Stay.calls (k : Nat) (A0 : Option Addr) (c0 : Nat) (l0 : List (List Int)) (A1 : Option Addr) (c1 : Nat) (l1 : List Int) (r : List Int) (w : World) (hr0 : Kd.C (Kd.slice 3 (Kd.int .i64)) w A0 l0.length l0) (hc0 : l0.length ≤ c0) (hr1 : Kd.C (Kd.int .i64) w A1 l1.length l1) (hc1 : l1.length ≤ c1) (h : spiritlevelref17_Stay.f k l0 l1 = some r) :
  Calls Try.prog 46 #[.slice A0 l0.length c0, .slice A1 l1.length c1] w fun e w' => ∃ v0_ : Value, e = .returned (v0_) ∧ Kd.R (Kd.int .i64) 3 w' w.heap.size (fun _ => True) v0_ r ∧ Below w.heap.size w w' := by
 have HR0 := M_ hr0
 have HC0 := M_ hc0
 clear hr0 hc0
 have HR1 := M_ hr1
 have HC1 := M_ hc1
 clear hr1 hc1
 have HB := M_ (Below.refl w.heap.size w)
 have H : (spiritlevelref17_Stay.l0 k l0 l1 ([] : List Int) 0) = some r := h
 clear h
 have H' := M_ H
 clear H
 go_enter Try.func46, Try.ntmps46
 go_wp2
 go_loopg [5, 6] k (fun kq v5 v6 w' => ∃ (x5_1 : List Int) (x6_1 : Int), v6 = .int .i64 x6_1 ∧ Aside0 (spiritlevelref17_Stay.l0 kq l0 l1 x5_1 x6_1 = some r) ∧ Aside0 (kq ≤ k) ∧ Aside0 (Kd.R (Kd.int .i64) 3 w' w.heap.size (fun _ => True) v5 x5_1) ∧ Aside0 (Below w.heap.size w w'))
 case atStart => exact ⟨(([] : List Int)), (0), (by first | rfl | (simp; done) | (simp [*]; done)), H', ⟨Nat.le_refl _⟩, ⟨by first | exact Kd.R_nil _ _ _ _ _ | exact Kd.N_nil _ _ _ _ _ | exact Kd.V_nil _ _ _ _ _ | exact Kd.Q_nil _ _ _ _ _ | exact Kd.S_nil _ _ _ _ _⟩, ⟨by repeat (first | (with_reducible first | exact HB.out | apply b0_ | apply b1_ | apply b2_) | exact HB.out)⟩⟩
 case round =>
  clear H'
  try clear c1
  try clear p2
  obtain ⟨x5_1, x6_1, rfl, HA, HK1, HO_5, HB⟩ := hrel
  cases gk with
  | zero => exact absurd HA.out (by simp [spiritlevelref17_Stay.l0])
  | succ k1 =>
   have H := HA.out
   clear HA
   simp only [spiritlevelref17_Stay.l0] at H
   by_cases c3 : x6_1 < (l1.length : Int)
   ·rw [if_pos c3] at H
    have c3b0 : decide (x6_1 < (l1.length : Int)) = true := decide_eq_true c3
    clear c3
    obtain ⟨y245, hy245⟩ : ∃ y_ : List Int, y_ = (([] : List Int)) := ⟨_, rfl⟩
    replace H : (if y245.length + x5_1.length < 17592186044416 then ((some (y245 ++ x5_1 : List Int)).bind fun y248 => (if 0 ≤ (wrap64 (x6_1 + 1)) then (if (wrap64 (x6_1 + 1)) ≤ (l1.length : Int) then (if y248.length + (l1.drop ((wrap64 (x6_1 + 1)) : Int).toNat).length < 17592186044416 then ((spiritlevelref17_Fails.f k1 l0 (y248 ++ (l1.drop ((wrap64 (x6_1 + 1)) : Int).toNat))).bind fun t255 => (if t255 = true then (spiritlevelref17_Stay.l0 k1 l0 l1 x5_1 (wrap64 (x6_1 + 1))) else (if 0 ≤ x6_1 then (if x5_1.length < 17592186044416 then (spiritlevelref17_Stay.l0 k1 l0 l1 (x5_1 ++ [rd l1 x6_1]) (wrap64 (x6_1 + 1))) else (none)) else (none)))) else (none)) else (none)) else (none))) else (none)) = some r := by first | (rw [hy245]; with_reducible exact H) | (have H2_ := (Option.bind_some _ _).symm.trans H; rw [hy245]; with_reducible exact H2_) | (have H2_ := (Option.bind_some _ _).symm.trans H; with_reducible exact H2_) | with_reducible exact H | (rw [hy245]; exact H) | exact H
    have Ny245 := M_ hy245
    clear hy245
    by_cases c4 : y245.length + x5_1.length < 17592186044416
    ·rw [if_pos c4] at H
     have LMc4 := M_ c4
     clear c4
     obtain ⟨y248, hy248⟩ : ∃ y_ : List Int, y_ = (y245 ++ x5_1) := ⟨_, rfl⟩
     replace H : (if 0 ≤ (wrap64 (x6_1 + 1)) then (if (wrap64 (x6_1 + 1)) ≤ (l1.length : Int) then (if y248.length + (l1.drop ((wrap64 (x6_1 + 1)) : Int).toNat).length < 17592186044416 then ((spiritlevelref17_Fails.f k1 l0 (y248 ++ (l1.drop ((wrap64 (x6_1 + 1)) : Int).toNat))).bind fun t255 => (if t255 = true then (spiritlevelref17_Stay.l0 k1 l0 l1 x5_1 (wrap64 (x6_1 + 1))) else (if 0 ≤ x6_1 then (if x5_1.length < 17592186044416 then (spiritlevelref17_Stay.l0 k1 l0 l1 (x5_1 ++ [rd l1 x6_1]) (wrap64 (x6_1 + 1))) else (none)) else (none)))) else (none)) else (none)) else (none)) = some r := by first | (rw [hy248]; with_reducible exact H) | (have H2_ := (Option.bind_some _ _).symm.trans H; rw [hy248]; with_reducible exact H2_) | (have H2_ := (Option.bind_some _ _).symm.trans H; with_reducible exact H2_) | with_reducible exact H | (rw [hy248]; exact H) | exact H
     have Ny248 := M_ hy248
     clear hy248
     obtain ⟨ji5, hji5⟩ : ∃ j_ : Int, (wrap64 (x6_1 + 1)) = j_ := ⟨_, rfl⟩
     replace H : (if 0 ≤ (ji5) then (if (ji5) ≤ (l1.length : Int) then (if y248.length + (l1.drop ((ji5) : Int).toNat).length < 17592186044416 then ((spiritlevelref17_Fails.f k1 l0 (y248 ++ (l1.drop ((ji5) : Int).toNat))).bind fun t255 => (if t255 = true then (spiritlevelref17_Stay.l0 k1 l0 l1 x5_1 ji5) else (if 0 ≤ x6_1 then (if x5_1.length < 17592186044416 then (spiritlevelref17_Stay.l0 k1 l0 l1 (x5_1 ++ [rd l1 x6_1]) ji5) else (none)) else (none)))) else (none)) else (none)) else (none)) = some r := by first | (rw [hji5] at H; exact H) | (simp only [hji5] at H ⊢; exact H)
     have hji5w : (IntKind.i64.wrap (x6_1 + 1)) = ji5 := (i64_w _).trans hji5
     by_cases c6 : 0 ≤ (ji5)
     ·rw [if_pos c6] at H
      have c6b0 := eq_true c6
      have c6b1 : decide (0 ≤ (ji5)) = true := decide_eq_true c6
      clear c6
      by_cases c7 : (ji5) ≤ (l1.length : Int)
      ·rw [if_pos c7] at H
       have c7b0 := eq_true c7
       have c7b1 : decide ((ji5) ≤ (l1.length : Int)) = true := decide_eq_true c7
       clear c7
       by_cases c8 : y248.length + (l1.drop ((ji5) : Int).toNat).length < 17592186044416
       ·rw [if_pos c8] at H
        have LMc8 := M_ c8
        clear c8
        obtain ⟨y252, hy252⟩ : ∃ y_ : List Int, y_ = (y248 ++ (l1.drop ((ji5) : Int).toNat)) := ⟨_, rfl⟩
        replace H : ((spiritlevelref17_Fails.f k1 l0 y252).bind fun t255 => (if t255 = true then (spiritlevelref17_Stay.l0 k1 l0 l1 x5_1 ji5) else (if 0 ≤ x6_1 then (if x5_1.length < 17592186044416 then (spiritlevelref17_Stay.l0 k1 l0 l1 (x5_1 ++ [rd l1 x6_1]) ji5) else (none)) else (none)))) = some r := by first | (rw [hy252]; with_reducible exact H) | (have H2_ := (Option.bind_some _ _).symm.trans H; rw [hy252]; with_reducible exact H2_) | (have H2_ := (Option.bind_some _ _).symm.trans H; with_reducible exact H2_) | with_reducible exact H | (rw [hy252]; exact H) | exact H
        have Ny252 := M_ hy252
        clear hy252
        replace H := Option.bind_eq_some_iff.mp H
        obtain ⟨t255, A90, H⟩ := H
        replace H : (if t255 = true then (spiritlevelref17_Stay.l0 k1 l0 l1 x5_1 ji5) else (if 0 ≤ x6_1 then (if x5_1.length < 17592186044416 then (spiritlevelref17_Stay.l0 k1 l0 l1 (x5_1 ++ [rd l1 x6_1]) ji5) else (none)) else (none))) = some r := H
        have A9 := M_ A90
        clear A90
        by_cases c10 : t255 = true
        ·subst c10
         have H1 : (spiritlevelref17_Stay.l0 k1 l0 l1 x5_1 ji5) = some r := by rw [if_pos rfl] at H; exact H
         clear H
         have H := H1
         clear H1
         have H' := M_ H
         clear H
         try go_wp2
         have n0_ := M_ (Kd.R_drew HO_5.out)
         have n1_ := M_ (below_drew1 HB.out)
         clear HO_5
         clear HB
         have HO_5 := n0_
         have HB := n1_
         clear n0_ n1_
         obtain ⟨i012, hi012, _, hsz12, _⟩ := info_parts info3
         obtain ⟨A12, hcut12, hA12, hC12⟩ := print_drop_of (P := Try.prog) (Value.int .i64) 0 23 3 .i64 Try.underlying23 hi012 hsz12 A1 c1 l1 (ji5) (of_decide_eq_true (by first | (with_reducible assumption) | assumption)) (of_decide_eq_true (by first | (with_reducible assumption) | assumption)) HC1.out
         have HR251 := M_ (Kd.C_of_reads (h1 := fun _ => rfl) (hA12 _ (Kd.reads_of_C HR1.out)))
         have HC251 := M_ hC12
         clear hA12 hC12 hi012 hsz12
         refine start_ (n := 11) (S := fun w' => True) (ds := []) z0_ (by kernel_rfl) rfl rfl trivial (fun hHeld => ?_); refine with_tabW spiritlevelref17_Stay.tab5 spiritlevelref17_Stay.bits5 (fun HT_ HW_ => ?_)
         generalize wr.drew = w11 at HO_5 HB HR251 hHeld ⊢
         refine pure_ (i := 0) (N := some 13) (v := ?_) (a' := ?_) z1_ rfl rfl (any_of HT_.out (by kernel_rfl)) (fun _ _ _ h => h) (Or.inl ⟨by rfl, ?_⟩) ?_ ?_
         rotate_left
         ·intro w'
          go_simp
          with_reducible rfl
         rotate_left
         ·simp only [Act.put, e1_, e2_, e3_, i64_w, i32_w]
          rfl
         refine pure_ (i := 2) (N := some 15) (v := ?_) (a' := ?_) z2_ rfl rfl (any_of HT_.out (by kernel_rfl)) (fun _ _ _ h => h) (Or.inl ⟨by rfl, ?_⟩) ?_ ?_
         rotate_left
         ·intro w'
          go_simp
          with_reducible rfl
         rotate_left
         ·simp only [Act.put, e1_, e2_, e3_, i64_w, i32_w]
          rfl
         refine pure_ (i := 4) (N := some 17) (v := ?_) (a' := ?_) z127_ rfl rfl (any_of HT_.out (by kernel_rfl)) (fun _ _ _ h => h) (Or.inl ⟨by rfl, ?_⟩) ?_ ?_
         rotate_left
         ·intro w'
          go_simp
          with_reducible rfl
         rotate_left
         ·simp only [Act.put, e1_, e2_, e3_, i64_w, i32_w]
          rfl
         refine pure_ (i := 5) (N := some 18) (v := ?_) (a' := ?_) z128_ rfl rfl (any_of HT_.out (by kernel_rfl)) (fun _ _ _ h => h) (Or.inl ⟨by rfl, ?_⟩) ?_ ?_
         rotate_left
         ·intro w'
          go_simp
          with_reducible rfl
         rotate_left
         ·simp only [Act.put, e1_, e2_, e3_, i64_w, i32_w]
          rfl
         refine pure_ (i := 6) (N := some 19) (v := ?_) (a' := ?_) z129_ rfl rfl (any_of HT_.out (by kernel_rfl)) (fun _ _ _ h => h) (Or.inl ⟨by rfl, ?_⟩) ?_ ?_
         rotate_left
         ·intro w'
          go_simp
          with_reducible rfl
         rotate_left
         ·simp only [Act.put, e1_, e2_, e3_, i64_w, i32_w]
          rfl
         refine pure_ (i := 7) (N := some 20) (v := ?_) (a' := ?_) z130_ rfl rfl (any_of HT_.out (by kernel_rfl)) (fun _ _ _ h => h) (Or.inl ⟨by rfl, ?_⟩) ?_ ?_
         rotate_left
         ·intro w'
          go_simp
          with_reducible rfl
         rotate_left
         ·simp only [Act.put, e1_, e2_, e3_, i64_w, i32_w]
          rfl
         refine one_ (i := 1) (N := some 14) z131_ rfl rfl (one_of HT_.out (by kernel_rfl)) (by decide) (fun K hK => ?_)
         refine Kd.R_lit_step (Kd.int .i64) _ 3 ?hg (N := 14) ?hd (xs := ([] : List Int)) (inner := []) (ok := fun _ => True) (okp := fun _ => True) ?hr ?hp (fun _ hk => hk) trivial (Below.refl _ _) (Nat.le_refl _) (by simp) ?_; (case hd => rfl); (case hg => rfl); (case hr => first | (go_simp; done) | (go_simp; rfl)); (case hp => exact (Reps.none _ _))
         intro v246 w13 ho14 hb hg_ hnew_
         clear hg_ hnew_
         (first | rw [← Ny245.out] at ho14 | (simp only [Int.reduceToNat] at ho14; rw [← Ny245.out] at ho14))
         have n0_ := M_ (Kd.R_elder' (by (with_reducible repeat (first | apply a0_ | apply a1_ | apply a2_)); exact HO_5.out) (Kd.R_base ho14) hb)
         have n1_ := M_ (Kd.R_lower (Kd.R_new' ho14 (Kd.R_lt (by (with_reducible repeat (first | apply a0_ | apply a1_ | apply a2_)); exact HO_5.out))) (below_size (by repeat (first | (with_reducible first | exact HB.out | apply b0_ | apply b1_ | apply b2_) | exact HB.out))))
         have n2_ := M_ (below_step (by repeat (first | (with_reducible first | exact HB.out | apply b0_ | apply b1_ | apply b2_) | exact HB.out)) hb)
         clear HO_5
         clear HB
         have HO_5 := n0_
         have HO247 := n1_
         have HB := n2_
         clear n0_ n1_ n2_
         clear hb ho14
         obtain ⟨Ao16, co16, eo16⟩ := Kd.R_slice HO_5.out
         (first | subst eo16 | (injection eo16 with f1_ f2_ f3_; have f4_ := f1_.symm; have f5_ := f3_.symm; clear f1_ f2_ f3_; subst f4_; subst f5_))
         refine hK.out _ _ trivial (fun hHeld => ?_)
         clear hK K
         refine norm_ (a' := ?_) ?_ ?_
         rotate_left
         ·show Act.put _ (some 14) _ = _
          simp only [Act.put, e1_, e2_, e3_, i64_w, i32_w]
          rfl
         refine one_ (i := 3) (N := some 16) z10_ rfl rfl (one_of HT_.out (by kernel_rfl)) (by decide) (fun K hK => ?_)
         refine Kd.R_append_rows_step (Kd.int .i64) (w0 := w) w.heap.size (by rfl) (.tmp 14) (.tmp 15) 23 3 (.int .i64 0) 8 rfl Try.underlying23 info3 rfl (by decide) (by omega) v246 y245 x5_1 _ _ _ (fun k_ => some k_ ≠ (.slice Ao16 x5_1.length co16 : Value).ownBlock) (fun _ => False) rfl rfl ?aO ?aR (fun _ _ h => h) (fun _ h => h.elim) ?aF ?aB ?aS ?aL ?_
         (case aR => repeat (first | exact (Kd.R_reads' HO_5.out).2.2 | (with_reducible refine c0_ ?_ _) | (with_reducible refine c1_ ?_ _) | (with_reducible refine c2_ ?_)))
         (case aB => exact (by repeat (first | (with_reducible first | exact HB.out | apply b0_ | apply b1_ | apply b2_) | exact HB.out)))
         (case aF => exact (fun k_ hk => Kd.fresh' (Kd.R_lt (by (with_reducible repeat (first | apply a0_ | apply a1_ | apply a2_)); exact HO_5.out)) k_ hk))
         (case aO => exact (by (with_reducible repeat (first | apply a0_ | apply a1_ | apply a2_)); exact Kd.R_mono HO247.out (fun _ hk => hk.2)))
         (case aS => exact (below_size (by repeat (first | (with_reducible first | exact HB.out | apply b0_ | apply b1_ | apply b2_) | exact HB.out))))
         (case aL => have := LMc4.out; omega)
         intro v249 w15 ho hb hg hat
         rw [← Ny248.out] at ho
         have n0_ := M_ (Kd.R_after (ok := (fun _ => True)) (by (with_reducible repeat (first | apply a0_ | apply a1_ | apply a2_)); exact HO_5.out) hg hat)
         have n1_ := M_ (hb)
         have n2_ := M_ (ho)
         clear HO_5
         clear HB
         clear HO247
         have HO_5 := n0_
         have HB := n1_
         have HO250 := n2_
         clear n0_ n1_ n2_
         clear ho hb hg hat
         refine hK.out _ _ trivial (fun hHeld => ?_)
         clear hK K
         refine norm_ (a' := ?_) ?_ ?_
         rotate_left
         ·show Act.put _ (some 16) _ = _
          simp only [Act.put, e1_, e2_, e3_, i64_w, i32_w]
          rfl
         refine one_ (i := 8) (N := some 21) z12_ rfl rfl (one_of HT_.out (by kernel_rfl)) (by decide) (fun K hK => ?_)
         refine Kd.R_append_rows_step (Kd.int .i64) (w0 := w) w.heap.size (by rfl) (.tmp 16) (.tmp 20) 23 3 (.int .i64 0) 8 rfl Try.underlying23 info3 rfl (by decide) (by omega) v249 y248 (l1.drop ((ji5) : Int).toNat) _ _ _ (fun k_ => some k_ ≠ (.slice Ao16 x5_1.length co16 : Value).ownBlock) (fun _ => False) rfl rfl ?aO ?aR (fun _ _ h => h) (fun _ h => h.elim) ?aF ?aB ?aS ?aL ?_
         (case aR => first | (rw [← show (l1.drop ((ji5) : Int).toNat).length = (l1.length - (ji5).toNat) from List.length_drop]; repeat (first | exact (Kd.C_below HR251.out HB.out) | (with_reducible refine c0_ ?_ _) | (with_reducible refine c1_ ?_ _) | (with_reducible refine c2_ ?_))) | (repeat (first | exact (Kd.C_below HR251.out HB.out) | (with_reducible refine c0_ ?_ _) | (with_reducible refine c1_ ?_ _) | (with_reducible refine c2_ ?_))))
         (case aB => exact (by repeat (first | (with_reducible first | exact HB.out | apply b0_ | apply b1_ | apply b2_) | exact HB.out)))
         (case aF => exact (fun k_ hk => Kd.fresh' (Kd.R_lt (by (with_reducible repeat (first | apply a0_ | apply a1_ | apply a2_)); exact HO_5.out)) k_ hk))
         (case aO => exact (by (with_reducible repeat (first | apply a0_ | apply a1_ | apply a2_)); exact HO250.out))
         (case aS => exact (below_size (by repeat (first | (with_reducible first | exact HB.out | apply b0_ | apply b1_ | apply b2_) | exact HB.out))))
         (case aL => have := LMc8.out; have hlx_ := (show (l1.drop ((ji5) : Int).toNat).length = (l1.length - (ji5).toNat) from List.length_drop); omega)
         intro v253 w17 ho hb hg hat
         rw [← Ny252.out] at ho
         have n0_ := M_ (Kd.R_after (ok := (fun _ => True)) (by (with_reducible repeat (first | apply a0_ | apply a1_ | apply a2_)); exact HO_5.out) hg hat)
         have n1_ := M_ (hb)
         have n2_ := M_ (ho)
         clear HO_5
         clear HB
         clear HO250
         have HO_5 := n0_
         have HB := n1_
         have HO254 := n2_
         clear n0_ n1_ n2_
         clear ho hb hg hat
         obtain ⟨Ao18, co18, eo18⟩ := Kd.R_slice HO254.out
         (first | subst eo18 | (injection eo18 with f1_ f2_ f3_; have f4_ := f1_.symm; have f5_ := f3_.symm; clear f1_ f2_ f3_; subst f4_; subst f5_))
         refine hK.out _ _ trivial (fun hHeld => ?_)
         clear hK K
         refine norm_ (a' := ?_) ?_ ?_
         rotate_left
         ·show Act.put _ (some 21) _ = _
          simp only [Act.put, e1_, e2_, e3_, i64_w, i32_w]
          rfl
         refine one_ (i := 9) (N := some 22) z7_ rfl rfl (one_of HT_.out (by kernel_rfl)) (by decide) (fun K hK => ?_)
         refine goes_ Try.func28 (by kernel_rfl) rfl #[.slice A0 l0.length c0, .slice Ao18 y252.length co18] (by rfl) rfl rfl (by (try simp only [List.map_toArray, List.map_cons, List.map_nil]); first | done | rfl | (simp only [List.length_drop, List.length_take]; rfl)) ?_
         with_reducible refine (spiritlevelref17_Fails.calls k1 _ _ l0 _ _ y252 true _ ?side1 ?side2 ?side3 ?side4 A9.out).mono ?_
         (case side1 => repeat (first | exact (Kd.C_below HR0.out HB.out) | (with_reducible refine c0_ ?_ _) | (with_reducible refine c1_ ?_ _) | (with_reducible refine c2_ ?_)))
         (case side2 => exact HC0.out)
         (case side3 => repeat (first | exact (Kd.R_reads' HO254.out).2.2 | (with_reducible refine c0_ ?_ _) | (with_reducible refine c1_ ?_ _) | (with_reducible refine c2_ ?_)))
         (case side4 => exact (Kd.R_reads' HO254.out).2.1)
         rintro e w19 ⟨rfl, hb⟩
         refine ⟨_, rfl, ?_⟩
         have n0_ := M_ (Kd.R_below (by (with_reducible repeat (first | apply a0_ | apply a1_ | apply a2_)); exact HO_5.out) hb)
         have n1_ := M_ (Kd.R_below (by (with_reducible repeat (first | apply a0_ | apply a1_ | apply a2_)); exact HO254.out) hb)
         have n2_ := M_ (below_step (by repeat (first | (with_reducible first | exact HB.out | apply b0_ | apply b1_ | apply b2_) | exact HB.out)) hb)
         clear HO_5
         clear HO254
         clear HB
         have HO_5 := n0_
         have HO254 := n1_
         have HB := n2_
         clear n0_ n1_ n2_
         (try clear hb)
         (try clear hb2)
         (try clear hk)
         (try clear hi)
         refine hK.out _ _ trivial (fun hHeld => ?_)
         clear hK K
         refine norm_ (a' := ?_) ?_ ?_
         rotate_left
         ·show Act.put _ (some 22) _ = _
          simp only [Act.put, e1_, e2_, e3_, i64_w, i32_w]
          rfl
         refine pure_ (i := 10) (N := some 23) (v := ?_) (a' := ?_) z14_ rfl rfl (any_of HT_.out (by kernel_rfl)) (fun _ _ _ h => h) (Or.inl ⟨by rfl, ?_⟩) ?_ ?_
         rotate_left
         ·intro w'
          go_simp
          with_reducible rfl
         rotate_left
         ·simp only [Act.put, e1_, e2_, e3_, i64_w, i32_w]
          rfl
         refine done_ (done_of HT_.out (by kernel_rfl)) ?_
         try go_wp2
         go_roundg k1
         case measure => have := HK1.out; omega
         case rel => exact ⟨(x5_1), (ji5), (by first | rfl | (simp; done) | (simp only [← hji5] <;> (first | rfl | (simp; done))) | (congr 1; symm; assumption) | (simp [*]; done)), H', ⟨by have := HK1.out; omega⟩, ⟨by (with_reducible repeat (first | apply a0_ | apply a1_ | apply a2_)); exact Kd.R_mono HO_5.out (fun _ hk => trivial)⟩, ⟨by repeat (first | (with_reducible first | exact HB.out | apply b0_ | apply b1_ | apply b2_) | exact HB.out)⟩⟩
        ·replace c10 := Bool.eq_false_iff.mpr c10
         subst c10
         have H1 : (if 0 ≤ x6_1 then (if x5_1.length < 17592186044416 then (spiritlevelref17_Stay.l0 k1 l0 l1 (x5_1 ++ [rd l1 x6_1]) ji5) else (none)) else (none)) = some r := by rw [if_neg (show ¬ (false = true) by decide)] at H; exact H
         clear H
         have H := H1
         clear H1
         by_cases c20 : 0 ≤ x6_1
         ·rw [if_pos c20] at H
          have c20b0 : decide (0 ≤ x6_1) = true := decide_eq_true c20
          clear c20
          by_cases c21 : x5_1.length < 17592186044416
          ·rw [if_pos c21] at H
           have LMc21 := M_ c21
           clear c21
           obtain ⟨y257, hy257⟩ : ∃ y_ : List Int, y_ = (x5_1 ++ [rd l1 x6_1]) := ⟨_, rfl⟩
           replace H : (spiritlevelref17_Stay.l0 k1 l0 l1 y257 ji5) = some r := by first | (rw [hy257]; with_reducible exact H) | (have H2_ := (Option.bind_some _ _).symm.trans H; rw [hy257]; with_reducible exact H2_) | (have H2_ := (Option.bind_some _ _).symm.trans H; with_reducible exact H2_) | with_reducible exact H | (rw [hy257]; exact H) | exact H
           have Ny257 := M_ hy257
           clear hy257
           have H' := M_ H
           clear H
           try go_wp2
           have n0_ := M_ (Kd.R_drew HO_5.out)
           have n1_ := M_ (below_drew1 HB.out)
           clear HO_5
           clear HB
           have HO_5 := n0_
           have HB := n1_
           clear n0_ n1_
           obtain ⟨i023, hi023, _, hsz23, _⟩ := info_parts info3
           obtain ⟨A23, hcut23, hA23, hC23⟩ := print_drop_of (P := Try.prog) (Value.int .i64) 0 23 3 .i64 Try.underlying23 hi023 hsz23 A1 c1 l1 (ji5) (of_decide_eq_true (by first | (with_reducible assumption) | assumption)) (of_decide_eq_true (by first | (with_reducible assumption) | assumption)) HC1.out
           have HR251 := M_ (Kd.C_of_reads (h1 := fun _ => rfl) (hA23 _ (Kd.reads_of_C HR1.out)))
           have HC251 := M_ hC23
           clear hA23 hC23 hi023 hsz23
           refine start_ (n := 11) (S := fun w' => True) (ds := []) z0_ (by kernel_rfl) rfl rfl trivial (fun hHeld => ?_); refine with_tabW spiritlevelref17_Stay.tab5 spiritlevelref17_Stay.bits5 (fun HT_ HW_ => ?_)
           generalize wr.drew = w22 at HO_5 HB HR251 hHeld ⊢
           refine pure_ (i := 0) (N := some 13) (v := ?_) (a' := ?_) z1_ rfl rfl (any_of HT_.out (by kernel_rfl)) (fun _ _ _ h => h) (Or.inl ⟨by rfl, ?_⟩) ?_ ?_
           rotate_left
           ·intro w'
            go_simp
            with_reducible rfl
           rotate_left
           ·simp only [Act.put, e1_, e2_, e3_, i64_w, i32_w]
            rfl
           refine pure_ (i := 2) (N := some 15) (v := ?_) (a' := ?_) z2_ rfl rfl (any_of HT_.out (by kernel_rfl)) (fun _ _ _ h => h) (Or.inl ⟨by rfl, ?_⟩) ?_ ?_
           rotate_left
           ·intro w'
            go_simp
            with_reducible rfl
           rotate_left
           ·simp only [Act.put, e1_, e2_, e3_, i64_w, i32_w]
            rfl
           refine pure_ (i := 4) (N := some 17) (v := ?_) (a' := ?_) z127_ rfl rfl (any_of HT_.out (by kernel_rfl)) (fun _ _ _ h => h) (Or.inl ⟨by rfl, ?_⟩) ?_ ?_
           rotate_left
           ·intro w'
            go_simp
            with_reducible rfl
           rotate_left
           ·simp only [Act.put, e1_, e2_, e3_, i64_w, i32_w]
            rfl
           refine pure_ (i := 5) (N := some 18) (v := ?_) (a' := ?_) z128_ rfl rfl (any_of HT_.out (by kernel_rfl)) (fun _ _ _ h => h) (Or.inl ⟨by rfl, ?_⟩) ?_ ?_
           rotate_left
           ·intro w'
            go_simp
            with_reducible rfl
           rotate_left
           ·simp only [Act.put, e1_, e2_, e3_, i64_w, i32_w]
            rfl
           refine pure_ (i := 6) (N := some 19) (v := ?_) (a' := ?_) z129_ rfl rfl (any_of HT_.out (by kernel_rfl)) (fun _ _ _ h => h) (Or.inl ⟨by rfl, ?_⟩) ?_ ?_
           rotate_left
           ·intro w'
            go_simp
            with_reducible rfl
           rotate_left
           ·simp only [Act.put, e1_, e2_, e3_, i64_w, i32_w]
            rfl
           refine pure_ (i := 7) (N := some 20) (v := ?_) (a' := ?_) z130_ rfl rfl (any_of HT_.out (by kernel_rfl)) (fun _ _ _ h => h) (Or.inl ⟨by rfl, ?_⟩) ?_ ?_
           rotate_left
           ·intro w'
            go_simp
            with_reducible rfl
           rotate_left
           ·simp only [Act.put, e1_, e2_, e3_, i64_w, i32_w]
            rfl
           refine one_ (i := 1) (N := some 14) z131_ rfl rfl (one_of HT_.out (by kernel_rfl)) (by decide) (fun K hK => ?_)
           refine Kd.R_lit_step (Kd.int .i64) _ 3 ?hg (N := 14) ?hd (xs := ([] : List Int)) (inner := []) (ok := fun _ => True) (okp := fun _ => True) ?hr ?hp (fun _ hk => hk) trivial (Below.refl _ _) (Nat.le_refl _) (by simp) ?_; (case hd => rfl); (case hg => rfl); (case hr => first | (go_simp; done) | (go_simp; rfl)); (case hp => exact (Reps.none _ _))
           intro v246 w24 ho25 hb hg_ hnew_
           clear hg_ hnew_
           (first | rw [← Ny245.out] at ho25 | (simp only [Int.reduceToNat] at ho25; rw [← Ny245.out] at ho25))
           have n0_ := M_ (Kd.R_elder' (by (with_reducible repeat (first | apply a0_ | apply a1_ | apply a2_)); exact HO_5.out) (Kd.R_base ho25) hb)
           have n1_ := M_ (Kd.R_lower (Kd.R_new' ho25 (Kd.R_lt (by (with_reducible repeat (first | apply a0_ | apply a1_ | apply a2_)); exact HO_5.out))) (below_size (by repeat (first | (with_reducible first | exact HB.out | apply b0_ | apply b1_ | apply b2_) | exact HB.out))))
           have n2_ := M_ (below_step (by repeat (first | (with_reducible first | exact HB.out | apply b0_ | apply b1_ | apply b2_) | exact HB.out)) hb)
           clear HO_5
           clear HB
           have HO_5 := n0_
           have HO247 := n1_
           have HB := n2_
           clear n0_ n1_ n2_
           clear hb ho25
           obtain ⟨Ao27, co27, eo27⟩ := Kd.R_slice HO_5.out
           (first | subst eo27 | (injection eo27 with f1_ f2_ f3_; have f4_ := f1_.symm; have f5_ := f3_.symm; clear f1_ f2_ f3_; subst f4_; subst f5_))
           refine hK.out _ _ trivial (fun hHeld => ?_)
           clear hK K
           refine norm_ (a' := ?_) ?_ ?_
           rotate_left
           ·show Act.put _ (some 14) _ = _
            simp only [Act.put, e1_, e2_, e3_, i64_w, i32_w]
            rfl
           refine one_ (i := 3) (N := some 16) z10_ rfl rfl (one_of HT_.out (by kernel_rfl)) (by decide) (fun K hK => ?_)
           refine Kd.R_append_rows_step (Kd.int .i64) (w0 := w) w.heap.size (by rfl) (.tmp 14) (.tmp 15) 23 3 (.int .i64 0) 8 rfl Try.underlying23 info3 rfl (by decide) (by omega) v246 y245 x5_1 _ _ _ (fun k_ => some k_ ≠ (.slice Ao27 x5_1.length co27 : Value).ownBlock) (fun _ => False) rfl rfl ?aO ?aR (fun _ _ h => h) (fun _ h => h.elim) ?aF ?aB ?aS ?aL ?_
           (case aR => repeat (first | exact (Kd.R_reads' HO_5.out).2.2 | (with_reducible refine c0_ ?_ _) | (with_reducible refine c1_ ?_ _) | (with_reducible refine c2_ ?_)))
           (case aB => exact (by repeat (first | (with_reducible first | exact HB.out | apply b0_ | apply b1_ | apply b2_) | exact HB.out)))
           (case aF => exact (fun k_ hk => Kd.fresh' (Kd.R_lt (by (with_reducible repeat (first | apply a0_ | apply a1_ | apply a2_)); exact HO_5.out)) k_ hk))
           (case aO => exact (by (with_reducible repeat (first | apply a0_ | apply a1_ | apply a2_)); exact Kd.R_mono HO247.out (fun _ hk => hk.2)))
           (case aS => exact (below_size (by repeat (first | (with_reducible first | exact HB.out | apply b0_ | apply b1_ | apply b2_) | exact HB.out))))
           (case aL => have := LMc4.out; omega)
           intro v249 w26 ho hb hg hat
           rw [← Ny248.out] at ho
           have n0_ := M_ (Kd.R_after (ok := (fun _ => True)) (by (with_reducible repeat (first | apply a0_ | apply a1_ | apply a2_)); exact HO_5.out) hg hat)
           have n1_ := M_ (hb)
           have n2_ := M_ (ho)
           clear HO_5
           clear HB
           clear HO247
           have HO_5 := n0_
           have HB := n1_
           have HO250 := n2_
           clear n0_ n1_ n2_
           clear ho hb hg hat
           refine hK.out _ _ trivial (fun hHeld => ?_)
           clear hK K
           refine norm_ (a' := ?_) ?_ ?_
           rotate_left
           ·show Act.put _ (some 16) _ = _
            simp only [Act.put, e1_, e2_, e3_, i64_w, i32_w]
            rfl
           refine one_ (i := 8) (N := some 21) z12_ rfl rfl (one_of HT_.out (by kernel_rfl)) (by decide) (fun K hK => ?_)
           refine Kd.R_append_rows_step (Kd.int .i64) (w0 := w) w.heap.size (by rfl) (.tmp 16) (.tmp 20) 23 3 (.int .i64 0) 8 rfl Try.underlying23 info3 rfl (by decide) (by omega) v249 y248 (l1.drop ((ji5) : Int).toNat) _ _ _ (fun k_ => some k_ ≠ (.slice Ao27 x5_1.length co27 : Value).ownBlock) (fun _ => False) rfl rfl ?aO ?aR (fun _ _ h => h) (fun _ h => h.elim) ?aF ?aB ?aS ?aL ?_
           (case aR => first | (rw [← show (l1.drop ((ji5) : Int).toNat).length = (l1.length - (ji5).toNat) from List.length_drop]; repeat (first | exact (Kd.C_below HR251.out HB.out) | (with_reducible refine c0_ ?_ _) | (with_reducible refine c1_ ?_ _) | (with_reducible refine c2_ ?_))) | (repeat (first | exact (Kd.C_below HR251.out HB.out) | (with_reducible refine c0_ ?_ _) | (with_reducible refine c1_ ?_ _) | (with_reducible refine c2_ ?_))))
           (case aB => exact (by repeat (first | (with_reducible first | exact HB.out | apply b0_ | apply b1_ | apply b2_) | exact HB.out)))
           (case aF => exact (fun k_ hk => Kd.fresh' (Kd.R_lt (by (with_reducible repeat (first | apply a0_ | apply a1_ | apply a2_)); exact HO_5.out)) k_ hk))
           (case aO => exact (by (with_reducible repeat (first | apply a0_ | apply a1_ | apply a2_)); exact HO250.out))
           (case aS => exact (below_size (by repeat (first | (with_reducible first | exact HB.out | apply b0_ | apply b1_ | apply b2_) | exact HB.out))))
           (case aL => have := LMc8.out; have hlx_ := (show (l1.drop ((ji5) : Int).toNat).length = (l1.length - (ji5).toNat) from List.length_drop); omega)
           intro v253 w28 ho hb hg hat
           rw [← Ny252.out] at ho
           have n0_ := M_ (Kd.R_after (ok := (fun _ => True)) (by (with_reducible repeat (first | apply a0_ | apply a1_ | apply a2_)); exact HO_5.out) hg hat)
           have n1_ := M_ (hb)
           have n2_ := M_ (ho)
           clear HO_5
           clear HB
           clear HO250
           have HO_5 := n0_
           have HB := n1_
           have HO254 := n2_
           clear n0_ n1_ n2_
           clear ho hb hg hat
           obtain ⟨Ao29, co29, eo29⟩ := Kd.R_slice HO254.out
           (first | subst eo29 | (injection eo29 with f1_ f2_ f3_; have f4_ := f1_.symm; have f5_ := f3_.symm; clear f1_ f2_ f3_; subst f4_; subst f5_))
           refine hK.out _ _ trivial (fun hHeld => ?_)
           clear hK K
           refine norm_ (a' := ?_) ?_ ?_
           rotate_left
           ·show Act.put _ (some 21) _ = _
            simp only [Act.put, e1_, e2_, e3_, i64_w, i32_w]
            rfl
           refine one_ (i := 9) (N := some 22) z7_ rfl rfl (one_of HT_.out (by kernel_rfl)) (by decide) (fun K hK => ?_)
           refine goes_ Try.func28 (by kernel_rfl) rfl #[.slice A0 l0.length c0, .slice Ao29 y252.length co29] (by rfl) rfl rfl (by (try simp only [List.map_toArray, List.map_cons, List.map_nil]); first | done | rfl | (simp only [List.length_drop, List.length_take]; rfl)) ?_
           with_reducible refine (spiritlevelref17_Fails.calls k1 _ _ l0 _ _ y252 false _ ?side1 ?side2 ?side3 ?side4 A9.out).mono ?_
           (case side1 => repeat (first | exact (Kd.C_below HR0.out HB.out) | (with_reducible refine c0_ ?_ _) | (with_reducible refine c1_ ?_ _) | (with_reducible refine c2_ ?_)))
           (case side2 => exact HC0.out)
           (case side3 => repeat (first | exact (Kd.R_reads' HO254.out).2.2 | (with_reducible refine c0_ ?_ _) | (with_reducible refine c1_ ?_ _) | (with_reducible refine c2_ ?_)))
           (case side4 => exact (Kd.R_reads' HO254.out).2.1)
           rintro e w30 ⟨rfl, hb⟩
           refine ⟨_, rfl, ?_⟩
           have n0_ := M_ (Kd.R_below (by (with_reducible repeat (first | apply a0_ | apply a1_ | apply a2_)); exact HO_5.out) hb)
           have n1_ := M_ (Kd.R_below (by (with_reducible repeat (first | apply a0_ | apply a1_ | apply a2_)); exact HO254.out) hb)
           have n2_ := M_ (below_step (by repeat (first | (with_reducible first | exact HB.out | apply b0_ | apply b1_ | apply b2_) | exact HB.out)) hb)
           clear HO_5
           clear HO254
           clear HB
           have HO_5 := n0_
           have HO254 := n1_
           have HB := n2_
           clear n0_ n1_ n2_
           (try clear hb)
           (try clear hb2)
           (try clear hk)
           (try clear hi)
           refine hK.out _ _ trivial (fun hHeld => ?_)
           clear hK K
           refine norm_ (a' := ?_) ?_ ?_
           rotate_left
           ·show Act.put _ (some 22) _ = _
            simp only [Act.put, e1_, e2_, e3_, i64_w, i32_w]
            rfl
           refine pure_ (i := 10) (N := some 23) (v := ?_) (a' := ?_) z14_ rfl rfl (any_of HT_.out (by kernel_rfl)) (fun _ _ _ h => h) (Or.inl ⟨by rfl, ?_⟩) ?_ ?_
           rotate_left
           ·intro w'
            go_simp
            with_reducible rfl
           rotate_left
           ·simp only [Act.put, e1_, e2_, e3_, i64_w, i32_w]
            rfl
           refine done_ (done_of HT_.out (by kernel_rfl)) ?_
           have p256 : 0 ≤ (x6_1 : Int) := of_decide_eq_true (by first | (with_reducible assumption) | assumption)
           have q256 : x6_1 < (l1.length : Int) := of_decide_eq_true (by first | (with_reducible assumption) | assumption)
           obtain ⟨ad256, e256, hx256_0⟩ := Kd.at_int HR1.out x6_1 p256 q256
           cases e256
           replace hx256_0 := (HB.out.cell (World.block_lt_of_cell? w _ hx256_0)).trans hx256_0
           replace p256 := eq_true p256
           replace q256 := eq_true q256
           try go_wp2_with (first | ((with_reducible refine gate_builtin (b := .append) (xs := #[.tmp 24, .tmp 29]) rfl ?_); at_builtin; refine Kd.R_append (Kd.int .i64) (w0 := w) w.heap.size rfl (.tmp 24) (.tmp 29) 23 3 (.int .i64 0) 8 rfl Try.underlying23 info3 rfl (by decide) (by omega) (.slice Ao27 x5_1.length co27) x5_1 (rd l1 x6_1) [.int .i64 (rd l1 x6_1)] (fun k_ => some k_ ≠ (.slice Ao29 y252.length co29 : Value).ownBlock) (fun _ => False) rfl rfl ?aP (fun _ hk => hk.elim) ?aF ?aO ?aB ?aS ?aL ?_; (case aP => exact rfl); (case aB => exact (by repeat (first | (with_reducible first | exact HB.out | apply b0_ | apply b1_ | apply b2_) | exact HB.out))); (case aF => exact (fun k_ hk => Kd.fresh' (Kd.R_lt (by (with_reducible repeat (first | apply a0_ | apply a1_ | apply a2_)); exact HO254.out)) k_ hk)); (case aO => exact (by (with_reducible repeat (first | apply a0_ | apply a1_ | apply a2_)); exact Kd.R_mono HO_5.out (fun _ hk => hk.2))); (case aS => exact (below_size (by repeat (first | (with_reducible first | exact HB.out | apply b0_ | apply b1_ | apply b2_) | exact HB.out)))); (case aL => have := LMc21.out; omega); intro v258 w31 ho hb hg hat; rw [← Ny257.out] at ho; have n0_ := M_ (Kd.R_after (ok := (fun _ => True)) (by (with_reducible repeat (first | apply a0_ | apply a1_ | apply a2_)); exact Kd.R_mono HO254.out (fun _ hk => ⟨trivial, hk⟩)) hg hat); have n1_ := M_ (hb); have n2_ := M_ (ho); clear HO254; clear HB; clear HO_5; have HO254 := n0_; have HB := n1_; have HO259 := n2_; clear n0_ n1_ n2_; clear ho hb hg hat))
           go_roundg k1
           case measure => have := HK1.out; omega
           case rel => exact ⟨(y257), (ji5), (by first | rfl | (simp; done) | (simp only [← hji5] <;> (first | rfl | (simp; done))) | (congr 1; symm; assumption) | (simp [*]; done)), H', ⟨by have := HK1.out; omega⟩, ⟨by (with_reducible repeat (first | apply a0_ | apply a1_ | apply a2_)); exact Kd.R_mono HO259.out (fun _ hk => trivial)⟩, ⟨by repeat (first | (with_reducible first | exact HB.out | apply b0_ | apply b1_ | apply b2_) | exact HB.out)⟩⟩
          ·rw [if_neg c21] at H
           exact absurd H (by simp)
         ·rw [if_neg c20] at H
          exact absurd H (by simp)
       ·rw [if_neg c8] at H
        exact absurd H (by simp)
      ·rw [if_neg c7] at H
       exact absurd H (by simp)
     ·rw [if_neg c6] at H
      exact absurd H (by simp)
    ·rw [if_neg c4] at H
     exact absurd H (by simp)
   ·rw [if_neg c3] at H
    have c3b0 : decide (x6_1 < (l1.length : Int)) = false := decide_eq_false c3
    clear c3
    obtain rfl := Option.some.inj H
    go_wp2
    go_ret
    exact ⟨_, by first | rfl | (simp [errW_none, errW_some] <;> rfl) | (simp [*, errW_none, errW_some] <;> rfl), by (with_reducible repeat (first | apply a0_ | apply a1_ | apply a2_)); exact HO_5.out, by repeat (first | (with_reducible first | exact HB.out | apply b0_ | apply b1_ | apply b2_) | exact HB.out)⟩

end Go.Proofs.Ytcopolpepodceaa.QLearnTells
