-- Made by wip/myprint.sh (a patched print): a text of this session's own.
import Derived.Test.YtnicmgakboghpaaQClauseResolvesx0
import Derived.Test.YtnicmgakboghpaaQClauseResolvesx1
import Derived.Test.YtnicmgakboghpaaQClauseResolvesx3
import Derived.Test.YtnicmgakboghpaaQClauseResolvesx5
import Derived.Test.YtnicmgakboghpaaQClauseResolvesx7
namespace Go.Proofs.Ytnicmgakboghpaa.QClauseResolves
open Go.RowKit Go.Proofs.YtnicmgakboghpaaW.PrintWords Go.Proofs.YtnicmgakboghpaaW.PrintLast Go.Proofs.YtnicmgakboghpaaW.PrintMore
attribute [local go_sem] max2_int min2_int max_two min_two max_three min_three max_four min_four   -- for this text's walks alone
set_option linter.unusedVariables false
set_option linter.unusedSimpArgs false

/-! ### spiritlevellaw13_ClauseResolves: function 7 -/
def spiritlevellaw13_ClauseResolves.j0 : Nat → Int → List Int → List Int → Int → Bool → Option (Bool)
  | 0, _, _, _, _, _ => none
  | k + 1, x0, x1, x2, x3, x26 => if x26 = true then (some true) else ((clause_Implies.f k x0 x1 x2).bind fun bt197 => ((spiritlevelref13_Implies.f k x0 x1 x2).bind fun bt199 => ((clause_Resolve.f k x0 x1 x2 x3).bind fun bt201 => ((spiritlevelref13_Resolve.f k x0 x1 x2 x3).bind fun bt206 => (if (bt197.1 == bt199.1) = true then (if bt197.2 = bt199.2 then ((spiritlevelref13_Same.f k bt201.1 bt206.1).bind fun t211 => (if t211 = true then (if (bt201.2.1 == bt206.2.1) = true then (some (bt201.2.2 == bt206.2.2)) else (some false)) else (some false))) else (some false)) else (some false))))))
def spiritlevellaw13_ClauseResolves.f (k : Nat) (a0 : Int) (l1 : List Int) (l2 : List Int) (a3 : Int) : Option (Bool) := if (l1.length : Int) > 100 then (spiritlevellaw13_ClauseResolves.j0 k a0 l1 l2 a3 true) else (spiritlevellaw13_ClauseResolves.j0 k a0 l1 l2 a3 (decide ((l2.length : Int) > 100)))
theorem spiritlevellaw13_ClauseResolves.mono_l : ∀ k, (∀ y0 y1 y2 y3 y4, LeO (spiritlevellaw13_ClauseResolves.j0 k y0 y1 y2 y3 y4) (spiritlevellaw13_ClauseResolves.j0 (k + 1) y0 y1 y2 y3 y4))
  | 0 => fun _ _ _ _ _ r h => by simp [spiritlevellaw13_ClauseResolves.j0] at h
  | k + 1 => by
    have ih0 := spiritlevellaw13_ClauseResolves.mono_l k
    · intro y0 y1 y2 y3 y4
      unfold spiritlevellaw13_ClauseResolves.j0
      repeat' first
      | (with_reducible exact ih0 _ _ _ _ _)
      | (with_reducible exact clause_Implies.mono _ _ _ _)
      | (with_reducible exact clause_Resolve.mono _ _ _ _ _)
      | (with_reducible exact spiritlevelref13_Implies.mono _ _ _ _)
      | (with_reducible exact spiritlevelref13_Resolve.mono _ _ _ _ _)
      | (with_reducible exact spiritlevelref13_Same.mono _ _ _)
      | (with_reducible exact LeO.refl _)
      | (with_reducible exact LeO.none _)
      | (with_reducible refine LeO.ite ?_ ?_)
      | (with_reducible refine LeO.bind ?_ (fun _ => ?_))
      | exact ih0 _ _ _ _ _
      | exact clause_Implies.mono _ _ _ _
      | exact clause_Resolve.mono _ _ _ _ _
      | exact spiritlevelref13_Implies.mono _ _ _ _
      | exact spiritlevelref13_Resolve.mono _ _ _ _ _
      | exact spiritlevelref13_Same.mono _ _ _
      | exact LeO.none _
      | refine LeO.ite ?_ ?_
      | refine LeO.bind ?_ (fun _ => ?_)
theorem spiritlevellaw13_ClauseResolves.mono : ∀ a0 a1 a2 a3 k, LeO (spiritlevellaw13_ClauseResolves.f k a0 a1 a2 a3) (spiritlevellaw13_ClauseResolves.f (k + 1) a0 a1 a2 a3) := by
  intro a0 a1 a2 a3 k
  have ih0 := spiritlevellaw13_ClauseResolves.mono_l k
  unfold spiritlevellaw13_ClauseResolves.f
  repeat' first
      | (with_reducible exact ih0 _ _ _ _ _)
      | (with_reducible exact clause_Implies.mono _ _ _ _)
      | (with_reducible exact clause_Resolve.mono _ _ _ _ _)
      | (with_reducible exact spiritlevelref13_Implies.mono _ _ _ _)
      | (with_reducible exact spiritlevelref13_Resolve.mono _ _ _ _ _)
      | (with_reducible exact spiritlevelref13_Same.mono _ _ _)
      | (with_reducible exact LeO.refl _)
      | (with_reducible exact LeO.none _)
      | (with_reducible refine LeO.ite ?_ ?_)
      | (with_reducible refine LeO.bind ?_ (fun _ => ?_))
      | exact ih0 _ _ _ _ _
      | exact clause_Implies.mono _ _ _ _
      | exact clause_Resolve.mono _ _ _ _ _
      | exact spiritlevelref13_Implies.mono _ _ _ _
      | exact spiritlevelref13_Resolve.mono _ _ _ _ _
      | exact spiritlevelref13_Same.mono _ _ _
      | exact LeO.none _
      | refine LeO.ite ?_ ?_
      | refine LeO.bind ?_ (fun _ => ?_)
set_option maxHeartbeats 8000000 in
set_option maxRecDepth 100000 in
theorem spiritlevellaw13_ClauseResolves.calls (k : Nat) (a0 : Int) (A1 : Option Addr) (c1 : Nat) (l1 : List Int) (A2 : Option Addr) (c2 : Nat) (l2 : List Int) (a3 : Int) (r : Bool) (w : World) (hr1 : Kd.C (Kd.int .i64) w A1 l1.length l1) (hc1 : l1.length ≤ c1) (hr2 : Kd.C (Kd.int .i64) w A2 l2.length l2) (hc2 : l2.length ≤ c2) (ht_ : r = true) (h : spiritlevellaw13_ClauseResolves.f k a0 l1 l2 a3 = some r) :
    Calls Try.prog 7 #[.int .i64 a0, .slice A1 l1.length c1, .slice A2 l2.length c2, .int .i64 a3] w fun e w' => e = .returned (.bool r) ∧ Below w.heap.size w w' := by
  have HT_ := Aside0.mk ht_
  clear ht_
  have HR1 := Aside0.mk hr1
  have HC1 := Aside0.mk hc1
  clear hr1 hc1
  have HR2 := Aside0.mk hr2
  have HC2 := Aside0.mk hc2
  clear hr2 hc2
  have HB := Aside0.mk (Below.refl w.heap.size w)
  have H : (if (l1.length : Int) > 100 then (spiritlevellaw13_ClauseResolves.j0 k a0 l1 l2 a3 true) else (spiritlevellaw13_ClauseResolves.j0 k a0 l1 l2 a3 (decide ((l2.length : Int) > 100)))) = some r := h
  clear h
  have HC5 := Aside0.mk H
  clear H
  go_enter Try.func7, Try.ntmps7
  go_upto_region 1 with (fail)
  go_cut [26] (fun v26 wc => ∃ (kq : Nat) (x26_4 : Bool), v26 = .bool x26_4 ∧ Aside0 (spiritlevellaw13_ClauseResolves.j0 kq a0 l1 l2 a3 x26_4 = some r) ∧ Aside0 (kq ≤ k) ∧ Aside0 (Below w.heap.size w wc))
  case first =>
    have H := HC5.out
    clear HC5
    by_cases c6 : (l1.length : Int) > 100
    · rw [if_pos c6] at H
      have c6b0 : decide (100 < (l1.length : Int)) = true := decide_eq_true c6
      have c6b1 : decide (100 < l1.length) = true := decide_eq_true (by omega)
      clear c6
      (first | rw [c6b0] | (simp only [i64_w, i32_w]; rw [c6b0]) | skip)
      have H' := Aside0.mk H
      clear H
      go_wp2
      go_meet
      case rel => exact ⟨_, (true), (by first | rfl | (simp; done) | (simp [*]; done)), H', ⟨by first | omega | exact Nat.le_refl _⟩, ⟨by repeat (first | (with_reducible first | exact HB.out | apply below_alloc | apply pw_below_drewN | apply below_drew1) | exact HB.out)⟩⟩
    · rw [if_neg c6] at H
      have c6b0 : decide (100 < (l1.length : Int)) = false := decide_eq_false c6
      have c6b1 : decide (100 < l1.length) = false := decide_eq_false (by omega)
      clear c6
      (first | rw [c6b0] | (simp only [i64_w, i32_w]; rw [c6b0]) | skip)
      have H' := Aside0.mk H
      clear H
      go_wp2
      go_meet
      case rel => exact ⟨_, (decide ((l2.length : Int) > 100)), (by first | rfl | (simp; done) | (simp [*]; done)), H', ⟨by first | omega | exact Nat.le_refl _⟩, ⟨by repeat (first | (with_reducible first | exact HB.out | apply below_alloc | apply pw_below_drewN | apply below_drew1) | exact HB.out)⟩⟩
  case rest =>
    clear HC5
    try clear c1
    try clear c2
    try clear p2
    try clear c6
    try clear c6b0
    try clear c6b1
    obtain ⟨kq, x26_4, rfl, HA, HJ4, HB⟩ := hcut
    cases kq with
    | zero => exact absurd HA.out (by simp [spiritlevellaw13_ClauseResolves.j0])
    | succ kj4 =>
      have H := HA.out
      clear HA
      simp only [spiritlevellaw13_ClauseResolves.j0] at H
      by_cases c7 : x26_4 = true
      · subst c7
        have H1 : (some true) = some r := by rw [if_pos rfl] at H; exact H
        clear H
        have H := H1
        clear H1
        obtain rfl := Option.some.inj H
        go_wp2
        go_ret
        exact ⟨by first | rfl | (simp [errW_none, errW_some] <;> rfl) | (simp [*, errW_none, errW_some] <;> rfl), by repeat (first | (with_reducible first | exact HB.out | apply below_alloc | apply pw_below_drewN | apply below_drew1) | exact HB.out)⟩
      · replace c7 := Bool.eq_false_iff.mpr c7
        subst c7
        have H1 : ((clause_Implies.f kj4 a0 l1 l2).bind fun bt197 => ((spiritlevelref13_Implies.f kj4 a0 l1 l2).bind fun bt199 => ((clause_Resolve.f kj4 a0 l1 l2 a3).bind fun bt201 => ((spiritlevelref13_Resolve.f kj4 a0 l1 l2 a3).bind fun bt206 => (if (bt197.1 == bt199.1) = true then (if bt197.2 = bt199.2 then ((spiritlevelref13_Same.f kj4 bt201.1 bt206.1).bind fun t211 => (if t211 = true then (if (bt201.2.1 == bt206.2.1) = true then (some (bt201.2.2 == bt206.2.2)) else (some false)) else (some false))) else (some false)) else (some false)))))) = some r := by rw [if_neg (show ¬ (false = true) by decide)] at H; exact H
        clear H
        have H := H1
        clear H1
        replace H := Option.bind_eq_some_iff.mp H
        obtain ⟨⟨t197, t198⟩, A80, H⟩ := H
        replace H : ((spiritlevelref13_Implies.f kj4 a0 l1 l2).bind fun bt199 => ((clause_Resolve.f kj4 a0 l1 l2 a3).bind fun bt201 => ((spiritlevelref13_Resolve.f kj4 a0 l1 l2 a3).bind fun bt206 => (if (t197 == bt199.1) = true then (if t198 = bt199.2 then ((spiritlevelref13_Same.f kj4 bt201.1 bt206.1).bind fun t211 => (if t211 = true then (if (bt201.2.1 == bt206.2.1) = true then (some (bt201.2.2 == bt206.2.2)) else (some false)) else (some false))) else (some false)) else (some false))))) = some r := H
        have A8 := Aside0.mk A80
        clear A80
        replace H := Option.bind_eq_some_iff.mp H
        obtain ⟨⟨t199, t200⟩, A90, H⟩ := H
        replace H : ((clause_Resolve.f kj4 a0 l1 l2 a3).bind fun bt201 => ((spiritlevelref13_Resolve.f kj4 a0 l1 l2 a3).bind fun bt206 => (if (t197 == t199) = true then (if t198 = t200 then ((spiritlevelref13_Same.f kj4 bt201.1 bt206.1).bind fun t211 => (if t211 = true then (if (bt201.2.1 == bt206.2.1) = true then (some (bt201.2.2 == bt206.2.2)) else (some false)) else (some false))) else (some false)) else (some false)))) = some r := H
        have A9 := Aside0.mk A90
        clear A90
        replace H := Option.bind_eq_some_iff.mp H
        obtain ⟨⟨t201, t202, t203⟩, A100, H⟩ := H
        replace H : ((spiritlevelref13_Resolve.f kj4 a0 l1 l2 a3).bind fun bt206 => (if (t197 == t199) = true then (if t198 = t200 then ((spiritlevelref13_Same.f kj4 t201 bt206.1).bind fun t211 => (if t211 = true then (if (t202 == bt206.2.1) = true then (some (t203 == bt206.2.2)) else (some false)) else (some false))) else (some false)) else (some false))) = some r := H
        have A10 := Aside0.mk A100
        clear A100
        replace H := Option.bind_eq_some_iff.mp H
        obtain ⟨⟨t206, t207, t208⟩, A110, H⟩ := H
        replace H : (if (t197 == t199) = true then (if t198 = t200 then ((spiritlevelref13_Same.f kj4 t201 t206).bind fun t211 => (if t211 = true then (if (t202 == t207) = true then (some (t203 == t208)) else (some false)) else (some false))) else (some false)) else (some false)) = some r := H
        have A11 := Aside0.mk A110
        clear A110
        by_cases c12 : (t197 == t199) = true
        · rw [if_pos c12] at H
          have c12b0 : (t197 == t199) = true := c12
          (try (have c12b1 : decide (t197 = t199) = true := by simpa using c12))
          (try (have c12b2 : (t197 == t199) = true := by simpa using c12))
          clear c12
          by_cases c13 : t198 = t200
          · rw [if_pos c13] at H
            have c13b0 : (t198 == t200) = true := beq_iff_eq.mpr c13
            have c13b1 : (t198 != t200) = false := bne_eq_false_iff_eq.mpr c13
            clear c13
            replace H := Option.bind_eq_some_iff.mp H
            obtain ⟨t211, A140, H⟩ := H
            replace H : (if t211 = true then (if (t202 == t207) = true then (some (t203 == t208)) else (some false)) else (some false)) = some r := H
            have A14 := Aside0.mk A140
            clear A140
            by_cases c15 : t211 = true
            · subst c15
              have H1 : (if (t202 == t207) = true then (some (t203 == t208)) else (some false)) = some r := by rw [if_pos rfl] at H; exact H
              clear H
              have H := H1
              clear H1
              by_cases c16 : (t202 == t207) = true
              · rw [if_pos c16] at H
                have c16b0 : (t202 == t207) = true := c16
                (try (have c16b1 : decide (t202 = t207) = true := by simpa using c16))
                (try (have c16b2 : (t202 == t207) = true := by simpa using c16))
                clear c16
                obtain rfl := Option.some.inj H
                go_wp2_with (first | ((with_reducible refine gate_callee (f := 23) rfl ?_); refine goesL_ (some 31) rfl rfl Try.func23 (by kernel_rfl) rfl #[.int .i64 a0, .slice A1 l1.length c1, .slice A2 l2.length c2] rfl (by (try simp only [List.map_toArray, List.map_cons, List.map_nil]); first | done | rfl | (simp only [List.length_drop, List.length_take]; rfl)) ?_; (with_reducible refine (clause_Implies.calls kj4 a0 _ _ l1 _ _ l2 t197 t198 _ ?side1 ?side2 ?side3 ?side4 A8.out).mono ?_); (case side1 => repeat (first | exact (Kd.C_below HR1.out HB.out) | (with_reducible refine Kd.C_alloc ?_ _) | (with_reducible refine Kd.C_drewN ?_ _) | (with_reducible refine Kd.C_drew ?_))); (case side2 => exact HC1.out); (case side3 => repeat (first | exact (Kd.C_below HR2.out HB.out) | (with_reducible refine Kd.C_alloc ?_ _) | (with_reducible refine Kd.C_drewN ?_ _) | (with_reducible refine Kd.C_drew ?_))); (case side4 => exact HC2.out); rintro e w' ⟨rfl, ⟨nd, rfl⟩⟩; refine ⟨_, rfl, ?_⟩) | ((with_reducible refine gate_callee (f := 24) rfl ?_); refine goesL_ (some 38) rfl rfl Try.func24 (by kernel_rfl) rfl #[.int .i64 a0, .slice A1 l1.length c1, .slice A2 l2.length c2] rfl (by (try simp only [List.map_toArray, List.map_cons, List.map_nil]); first | done | rfl | (simp only [List.length_drop, List.length_take]; rfl)) ?_; (with_reducible refine (spiritlevelref13_Implies.calls kj4 a0 _ _ l1 _ _ l2 t199 t200 _ ?side1 ?side2 ?side3 ?side4 A9.out).mono ?_); (case side1 => repeat (first | exact (Kd.C_below HR1.out (by repeat (first | (with_reducible first | exact HB.out | apply below_alloc | apply pw_below_drewN | apply below_drew1) | exact HB.out))) | (with_reducible refine Kd.C_alloc ?_ _) | (with_reducible refine Kd.C_drewN ?_ _) | (with_reducible refine Kd.C_drew ?_))); (case side2 => exact HC1.out); (case side3 => repeat (first | exact (Kd.C_below HR2.out (by repeat (first | (with_reducible first | exact HB.out | apply below_alloc | apply pw_below_drewN | apply below_drew1) | exact HB.out))) | (with_reducible refine Kd.C_alloc ?_ _) | (with_reducible refine Kd.C_drewN ?_ _) | (with_reducible refine Kd.C_drew ?_))); (case side4 => exact HC2.out); rintro e w17 ⟨rfl, hb⟩; refine ⟨_, rfl, ?_⟩; have n0_ := Aside0.mk (below_step (by repeat (first | (with_reducible first | exact HB.out | apply below_alloc | apply pw_below_drewN | apply below_drew1) | exact HB.out)) hb); clear HB; have HB := n0_; clear n0_; (try clear hb); (try clear hb2); (try clear hk); (try clear hi)) | ((with_reducible refine gate_callee (f := 18) rfl ?_); refine goesL_ (some 46) rfl rfl Try.func18 (by kernel_rfl) rfl #[.int .i64 a0, .slice A1 l1.length c1, .slice A2 l2.length c2, .int .i64 a3] rfl (by (try simp only [List.map_toArray, List.map_cons, List.map_nil]); first | done | rfl | (simp only [List.length_drop, List.length_take]; rfl)) ?_; (with_reducible refine (clause_Resolve.calls kj4 a0 _ _ l1 _ _ l2 a3 t201 t202 t203 _ ?side1 ?side2 ?side3 ?side4 A10.out).mono ?_); (case side1 => repeat (first | exact (Kd.C_below HR1.out HB.out) | (with_reducible refine Kd.C_alloc ?_ _) | (with_reducible refine Kd.C_drewN ?_ _) | (with_reducible refine Kd.C_drew ?_))); (case side2 => exact HC1.out); (case side3 => repeat (first | exact (Kd.C_below HR2.out HB.out) | (with_reducible refine Kd.C_alloc ?_ _) | (with_reducible refine Kd.C_drewN ?_ _) | (with_reducible refine Kd.C_drew ?_))); (case side4 => exact HC2.out); rintro e w18 ⟨v204, rfl, ho0, hb⟩; refine ⟨_, rfl, ?_⟩; have n0_ := Aside0.mk (Kd.R_lower ho0 (below_size (by repeat (first | (with_reducible first | exact HB.out | apply below_alloc | apply pw_below_drewN | apply below_drew1) | exact HB.out)))); have n1_ := Aside0.mk (below_step (by repeat (first | (with_reducible first | exact HB.out | apply below_alloc | apply pw_below_drewN | apply below_drew1) | exact HB.out)) hb); clear HB; have HO205 := n0_; have HB := n1_; clear n0_ n1_; (try clear hb); (try clear hb2); (try clear hk); (try clear hi); (try clear ho0)) | ((with_reducible refine gate_callee (f := 25) rfl ?_); refine goesL_ (some 55) rfl rfl Try.func25 (by kernel_rfl) rfl #[.int .i64 a0, .slice A1 l1.length c1, .slice A2 l2.length c2, .int .i64 a3] rfl (by (try simp only [List.map_toArray, List.map_cons, List.map_nil]); first | done | rfl | (simp only [List.length_drop, List.length_take]; rfl)) ?_; (with_reducible refine (spiritlevelref13_Resolve.calls kj4 a0 _ _ l1 _ _ l2 a3 t206 t207 t208 _ ?side1 ?side2 ?side3 ?side4 A11.out).mono ?_); (case side1 => repeat (first | exact (Kd.C_below HR1.out HB.out) | (with_reducible refine Kd.C_alloc ?_ _) | (with_reducible refine Kd.C_drewN ?_ _) | (with_reducible refine Kd.C_drew ?_))); (case side2 => exact HC1.out); (case side3 => repeat (first | exact (Kd.C_below HR2.out HB.out) | (with_reducible refine Kd.C_alloc ?_ _) | (with_reducible refine Kd.C_drewN ?_ _) | (with_reducible refine Kd.C_drew ?_))); (case side4 => exact HC2.out); rintro e w19 ⟨v209, rfl, ho0, hb⟩; refine ⟨_, rfl, ?_⟩; have n0_ := Aside0.mk (Kd.R_elder' (by (with_reducible repeat (first | apply Kd.R_alloc | apply Kd.R_drewN | apply Kd.R_drew)); exact HO205.out) (Kd.R_base ho0) hb); have n1_ := Aside0.mk (Kd.R_lower (Kd.R_new' ho0 (Kd.R_lt (by (with_reducible repeat (first | apply Kd.R_alloc | apply Kd.R_drewN | apply Kd.R_drew)); exact HO205.out))) (below_size (by repeat (first | (with_reducible first | exact HB.out | apply below_alloc | apply pw_below_drewN | apply below_drew1) | exact HB.out)))); have n2_ := Aside0.mk (below_step (by repeat (first | (with_reducible first | exact HB.out | apply below_alloc | apply pw_below_drewN | apply below_drew1) | exact HB.out)) hb); clear HO205; clear HB; have HO205 := n0_; have HO210 := n1_; have HB := n2_; clear n0_ n1_ n2_; (try clear hb); (try clear hb2); (try clear hk); (try clear hi); (try clear ho0); obtain ⟨Ao20, co20, eo20⟩ := Kd.R_slice HO205.out; subst eo20; obtain ⟨Ao21, co21, eo21⟩ := Kd.R_slice HO210.out; subst eo21) | (go_at_call 14; (with_reducible refine (spiritlevelref13_Same.calls kj4 _ _ t201 _ _ t206 true _ ?side1 ?side2 ?side3 ?side4 A14.out).mono ?_); (case side1 => repeat (first | exact (Kd.R_reads' HO205.out).2.2 | (with_reducible refine Kd.C_alloc ?_ _) | (with_reducible refine Kd.C_drewN ?_ _) | (with_reducible refine Kd.C_drew ?_))); (case side2 => exact (Kd.R_reads' HO205.out).2.1); (case side3 => repeat (first | exact (Kd.R_reads' HO210.out).2.2 | (with_reducible refine Kd.C_alloc ?_ _) | (with_reducible refine Kd.C_drewN ?_ _) | (with_reducible refine Kd.C_drew ?_))); (case side4 => exact (Kd.R_reads' HO210.out).2.1); rintro e w' ⟨rfl, ⟨nd, rfl⟩⟩))
                go_ret
                exact ⟨by first | rfl | (simp [errW_none, errW_some] <;> rfl) | (simp [*, errW_none, errW_some] <;> rfl), by repeat (first | (with_reducible first | exact HB.out | apply below_alloc | apply pw_below_drewN | apply below_drew1) | exact HB.out)⟩
              · rw [if_neg c16] at H
                have c16b0 : (t202 == t207) = false := by simpa using c16
                (try (have c16b1 : decide (t202 = t207) = false := by simpa using c16))
                (try (have c16b2 : (t202 == t207) = false := by simpa using c16))
                (try (have c16b3 : ¬ (t202 = t207) := by simpa using c16))
                clear c16
                exact absurd ((Option.some.inj H).trans HT_.out) (by decide)
            · replace c15 := Bool.eq_false_iff.mpr c15
              subst c15
              have H1 : (some false) = some r := by rw [if_neg (show ¬ (false = true) by decide)] at H; exact H
              clear H
              have H := H1
              clear H1
              exact absurd ((Option.some.inj H).trans HT_.out) (by decide)
          · rw [if_neg c13] at H
            have c13b0 : (t198 == t200) = false := beq_eq_false_iff_ne.mpr c13
            have c13b1 : (t198 != t200) = true := bne_iff_ne.mpr c13
            exact absurd ((Option.some.inj H).trans HT_.out) (by decide)
        · rw [if_neg c12] at H
          have c12b0 : (t197 == t199) = false := by simpa using c12
          (try (have c12b1 : decide (t197 = t199) = false := by simpa using c12))
          (try (have c12b2 : (t197 == t199) = false := by simpa using c12))
          (try (have c12b3 : ¬ (t197 = t199) := by simpa using c12))
          clear c12
          exact absurd ((Option.some.inj H).trans HT_.out) (by decide)

/-- THE ONE PURE STATEMENT of spiritlevellaw13_ClauseResolves. -/
def spiritlevellaw13_ClauseResolves.Pure : Prop := ∀ (a0 : Int) (l1 : List Int) (l2 : List Int) (a3 : Int), ((Lit.int .i64 a0).wf = true) → (l1.length ≤ 9223372036854775807 ∧ l1.length * 8 ≤ 140737488351232 ∧ ∀ x0_ ∈ l1, (Lit.int .i64 x0_).wf = true) → (l2.length ≤ 9223372036854775807 ∧ l2.length * 8 ≤ 140737488351232 ∧ ∀ x0_ ∈ l2, (Lit.int .i64 x0_).wf = true) → ((Lit.int .i64 a3).wf = true) → ∃ k, spiritlevellaw13_ClauseResolves.f k a0 l1 l2 a3 = some true
theorem spiritlevellaw13_ClauseResolves.walk (P : spiritlevellaw13_ClauseResolves.Pure) (a0 : Int) (A1 : Option Addr) (c1 : Nat) (l1 : List Int) (A2 : Option Addr) (c2 : Nat) (l2 : List Int) (a3 : Int) (w : World) (hr1 : Kd.C (Kd.int .i64) w A1 l1.length l1) (hc1 : l1.length ≤ c1) (hr2 : Kd.C (Kd.int .i64) w A2 l2.length l2) (hc2 : l2.length ≤ c2) (ok0 : (Lit.int .i64 a0).wf = true) (ok1 : l1.length ≤ 9223372036854775807 ∧ l1.length * 8 ≤ 140737488351232 ∧ ∀ x0_ ∈ l1, (Lit.int .i64 x0_).wf = true) (ok2 : l2.length ≤ 9223372036854775807 ∧ l2.length * 8 ≤ 140737488351232 ∧ ∀ x0_ ∈ l2, (Lit.int .i64 x0_).wf = true) (ok3 : (Lit.int .i64 a3).wf = true) :
    Calls Try.prog 7 #[.int .i64 a0, .slice A1 l1.length c1, .slice A2 l2.length c2, .int .i64 a3] w fun e w' => e = .returned (.bool true) ∧ Below w.heap.size w w' := by
  obtain ⟨k, h⟩ := P a0 l1 l2 a3 ok0 ok1 ok2 ok3
  refine (spiritlevellaw13_ClauseResolves.calls k a0 A1 c1 l1 A2 c2 l2 a3 true w hr1 hc1 hr2 hc2 rfl h).mono ?_
  rintro e w' ⟨rfl, hd⟩
  exact ⟨rfl, hd⟩

end Go.Proofs.Ytnicmgakboghpaa.QClauseResolves
