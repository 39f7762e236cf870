-- Made by wip/myprint.sh (a patched print): a text of this session's own.
import Derived.Test.YtnicmgakboghpaaQClauseEmptyx0
import Derived.Test.YtnicmgakboghpaaQClauseEmptyx1
import Derived.Test.YtnicmgakboghpaaQClauseEmptyx3
import Derived.Test.YtnicmgakboghpaaQClauseEmptyx4
namespace Go.Proofs.Ytnicmgakboghpaa.QClauseEmpty
open Go.RowKit Go.Proofs.YtnicmgakboghpaaW.PrintWords Go.Proofs.YtnicmgakboghpaaW.PrintLast Go.Proofs.YtnicmgakboghpaaW.PrintMore
attribute [local go_sem] max2_int min2_int max_two min_two max_three min_three max_four min_four   -- for this text's walks alone
set_option linter.unusedVariables false
set_option linter.unusedSimpArgs false

/-! ### spiritlevellaw13_ClauseEmpty: function 6 -/
def spiritlevellaw13_ClauseEmpty.j0 : Nat → List Int → List Bool → Bool → Bool → Option (Bool)
  | 0, _, _, _, _ => none
  | k + 1, x0, x1, x5, x25 => if x25 = true then (some x5) else (if (x0.length : Int) = 0 then ((clause_True.f k x0 x1).bind fun bt182 => (if x5 = true then (if bt182.2 = 0 then (some (!bt182.1)) else (some false)) else (some false))) else ((some (([] : List Bool) : List Bool)).bind fun y184 => (if y184.length + x1.length < 140737488355328 then ((some (y184 ++ x1 : List Bool)).bind fun y187 => (if 0 < (x0.length : Int) then (if 0 ≤ (wrap64 ((wrap64 (Int.tdiv (rd x0 0) 2)) - 1)) then (if (wrap64 ((wrap64 (Int.tdiv (rd x0 0) 2)) - 1)) < (y187.length : Int) then ((clause_True.f k x0 (y187.set ((wrap64 ((wrap64 (Int.tdiv (rd x0 0) 2)) - 1)) : Int).toNat ((Int.tmod (rd x0 0) 2) == 0))).bind fun bt193 => (if x5 = true then (if bt193.2 = 0 then (some bt193.1) else (some false)) else (some false))) else (none)) else (none)) else (none))) else (none))))
def spiritlevellaw13_ClauseEmpty.f (k : Nat) (l0 : List Int) (l1 : List Bool) : Option (Bool) := (spiritlevellaw13_alive.f k).bind fun t180 => (if (l1.length : Int) > 4000 then (spiritlevellaw13_ClauseEmpty.j0 k l0 l1 t180 true) else ((spiritlevelref13_Check.f k (l1.length : Int) l0).bind fun t181 => (if t181 = 0 then (spiritlevellaw13_ClauseEmpty.j0 k l0 l1 t180 (!t180)) else (spiritlevellaw13_ClauseEmpty.j0 k l0 l1 t180 true))))
theorem spiritlevellaw13_ClauseEmpty.mono_l : ∀ k, (∀ y0 y1 y2 y3, LeO (spiritlevellaw13_ClauseEmpty.j0 k y0 y1 y2 y3) (spiritlevellaw13_ClauseEmpty.j0 (k + 1) y0 y1 y2 y3))
  | 0 => fun _ _ _ _ r h => by simp [spiritlevellaw13_ClauseEmpty.j0] at h
  | k + 1 => by
    have ih0 := spiritlevellaw13_ClauseEmpty.mono_l k
    · intro y0 y1 y2 y3
      unfold spiritlevellaw13_ClauseEmpty.j0
      repeat' first
      | (with_reducible exact ih0 _ _ _ _)
      | (with_reducible exact clause_True.mono _ _ _)
      | (with_reducible exact spiritlevellaw13_alive.mono _)
      | (with_reducible exact spiritlevelref13_Check.mono _ _ _)
      | (with_reducible exact LeO.refl _)
      | (with_reducible exact LeO.none _)
      | (with_reducible refine LeO.ite ?_ ?_)
      | (with_reducible refine LeO.bind ?_ (fun _ => ?_))
      | exact ih0 _ _ _ _
      | exact clause_True.mono _ _ _
      | exact spiritlevellaw13_alive.mono _
      | exact spiritlevelref13_Check.mono _ _ _
      | exact LeO.none _
      | refine LeO.ite ?_ ?_
      | refine LeO.bind ?_ (fun _ => ?_)
theorem spiritlevellaw13_ClauseEmpty.mono : ∀ a0 a1 k, LeO (spiritlevellaw13_ClauseEmpty.f k a0 a1) (spiritlevellaw13_ClauseEmpty.f (k + 1) a0 a1) := by
  intro a0 a1 k
  have ih0 := spiritlevellaw13_ClauseEmpty.mono_l k
  unfold spiritlevellaw13_ClauseEmpty.f
  repeat' first
      | (with_reducible exact ih0 _ _ _ _)
      | (with_reducible exact clause_True.mono _ _ _)
      | (with_reducible exact spiritlevellaw13_alive.mono _)
      | (with_reducible exact spiritlevelref13_Check.mono _ _ _)
      | (with_reducible exact LeO.refl _)
      | (with_reducible exact LeO.none _)
      | (with_reducible refine LeO.ite ?_ ?_)
      | (with_reducible refine LeO.bind ?_ (fun _ => ?_))
      | exact ih0 _ _ _ _
      | exact clause_True.mono _ _ _
      | exact spiritlevellaw13_alive.mono _
      | exact spiritlevelref13_Check.mono _ _ _
      | exact LeO.none _
      | refine LeO.ite ?_ ?_
      | refine LeO.bind ?_ (fun _ => ?_)
def spiritlevellaw13_ClauseEmpty.T8 : Bool × List (List Nat × List Nat) := (true, [([], []), ([], []), ([1], [1]), ([2], [2]), ([3], [3]), ([4], [4]), ([], []), ([6], [6]), ([7], [7]), ([8], [8]), ([9], [9]), ([0, 5, 0, 1, 2, 3, 4, 5, 6, 7, 8, 9, 10], [0, 5]), ([11, 10, 0, 1, 2, 3, 4, 5, 6, 7, 8, 9, 10], [10, 11])])
def spiritlevellaw13_ClauseEmpty.B8 : List Nat := [0, 0, 2, 6, 14, 30, 0, 64, 192, 448, 960, 2047, 4095]
theorem spiritlevellaw13_ClauseEmpty.tab8 : rtab .any (opsOf Try.f6 8) = spiritlevellaw13_ClauseEmpty.T8 := by kernel_rfl
theorem spiritlevellaw13_ClauseEmpty.bits8 : waitsOk spiritlevellaw13_ClauseEmpty.T8.2 spiritlevellaw13_ClauseEmpty.B8 = true := by kernel_rfl
set_option maxHeartbeats 8000000 in
set_option maxRecDepth 100000 in
theorem spiritlevellaw13_ClauseEmpty.calls (k : Nat) (A0 : Option Addr) (c0 : Nat) (l0 : List Int) (A1 : Option Addr) (c1 : Nat) (l1 : List Bool) (r : Bool) (w : World) (hr0 : Kd.C (Kd.int .i64) w A0 l0.length l0) (hc0 : l0.length ≤ c0) (hr1 : Kd.C Kd.bool w A1 l1.length l1) (hc1 : l1.length ≤ c1) (ht_ : r = true) (h : spiritlevellaw13_ClauseEmpty.f k l0 l1 = some r) :
    Calls Try.prog 6 #[.slice A0 l0.length c0, .slice A1 l1.length c1] w fun e w' => e = .returned (.bool r) ∧ Below w.heap.size w w' := by
  have HT_ := Aside0.mk ht_
  clear ht_
  have HR0 := Aside0.mk hr0
  have HC0 := Aside0.mk hc0
  clear hr0 hc0
  have HR1 := Aside0.mk hr1
  have HC1 := Aside0.mk hc1
  clear hr1 hc1
  have HB := Aside0.mk (Below.refl w.heap.size w)
  have H : ((spiritlevellaw13_alive.f k).bind fun t180 => (if (l1.length : Int) > 4000 then (spiritlevellaw13_ClauseEmpty.j0 k l0 l1 t180 true) else ((spiritlevelref13_Check.f k (l1.length : Int) l0).bind fun t181 => (if t181 = 0 then (spiritlevellaw13_ClauseEmpty.j0 k l0 l1 t180 (!t180)) else (spiritlevellaw13_ClauseEmpty.j0 k l0 l1 t180 true))))) = some r := h
  clear h
  replace H := Option.bind_eq_some_iff.mp H
  obtain ⟨t180, A30, H⟩ := H
  replace H : (if (l1.length : Int) > 4000 then (spiritlevellaw13_ClauseEmpty.j0 k l0 l1 t180 true) else ((spiritlevelref13_Check.f k (l1.length : Int) l0).bind fun t181 => (if t181 = 0 then (spiritlevellaw13_ClauseEmpty.j0 k l0 l1 t180 (!t180)) else (spiritlevellaw13_ClauseEmpty.j0 k l0 l1 t180 true)))) = some r := H
  have A3 := Aside0.mk A30
  clear A30
  have HC4 := Aside0.mk H
  clear H
  go_enter Try.func6, Try.ntmps6
  go_upto_region 2 with (first | ((with_reducible refine gate_callee (f := 17) rfl ?_); refine goesL_ (some 11) rfl rfl Try.func17 (by kernel_rfl) rfl #[] rfl (by (try simp only [List.map_toArray, List.map_cons, List.map_nil]); first | done | rfl | (simp only [List.length_drop, List.length_take]; rfl)) ?_; (with_reducible refine (spiritlevellaw13_alive.calls k  t180 _ A3.out).mono ?_); rintro e w5 ⟨rfl, hb⟩; refine ⟨_, rfl, ?_⟩; have n0_ := Aside0.mk (below_step (by repeat (first | (with_reducible first | exact HB.out | apply below_alloc | apply pw_below_drewN | apply below_drew1) | exact HB.out)) hb); clear HB; have HB := n0_; clear n0_; (try clear hb); (try clear hb2); (try clear hk); (try clear hi)))
  (try simp only [Act.put, List.setIfInBounds_toArray, List.set_cons_zero, List.set_cons_succ])
  go_cut [25] (fun v25 wc => ∃ (kq : Nat) (x25_3 : Bool), v25 = .bool x25_3 ∧ Aside0 (spiritlevellaw13_ClauseEmpty.j0 kq l0 l1 t180 x25_3 = some r) ∧ Aside0 (kq ≤ k) ∧ Aside0 (Below w.heap.size w wc))
  case first =>
    have H := HC4.out
    clear HC4
    by_cases c6 : (l1.length : Int) > 4000
    · rw [if_pos c6] at H
      have c6b0 : decide (4000 < (l1.length : Int)) = true := decide_eq_true c6
      have c6b1 : decide (4000 < l1.length) = true := decide_eq_true (by omega)
      clear c6
      (first | rw [c6b0] | (simp only [i64_w, i32_w]; rw [c6b0]) | skip)
      have H' := Aside0.mk H
      clear H
      go_wp2
      go_meet
      case rel => exact ⟨_, (true), (by first | rfl | (simp; done) | (simp [*]; done)), H', ⟨by first | omega | exact Nat.le_refl _⟩, ⟨by repeat (first | (with_reducible first | exact HB.out | apply below_alloc | apply pw_below_drewN | apply below_drew1) | exact HB.out)⟩⟩
    · rw [if_neg c6] at H
      have c6b0 : decide (4000 < (l1.length : Int)) = false := decide_eq_false c6
      have c6b1 : decide (4000 < l1.length) = false := decide_eq_false (by omega)
      clear c6
      (first | rw [c6b0] | (simp only [i64_w, i32_w]; rw [c6b0]) | skip)
      replace H := Option.bind_eq_some_iff.mp H
      obtain ⟨t181, A70, H⟩ := H
      replace H : (if t181 = 0 then (spiritlevellaw13_ClauseEmpty.j0 k l0 l1 t180 (!t180)) else (spiritlevellaw13_ClauseEmpty.j0 k l0 l1 t180 true)) = some r := H
      have A7 := Aside0.mk A70
      clear A70
      by_cases c8 : t181 = 0
      · rw [if_pos c8] at H
        have c8b0 : (t181 == 0) = true := beq_iff_eq.mpr c8
        have c8b1 : (t181 != 0) = false := bne_eq_false_iff_eq.mpr c8
        clear c8
        have H' := Aside0.mk H
        clear H
        go_wp2_with (first | (go_at_call 16; (with_reducible refine (spiritlevelref13_Check.calls k (l1.length : Int) _ _ l0 t181 _ ?side1 ?side2 A7.out).mono ?_); (case side1 => repeat (first | exact (Kd.C_below HR0.out HB.out) | (with_reducible refine Kd.C_alloc ?_ _) | (with_reducible refine Kd.C_drewN ?_ _) | (with_reducible refine Kd.C_drew ?_))); (case side2 => exact HC0.out); rintro e w9 ⟨rfl, hb⟩; have n0_ := Aside0.mk (below_step (by repeat (first | (with_reducible first | exact HB.out | apply below_alloc | apply pw_below_drewN | apply below_drew1) | exact HB.out)) hb); clear HB; have HB := n0_; clear n0_; (try clear hb); (try clear hb2); (try clear hk); (try clear hi)))
        go_meet
        case rel => exact ⟨_, (!t180), (by first | rfl | (simp; done) | (simp [*]; done)), H', ⟨by first | omega | exact Nat.le_refl _⟩, ⟨by repeat (first | (with_reducible first | exact HB.out | apply below_alloc | apply pw_below_drewN | apply below_drew1) | exact HB.out)⟩⟩
      · rw [if_neg c8] at H
        have c8b0 : (t181 == 0) = false := beq_eq_false_iff_ne.mpr c8
        have c8b1 : (t181 != 0) = true := bne_iff_ne.mpr c8
        have H' := Aside0.mk H
        clear H
        go_wp2_with (first | (go_at_call 16; (with_reducible refine (spiritlevelref13_Check.calls k (l1.length : Int) _ _ l0 t181 _ ?side1 ?side2 A7.out).mono ?_); (case side1 => repeat (first | exact (Kd.C_below HR0.out HB.out) | (with_reducible refine Kd.C_alloc ?_ _) | (with_reducible refine Kd.C_drewN ?_ _) | (with_reducible refine Kd.C_drew ?_))); (case side2 => exact HC0.out); rintro e w10 ⟨rfl, hb⟩; have n0_ := Aside0.mk (below_step (by repeat (first | (with_reducible first | exact HB.out | apply below_alloc | apply pw_below_drewN | apply below_drew1) | exact HB.out)) hb); clear HB; have HB := n0_; clear n0_; (try clear hb); (try clear hb2); (try clear hk); (try clear hi)))
        go_meet
        case rel => exact ⟨_, (true), (by first | rfl | (simp; done) | (simp [*]; done)), H', ⟨by first | omega | exact Nat.le_refl _⟩, ⟨by repeat (first | (with_reducible first | exact HB.out | apply below_alloc | apply pw_below_drewN | apply below_drew1) | exact HB.out)⟩⟩
  case rest =>
    clear HC4
    try clear c1
    try clear p2
    try clear c6
    try clear c6b0
    try clear c6b1
    try clear c8
    try clear c8b0
    try clear c8b1
    obtain ⟨kq, x25_3, rfl, HA, HJ3, HB⟩ := hcut
    cases kq with
    | zero => exact absurd HA.out (by simp [spiritlevellaw13_ClauseEmpty.j0])
    | succ kj3 =>
      have H := HA.out
      clear HA
      simp only [spiritlevellaw13_ClauseEmpty.j0] at H
      by_cases c11 : x25_3 = true
      · subst c11
        have H1 : (some t180) = some r := by rw [if_pos rfl] at H; exact H
        clear H
        have H := H1
        clear H1
        obtain rfl := Option.some.inj H
        go_wp2
        go_ret
        exact ⟨by first | rfl | (simp [errW_none, errW_some] <;> rfl) | (simp [*, errW_none, errW_some] <;> rfl), by repeat (first | (with_reducible first | exact HB.out | apply below_alloc | apply pw_below_drewN | apply below_drew1) | exact HB.out)⟩
      · replace c11 := Bool.eq_false_iff.mpr c11
        subst c11
        have H1 : (if (l0.length : Int) = 0 then ((clause_True.f kj3 l0 l1).bind fun bt182 => (if t180 = true then (if bt182.2 = 0 then (some (!bt182.1)) else (some false)) else (some false))) else ((some (([] : List Bool) : List Bool)).bind fun y184 => (if y184.length + l1.length < 140737488355328 then ((some (y184 ++ l1 : List Bool)).bind fun y187 => (if 0 < (l0.length : Int) then (if 0 ≤ (wrap64 ((wrap64 (Int.tdiv (rd l0 0) 2)) - 1)) then (if (wrap64 ((wrap64 (Int.tdiv (rd l0 0) 2)) - 1)) < (y187.length : Int) then ((clause_True.f kj3 l0 (y187.set ((wrap64 ((wrap64 (Int.tdiv (rd l0 0) 2)) - 1)) : Int).toNat ((Int.tmod (rd l0 0) 2) == 0))).bind fun bt193 => (if t180 = true then (if bt193.2 = 0 then (some bt193.1) else (some false)) else (some false))) else (none)) else (none)) else (none))) else (none)))) = some r := by rw [if_neg (show ¬ (false = true) by decide)] at H; exact H
        clear H
        have H := H1
        clear H1
        by_cases c12 : (l0.length : Int) = 0
        · rw [if_pos c12] at H
          have c12b0 : ((l0.length : Int) == 0) = true := beq_iff_eq.mpr c12
          have c12b1 : ((l0.length : Int) != 0) = false := bne_eq_false_iff_eq.mpr c12
          clear c12
          replace H := Option.bind_eq_some_iff.mp H
          obtain ⟨⟨t182, t183⟩, A130, H⟩ := H
          replace H : (if t180 = true then (if t183 = 0 then (some (!t182)) else (some false)) else (some false)) = some r := H
          have A13 := Aside0.mk A130
          clear A130
          by_cases c14 : t180 = true
          · subst c14
            have H1 : (if t183 = 0 then (some (!t182)) else (some false)) = some r := by rw [if_pos rfl] at H; exact H
            clear H
            have H := H1
            clear H1
            by_cases c15 : t183 = 0
            · rw [if_pos c15] at H
              have c15b0 : (t183 == 0) = true := beq_iff_eq.mpr c15
              have c15b1 : (t183 != 0) = false := bne_eq_false_iff_eq.mpr c15
              clear c15
              obtain rfl := Option.some.inj H
              go_wp2_with (first | ((with_reducible refine gate_callee (f := 12) rfl ?_); refine goesL_ (some 33) rfl rfl Try.func12 (by kernel_rfl) rfl #[.slice A0 l0.length c0, .slice A1 l1.length c1] rfl (by (try simp only [List.map_toArray, List.map_cons, List.map_nil]); first | done | rfl | (simp only [List.length_drop, List.length_take]; rfl)) ?_; (with_reducible refine (clause_True.calls kj3 _ _ l0 _ _ l1 t182 t183 _ ?side1 ?side2 ?side3 ?side4 A13.out).mono ?_); (case side1 => repeat (first | exact (Kd.C_below HR0.out HB.out) | (with_reducible refine Kd.C_alloc ?_ _) | (with_reducible refine Kd.C_drewN ?_ _) | (with_reducible refine Kd.C_drew ?_))); (case side2 => exact HC0.out); (case side3 => repeat (first | exact (Kd.C_below HR1.out HB.out) | (with_reducible refine Kd.C_alloc ?_ _) | (with_reducible refine Kd.C_drewN ?_ _) | (with_reducible refine Kd.C_drew ?_))); (case side4 => exact HC1.out); rintro e w' ⟨rfl, ⟨nd, rfl⟩⟩; refine ⟨_, rfl, ?_⟩))
              go_ret
              exact ⟨by first | rfl | (simp [errW_none, errW_some] <;> rfl) | (simp [*, errW_none, errW_some] <;> rfl), by repeat (first | (with_reducible first | exact HB.out | apply below_alloc | apply pw_below_drewN | apply below_drew1) | exact HB.out)⟩
            · rw [if_neg c15] at H
              have c15b0 : (t183 == 0) = false := beq_eq_false_iff_ne.mpr c15
              have c15b1 : (t183 != 0) = true := bne_iff_ne.mpr c15
              exact absurd ((Option.some.inj H).trans HT_.out) (by decide)
          · replace c14 := Bool.eq_false_iff.mpr c14
            subst c14
            have H1 : (some false) = some r := by rw [if_neg (show ¬ (false = true) by decide)] at H; exact H
            clear H
            have H := H1
            clear H1
            exact absurd ((Option.some.inj H).trans HT_.out) (by decide)
        · rw [if_neg c12] at H
          have c12b0 : ((l0.length : Int) == 0) = false := beq_eq_false_iff_ne.mpr c12
          have c12b1 : ((l0.length : Int) != 0) = true := bne_iff_ne.mpr c12
          have c12b2 : ¬ (l0 = []) := fun h_ => c12 (by rw [h_]; rfl)
          obtain ⟨y184, hy184⟩ : ∃ y_ : List Bool, y_ = (([] : List Bool)) := ⟨_, rfl⟩
          replace H : (if y184.length + l1.length < 140737488355328 then ((some (y184 ++ l1 : List Bool)).bind fun y187 => (if 0 < (l0.length : Int) then (if 0 ≤ (wrap64 ((wrap64 (Int.tdiv (rd l0 0) 2)) - 1)) then (if (wrap64 ((wrap64 (Int.tdiv (rd l0 0) 2)) - 1)) < (y187.length : Int) then ((clause_True.f kj3 l0 (y187.set ((wrap64 ((wrap64 (Int.tdiv (rd l0 0) 2)) - 1)) : Int).toNat ((Int.tmod (rd l0 0) 2) == 0))).bind fun bt193 => (if t180 = true then (if bt193.2 = 0 then (some bt193.1) else (some false)) else (some false))) else (none)) else (none)) else (none))) else (none)) = some r := by first | (rw [hy184]; with_reducible exact H) | (have H2_ := (Option.bind_some _ _).symm.trans H; rw [hy184]; with_reducible exact H2_) | (have H2_ := (Option.bind_some _ _).symm.trans H; with_reducible exact H2_) | with_reducible exact H | (rw [hy184]; exact H) | exact H
          have Ny184 := Aside0.mk hy184
          clear hy184
          by_cases c16 : y184.length + l1.length < 140737488355328
          · rw [if_pos c16] at H
            have LMc16 := Aside0.mk c16
            clear c16
            obtain ⟨y187, hy187⟩ : ∃ y_ : List Bool, y_ = (y184 ++ l1) := ⟨_, rfl⟩
            replace H : (if 0 < (l0.length : Int) then (if 0 ≤ (wrap64 ((wrap64 (Int.tdiv (rd l0 0) 2)) - 1)) then (if (wrap64 ((wrap64 (Int.tdiv (rd l0 0) 2)) - 1)) < (y187.length : Int) then ((clause_True.f kj3 l0 (y187.set ((wrap64 ((wrap64 (Int.tdiv (rd l0 0) 2)) - 1)) : Int).toNat ((Int.tmod (rd l0 0) 2) == 0))).bind fun bt193 => (if t180 = true then (if bt193.2 = 0 then (some bt193.1) else (some false)) else (some false))) else (none)) else (none)) else (none)) = some r := by first | (rw [hy187]; with_reducible exact H) | (have H2_ := (Option.bind_some _ _).symm.trans H; rw [hy187]; with_reducible exact H2_) | (have H2_ := (Option.bind_some _ _).symm.trans H; with_reducible exact H2_) | with_reducible exact H | (rw [hy187]; exact H) | exact H
            have Ny187 := Aside0.mk hy187
            clear hy187
            by_cases c17 : 0 < (l0.length : Int)
            · rw [if_pos c17] at H
              have c17b0 : decide (0 < (l0.length : Int)) = true := decide_eq_true c17
              have c17b1 : decide (0 < l0.length) = true := decide_eq_true (by omega)
              clear c17
              obtain ⟨ji18, hji18⟩ : ∃ j_ : Int, (wrap64 ((wrap64 (Int.tdiv (rd l0 0) 2)) - 1)) = j_ := ⟨_, rfl⟩
              replace H : (if 0 ≤ (ji18) then (if (ji18) < (y187.length : Int) then ((clause_True.f kj3 l0 (y187.set ((ji18) : Int).toNat ((Int.tmod (rd l0 0) 2) == 0))).bind fun bt193 => (if t180 = true then (if bt193.2 = 0 then (some bt193.1) else (some false)) else (some false))) else (none)) else (none)) = some r := by first | (rw [hji18] at H; exact H) | (simp only [hji18] at H ⊢; exact H)
              have hji18w : (IntKind.i64.wrap ((wrap64 (Int.tdiv (rd l0 0) 2)) - 1)) = ji18 := (i64_w _).trans hji18
              by_cases c19 : 0 ≤ (ji18)
              · rw [if_pos c19] at H
                have c19b0 : decide (0 ≤ (ji18)) = true := decide_eq_true c19
                clear c19
                by_cases c20 : (ji18) < (y187.length : Int)
                · rw [if_pos c20] at H
                  have c20b0 : decide ((ji18) < (y187.length : Int)) = true := decide_eq_true c20
                  clear c20
                  obtain ⟨y192, hy192⟩ : ∃ y_ : List Bool, y_ = (y187.set ((ji18) : Int).toNat ((Int.tmod (rd l0 0) 2) == 0)) := ⟨_, rfl⟩
                  replace H : ((clause_True.f kj3 l0 y192).bind fun bt193 => (if t180 = true then (if bt193.2 = 0 then (some bt193.1) else (some false)) else (some false))) = some r := by first | (rw [hy192]; with_reducible exact H) | (have H2_ := (Option.bind_some _ _).symm.trans H; rw [hy192]; with_reducible exact H2_) | (have H2_ := (Option.bind_some _ _).symm.trans H; with_reducible exact H2_) | with_reducible exact H | (rw [hy192]; exact H) | exact H
                  have Ny192 := Aside0.mk hy192
                  clear hy192
                  replace H := Option.bind_eq_some_iff.mp H
                  obtain ⟨⟨t193, t194⟩, A220, H⟩ := H
                  replace H : (if t180 = true then (if t194 = 0 then (some t193) else (some false)) else (some false)) = some r := H
                  have A22 := Aside0.mk A220
                  clear A220
                  by_cases c23 : t180 = true
                  · subst c23
                    have H1 : (if t194 = 0 then (some t193) else (some false)) = some r := by rw [if_pos rfl] at H; exact H
                    clear H
                    have H := H1
                    clear H1
                    by_cases c24 : t194 = 0
                    · rw [if_pos c24] at H
                      have c24b0 : (t194 == 0) = true := beq_iff_eq.mpr c24
                      have c24b1 : (t194 != 0) = false := bne_eq_false_iff_eq.mpr c24
                      clear c24
                      obtain rfl := Option.some.inj H
                      try go_wp2_with (first | ((with_reducible refine gate_dst (N := 45) rfl ?_); (try (refine gate_guard (by rfl) ?_; dsimp only)); refine Kd.R_lit Kd.bool _ 4 ?hg (N := 45) ?hd (xs := ([] : List Bool)) (inner := []) (ok := fun _ => True) (okp := fun _ => True) ?hr ?hp (fun _ hk => hk) trivial (Below.refl _ _) (Nat.le_refl _) (by simp) ?_; (case hd => rfl); (case hg => rfl); (case hr => first | (go_simp; done) | (go_simp; rfl)); (case hp => exact (Reps.none _ _)); intro v185 w25 ho26 hb hg_ hnew_; clear hg_ hnew_; (first | rw [← Ny184.out] at ho26 | (simp only [Int.reduceToNat] at ho26; rw [← Ny184.out] at ho26)); have n0_ := Aside0.mk (Kd.R_lower ho26 (below_size (by repeat (first | (with_reducible first | exact HB.out | apply below_alloc | apply pw_below_drewN | apply below_drew1) | exact HB.out)))); have n1_ := Aside0.mk (below_step (by repeat (first | (with_reducible first | exact HB.out | apply below_alloc | apply pw_below_drewN | apply below_drew1) | exact HB.out)) hb); clear HB; have HO186 := n0_; have HB := n1_; clear n0_ n1_; clear hb ho26) | ((with_reducible refine gate_builtin (b := .append) (xs := #[.tmp 45, .tmp 46]) rfl ?_); (try (refine gate_guard (by rfl) ?_; dsimp only)); at_builtin; refine Kd.R_append_rows Kd.bool (w0 := w) w.heap.size rfl (.tmp 45) (.tmp 46) 23 4 (.bool false) 1 rfl Try.underlying23 info4 rfl (by decide) (by omega) v185 y184 l1 _ _ _ (fun _ => True) (fun _ => False) rfl rfl ?aO ?aR (fun _ _ h => h) (fun _ h => h.elim) ?aF ?aB ?aS ?aL ?_; (case aR => repeat (first | exact (Kd.C_below HR1.out HB.out) | (with_reducible refine Kd.C_alloc ?_ _) | (with_reducible refine Kd.C_drewN ?_ _) | (with_reducible refine Kd.C_drew ?_))); (case aB => exact (by repeat (first | (with_reducible first | exact HB.out | apply below_alloc | apply pw_below_drewN | apply below_drew1) | exact HB.out))); (case aF => exact (fun _ _ => trivial)); (case aO => exact (by (with_reducible repeat (first | apply Kd.R_alloc | apply Kd.R_drewN | apply Kd.R_drew)); exact HO186.out)); (case aS => exact (below_size (by repeat (first | (with_reducible first | exact HB.out | apply below_alloc | apply pw_below_drewN | apply below_drew1) | exact HB.out)))); (case aL => have := LMc16.out; omega); intro v188 w27 ho hb hg hat; rw [← Ny187.out] at ho; have n0_ := Aside0.mk (hb); have n1_ := Aside0.mk (ho); clear HB; clear HO186; have HB := n0_; have HO189 := n1_; clear n0_ n1_; clear ho hb hg hat))
                      have n0_ := Aside0.mk (Kd.R_drew HO189.out)
                      have n1_ := Aside0.mk (below_drew1 HB.out)
                      clear HO189
                      clear HB
                      have HO189 := n0_
                      have HB := n1_
                      clear n0_ n1_
                      have p190 : 0 ≤ (0 : Int) := (by omega)
                      have q190 : 0 < (l0.length : Int) := of_decide_eq_true (by first | (with_reducible assumption) | assumption)
                      obtain ⟨ad190, e190, hx190_0⟩ := Kd.at_int HR0.out 0 p190 q190
                      have hw190_0 := hx190_0
                      (try rw [show ((0 : Int)).toNat = 0 from rfl] at hw190_0)
                      (try rw [show 0 * 1 = 0 from rfl] at hw190_0)
                      (try rw [Addr.add_zero'] at hw190_0)
                      cases e190
                      have qi190 : (0 < l0.length) = True := eq_true (by omega)
                      (try rw [show ((0 : Int)).toNat = 0 from rfl] at hx190_0)
                      (try rw [Addr.add_zero'] at hx190_0)
                      replace hx190_0 := (HB.out.cell (World.block_lt_of_cell? w _ hx190_0)).trans hx190_0
                      replace p190 := eq_true p190
                      replace q190 := eq_true q190
                      have p191 : 0 ≤ (0 : Int) := (by omega)
                      have q191 : 0 < (l0.length : Int) := of_decide_eq_true (by first | (with_reducible assumption) | assumption)
                      obtain ⟨ad191, e191, hx191_0⟩ := Kd.at_int HR0.out 0 p191 q191
                      have hw191_0 := hx191_0
                      (try rw [show ((0 : Int)).toNat = 0 from rfl] at hw191_0)
                      (try rw [show 0 * 1 = 0 from rfl] at hw191_0)
                      (try rw [Addr.add_zero'] at hw191_0)
                      obtain rfl : ad190 = ad191 := (by injection e191)
                      have qi191 : (0 < l0.length) = True := eq_true (by omega)
                      (try rw [show ((0 : Int)).toNat = 0 from rfl] at hx191_0)
                      (try rw [Addr.add_zero'] at hx191_0)
                      replace hx191_0 := (HB.out.cell (World.block_lt_of_cell? w _ hx191_0)).trans hx191_0
                      replace p191 := eq_true p191
                      replace q191 := eq_true q191
                      have p21 : 0 ≤ ((ji18) : Int) := of_decide_eq_true (by first | (with_reducible assumption) | assumption)
                      have q21 : ((ji18) : Int) < ((y187.length : Int) : Int) := of_decide_eq_true (by first | (with_reducible assumption) | assumption)
                      obtain ⟨go21, co21, eo21, gb21, gl21, cl21, HG21⟩ := Kd.R_form HO189.out (by omega)
                      (first | cases eo21 | (injection eo21 with ea_ en_ ec_; (first | subst ea_ | (injection ea_ with ea_; subst ea_)); subst ec_; clear en_))
                      have GB21 := Aside0.mk gb21
                      have GG21 := Aside0.mk HG21
                      clear gb21 gl21 HG21
                      obtain ⟨hx21_0, hf21_0⟩ := Kd.R_celln false HO189.out ((ji18) : Int) p21 q21
                      replace p21 := eq_true p21
                      replace q21 := eq_true q21
                      have HP29 := Kd.R_putn HO189.out ((ji18) : Int) ((Int.tmod (rd l0 0) 2) == 0)
                      rw [← Ny192.out] at HP29
                      have HQ29 := Aside0.mk HP29
                      clear HP29
                      refine start_ (n := 13) (S := fun w' => w'.cell? ad190 = some (.int .i64 (rd l0 0)) ∧ w'.cell? ad190 = some (.int .i64 (rd l0 0))) (ds := [12]) #[false, false, false, false, false, false, false, false, false, false, false, false, false] (by kernel_rfl) rfl rfl ⟨((HB.out.cell (World.block_lt_of_cell? w _ hw190_0)).trans hw190_0), ((HB.out.cell (World.block_lt_of_cell? w _ hw191_0)).trans hw191_0)⟩ (fun hHeld => ?_); refine with_tabW spiritlevellaw13_ClauseEmpty.tab8 spiritlevellaw13_ClauseEmpty.bits8 (fun HT_ HW_ => ?_)
                      generalize w27.drew = w28 at HO189 HB GG21 HQ29 hf21_0 hx190_0 hx191_0 hx21_0 hHeld ⊢
                      refine pure_ (i := 0) (N := some 48) (v := ?_) (a' := ?_) #[true, false, false, false, false, false, false, false, false, false, false, false, false] rfl rfl (any_of HT_.out (by kernel_rfl)) (fun _ _ _ h => h) (Or.inl ⟨by rfl, ?_⟩) ?_ ?_
                      rotate_left
                      · intro w'
                        go_simp
                        with_reducible rfl
                      rotate_left
                      · simp only [Act.put, List.setIfInBounds_toArray, List.set_cons_zero, List.set_cons_succ, i64_w, i32_w]
                        rfl
                      refine pure_ (i := 1) (N := some 49) (v := ?_) (a' := ?_) #[true, true, false, false, false, false, false, false, false, false, false, false, false] rfl rfl (any_of HT_.out (by kernel_rfl)) (fun _ _ _ h => h) (Or.inl ⟨by rfl, ?_⟩) ?_ ?_
                      rotate_left
                      · intro w'
                        go_simp
                        with_reducible rfl
                      rotate_left
                      · simp only [Act.put, List.setIfInBounds_toArray, List.set_cons_zero, List.set_cons_succ, i64_w, i32_w]
                        rfl
                      refine pure_ (i := 2) (N := some 50) (v := ?_) (a' := ?_) #[true, true, true, false, false, false, false, false, false, false, false, false, false] rfl rfl (any_of HT_.out (by kernel_rfl)) (fun _ _ _ h => h) (Or.inl ⟨by rfl, ?_⟩) ?_ ?_
                      rotate_left
                      · intro w'
                        go_simp
                        with_reducible rfl
                      rotate_left
                      · simp only [Act.put, List.setIfInBounds_toArray, List.set_cons_zero, List.set_cons_succ, i64_w, i32_w]
                        rfl
                      refine pure_ (i := 6) (N := some 54) (v := ?_) (a' := ?_) #[true, true, true, false, false, false, true, false, false, false, false, false, false] rfl rfl (any_of HT_.out (by kernel_rfl)) (fun _ _ _ h => h) (Or.inl ⟨by rfl, ?_⟩) ?_ ?_
                      rotate_left
                      · intro w'
                        go_simp
                        with_reducible rfl
                      rotate_left
                      · simp only [Act.put, List.setIfInBounds_toArray, List.set_cons_zero, List.set_cons_succ, i64_w, i32_w]
                        rfl
                      refine pure_ (i := 7) (N := some 55) (v := ?_) (a' := ?_) #[true, true, true, false, false, false, true, true, false, false, false, false, false] rfl rfl (any_of HT_.out (by kernel_rfl)) (fun _ _ _ h => h) (Or.inl ⟨by rfl, ?_⟩) ?_ ?_
                      rotate_left
                      · intro w'
                        go_simp
                        with_reducible rfl
                      rotate_left
                      · simp only [Act.put, List.setIfInBounds_toArray, List.set_cons_zero, List.set_cons_succ, i64_w, i32_w]
                        rfl
                      refine take_ (i := 3) (N := some 51) (v := ?_) (a' := ?_) #[true, true, true, true, false, false, true, true, false, false, false, false, false] rfl rfl (take_ofW HT_.out HW_.out (by kernel_rfl)) (fun _ _ _ h => h) (Or.inl ⟨by rfl, ?_⟩) hHeld ?_ ?_
                      rotate_left
                      · rintro w' ⟨s0, s1⟩
                        go_simp
                        with_reducible rfl
                      rotate_left
                      · simp only [Act.put, List.setIfInBounds_toArray, List.set_cons_zero, List.set_cons_succ, i64_w, i32_w]
                        rfl
                      refine pure_ (i := 4) (N := some 52) (v := ?_) (a' := ?_) #[true, true, true, true, true, false, true, true, false, false, false, false, false] rfl rfl (any_of HT_.out (by kernel_rfl)) (fun _ _ _ h => h) (Or.inl ⟨by rfl, ?_⟩) ?_ ?_
                      rotate_left
                      · intro w'
                        go_simp
                        with_reducible rfl
                      rotate_left
                      · simp only [Act.put, List.setIfInBounds_toArray, List.set_cons_zero, List.set_cons_succ, i64_w, i32_w]
                        rfl
                      refine pure_ (i := 5) (N := some 53) (v := ?_) (a' := ?_) #[true, true, true, true, true, true, true, true, false, false, false, false, false] rfl rfl (any_of HT_.out (by kernel_rfl)) (fun _ _ _ h => h) (Or.inl ⟨by rfl, ?_⟩) ?_ ?_
                      rotate_left
                      · intro w'
                        go_simp
                        with_reducible rfl
                      rotate_left
                      · simp only [Act.put, List.setIfInBounds_toArray, List.set_cons_zero, List.set_cons_succ, i64_w, i32_w]
                        rfl
                      refine take_ (i := 8) (N := some 56) (v := ?_) (a' := ?_) #[true, true, true, true, true, true, true, true, true, false, false, false, false] rfl rfl (take_ofW HT_.out HW_.out (by kernel_rfl)) (fun _ _ _ h => h) (Or.inl ⟨by rfl, ?_⟩) hHeld ?_ ?_
                      rotate_left
                      · rintro w' ⟨s0, s1⟩
                        go_simp
                        with_reducible rfl
                      rotate_left
                      · simp only [Act.put, List.setIfInBounds_toArray, List.set_cons_zero, List.set_cons_succ, i64_w, i32_w]
                        rfl
                      refine pure_ (i := 9) (N := some 57) (v := ?_) (a' := ?_) #[true, true, true, true, true, true, true, true, true, true, false, false, false] rfl rfl (any_of HT_.out (by kernel_rfl)) (fun _ _ _ h => h) (Or.inl ⟨by rfl, ?_⟩) ?_ ?_
                      rotate_left
                      · intro w'
                        go_simp
                        with_reducible rfl
                      rotate_left
                      · simp only [Act.put, List.setIfInBounds_toArray, List.set_cons_zero, List.set_cons_succ, i64_w, i32_w]
                        rfl
                      refine pure_ (i := 10) (N := some 58) (v := ?_) (a' := ?_) #[true, true, true, true, true, true, true, true, true, true, true, false, false] rfl rfl (any_of HT_.out (by kernel_rfl)) (fun _ _ _ h => h) (Or.inl ⟨by rfl, ?_⟩) ?_ ?_
                      rotate_left
                      · intro w'
                        go_simp
                        with_reducible rfl
                      rotate_left
                      · simp only [Act.put, List.setIfInBounds_toArray, List.set_cons_zero, List.set_cons_succ, i64_w, i32_w]
                        rfl
                      refine pure_ (i := 11) (N := some 59) (v := ?_) (a' := ?_) #[true, true, true, true, true, true, true, true, true, true, true, true, false] rfl rfl (any_of HT_.out (by kernel_rfl)) (fun _ _ _ h => h) (Or.inl ⟨by rfl, ?_⟩) ?_ ?_
                      rotate_left
                      · intro w'
                        go_simp
                        with_reducible rfl
                      rotate_left
                      · simp only [Act.put, List.setIfInBounds_toArray, List.set_cons_zero, List.set_cons_succ, i64_w, i32_w]
                        rfl
                      refine last_ (i := 12) (N := none) #[true, true, true, true, true, true, true, true, true, true, true, true, true] rfl rfl (one_of HT_.out (by kernel_rfl)) (by decide) (fun K hK => ?_)
                      refine skip_ (w1 := ?_) (by rfl) rfl ?_ ?_
                      rotate_left
                      · go_simp
                        rfl
                      refine hK.out _ _ ?_
                      clear hK K
                      refine done_ (done_of HT_.out (by kernel_rfl)) ?_
                      try go_wp2_with (first | ((with_reducible refine gate_callee (f := 12) rfl ?_); refine goesL_ (some 63) rfl rfl Try.func12 (by kernel_rfl) rfl #[.slice (some ad190) l0.length c0, .slice (some ⟨go21, 0, none⟩) y192.length co21] rfl (by (try simp only [List.map_toArray, List.map_cons, List.map_nil]); first | done | (rw [show y192.length = y187.length from (Kd.R_reads' HQ29.out).1.symm] <;> rfl) | rfl | (simp only [List.length_drop, List.length_take]; rfl)) ?_; (with_reducible refine (clause_True.calls kj3 _ _ l0 _ _ y192 t193 t194 _ ?side1 ?side2 ?side3 ?side4 A22.out).mono ?_); (case side1 => exact Kd.C_below HR0.out (by repeat (first | (with_reducible first | exact HB.out | apply below_alloc | apply pw_below_drewN | apply below_drew1 | refine below_set ?_ GB21.out) | exact HB.out))); (case side2 => exact HC0.out); (case side3 => refine (Kd.R_reads' (e := 4) (base := w.heap.size) (ok := fun k_ => True) (n := y187.length) (c := co21) ?_).2.2; exact (by (with_reducible repeat (first | apply Kd.R_alloc | apply Kd.R_drewN | apply Kd.R_drew)); exact HQ29.out)); (case side4 => rw [show y192.length = y187.length from (Kd.R_reads' HQ29.out).1.symm]; exact (Kd.R_reads' HO189.out).2.1); rintro e w' ⟨rfl, ⟨nd, rfl⟩⟩; refine ⟨_, rfl, ?_⟩))
                      go_ret
                      exact ⟨by first | rfl | (simp [errW_none, errW_some] <;> rfl) | (simp only [← hji18]; first | rfl | (simp [errW_none, errW_some] <;> rfl)) | (simp [*, errW_none, errW_some] <;> rfl), by repeat (first | (with_reducible first | exact HB.out | apply below_alloc | apply pw_below_drewN | apply below_drew1 | refine below_set ?_ GB21.out) | exact HB.out)⟩
                    · rw [if_neg c24] at H
                      have c24b0 : (t194 == 0) = false := beq_eq_false_iff_ne.mpr c24
                      have c24b1 : (t194 != 0) = true := bne_iff_ne.mpr c24
                      exact absurd ((Option.some.inj H).trans HT_.out) (by decide)
                  · replace c23 := Bool.eq_false_iff.mpr c23
                    subst c23
                    have H1 : (some false) = some r := by rw [if_neg (show ¬ (false = true) by decide)] at H; exact H
                    clear H
                    have H := H1
                    clear H1
                    exact absurd ((Option.some.inj H).trans HT_.out) (by decide)
                · rw [if_neg c20] at H
                  exact absurd H (by simp)
              · rw [if_neg c19] at H
                exact absurd H (by simp)
            · rw [if_neg c17] at H
              exact absurd H (by simp)
          · rw [if_neg c16] at H
            exact absurd H (by simp)

/-- THE ONE PURE STATEMENT of spiritlevellaw13_ClauseEmpty. -/
def spiritlevellaw13_ClauseEmpty.Pure : Prop := ∀ (l0 : List Int) (l1 : List Bool), (l0.length ≤ 9223372036854775807 ∧ l0.length * 8 ≤ 140737488351232 ∧ ∀ x0_ ∈ l0, (Lit.int .i64 x0_).wf = true) → (l1.length ≤ 9223372036854775807 ∧ l1.length * 1 ≤ 140737488351232 ∧ ∀ x0_ ∈ l1, True) → ∃ k, spiritlevellaw13_ClauseEmpty.f k l0 l1 = some true
theorem spiritlevellaw13_ClauseEmpty.walk (P : spiritlevellaw13_ClauseEmpty.Pure) (A0 : Option Addr) (c0 : Nat) (l0 : List Int) (A1 : Option Addr) (c1 : Nat) (l1 : List Bool) (w : World) (hr0 : Kd.C (Kd.int .i64) w A0 l0.length l0) (hc0 : l0.length ≤ c0) (hr1 : Kd.C Kd.bool w A1 l1.length l1) (hc1 : l1.length ≤ c1) (ok0 : l0.length ≤ 9223372036854775807 ∧ l0.length * 8 ≤ 140737488351232 ∧ ∀ x0_ ∈ l0, (Lit.int .i64 x0_).wf = true) (ok1 : l1.length ≤ 9223372036854775807 ∧ l1.length * 1 ≤ 140737488351232 ∧ ∀ x0_ ∈ l1, True) :
    Calls Try.prog 6 #[.slice A0 l0.length c0, .slice A1 l1.length c1] w fun e w' => e = .returned (.bool true) ∧ Below w.heap.size w w' := by
  obtain ⟨k, h⟩ := P l0 l1 ok0 ok1
  refine (spiritlevellaw13_ClauseEmpty.calls k A0 c0 l0 A1 c1 l1 true w hr0 hc0 hr1 hc1 rfl h).mono ?_
  rintro e w' ⟨rfl, hd⟩
  exact ⟨rfl, hd⟩

end Go.Proofs.Ytnicmgakboghpaa.QClauseEmpty
