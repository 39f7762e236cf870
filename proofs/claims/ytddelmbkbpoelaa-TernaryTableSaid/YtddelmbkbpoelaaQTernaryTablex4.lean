-- Made by wip/myprint.sh (a patched print): a text of this session's own.
import Derived.Test.YtddelmbkbpoelaaQTernaryTablex0
import Derived.Test.YtddelmbkbpoelaaQTernaryTablex1
import Derived.Test.YtddelmbkbpoelaaQTernaryTablex3
namespace Go.Proofs.Ytddelmbkbpoelaa.QTernaryTable
open Go.RowKit Go.Proofs.YtddelmbkbpoelaaW.PrintWords Go.Proofs.YtddelmbkbpoelaaW.PrintLast Go.Proofs.YtddelmbkbpoelaaW.PrintMore
attribute [local go_sem] max2_int min2_int max_two min_two max_three min_three max_four min_four   -- for this text's walks alone
set_option linter.unusedVariables false
set_option linter.unusedSimpArgs false

/-! ### spiritlevellaw05_TernaryTable: function 4 -/
def spiritlevellaw05_TernaryTable.j0 : Nat → Int → Int → Int → Bool → Option (Bool)
  | 0, _, _, _, _ => none
  | k + 1, x0, x1, x2, x20 => if x20 = true then ((spiritlevellaw05_alive.f k).bind fun t158 => (some t158)) else ((ternary_Not.f x0).bind fun bt159 => ((ternary_Not.f bt159.1).bind fun bt161 => (if bt159.2 = 0 then (if bt161.2 = 0 then (if bt161.1 = x0 then ((spiritlevellaw05_both.f k x0 x1).bind fun t163 => ((spiritlevellaw05_both.f k x1 x0).bind fun t164 => (if t163 = t164 then ((spiritlevellaw05_both.f k x0 x1).bind fun t165 => ((spiritlevellaw05_both.f k t165 x2).bind fun t166 => ((spiritlevellaw05_both.f k x1 x2).bind fun t167 => ((spiritlevellaw05_both.f k x0 t167).bind fun t168 => (if t166 = t168 then ((spiritlevellaw05_both.f k x0 1).bind fun t169 => (if t169 = x0 then ((spiritlevellaw05_both.f k x0 0).bind fun t170 => (if t170 = 0 then ((spiritlevellaw05_both.f k x0 x0).bind fun t171 => (if t171 = x0 then ((spiritlevellaw05_alive.f k).bind fun t172 => (some t172)) else (some false))) else (some false))) else (some false))) else (some false)))))) else (some false)))) else (some false)) else (some false)) else (some false))))
def spiritlevellaw05_TernaryTable.f (k : Nat) (a0 : Int) (a1 : Int) (a2 : Int) : Option (Bool) := if a0 > 2 then (spiritlevellaw05_TernaryTable.j0 k a0 a1 a2 true) else (if a1 > 2 then (spiritlevellaw05_TernaryTable.j0 k a0 a1 a2 true) else (spiritlevellaw05_TernaryTable.j0 k a0 a1 a2 (decide (a2 > 2))))
theorem spiritlevellaw05_TernaryTable.mono_l : ∀ k, (∀ y0 y1 y2 y3, LeO (spiritlevellaw05_TernaryTable.j0 k y0 y1 y2 y3) (spiritlevellaw05_TernaryTable.j0 (k + 1) y0 y1 y2 y3))
  | 0 => fun _ _ _ _ r h => by simp [spiritlevellaw05_TernaryTable.j0] at h
  | k + 1 => by
    have ih0 := spiritlevellaw05_TernaryTable.mono_l k
    · intro y0 y1 y2 y3
      unfold spiritlevellaw05_TernaryTable.j0
      repeat' first
      | (with_reducible exact ih0 _ _ _ _)
      | (with_reducible exact spiritlevellaw05_alive.mono _)
      | (with_reducible exact spiritlevellaw05_both.mono _ _ _)
      | (with_reducible exact LeO.refl _)
      | (with_reducible exact LeO.none _)
      | (with_reducible refine LeO.ite ?_ ?_)
      | (with_reducible refine LeO.bind ?_ (fun _ => ?_))
      | exact ih0 _ _ _ _
      | exact spiritlevellaw05_alive.mono _
      | exact spiritlevellaw05_both.mono _ _ _
      | exact LeO.none _
      | refine LeO.ite ?_ ?_
      | refine LeO.bind ?_ (fun _ => ?_)
theorem spiritlevellaw05_TernaryTable.mono : ∀ a0 a1 a2 k, LeO (spiritlevellaw05_TernaryTable.f k a0 a1 a2) (spiritlevellaw05_TernaryTable.f (k + 1) a0 a1 a2) := by
  intro a0 a1 a2 k
  have ih0 := spiritlevellaw05_TernaryTable.mono_l k
  unfold spiritlevellaw05_TernaryTable.f
  repeat' first
      | (with_reducible exact ih0 _ _ _ _)
      | (with_reducible exact spiritlevellaw05_alive.mono _)
      | (with_reducible exact spiritlevellaw05_both.mono _ _ _)
      | (with_reducible exact LeO.refl _)
      | (with_reducible exact LeO.none _)
      | (with_reducible refine LeO.ite ?_ ?_)
      | (with_reducible refine LeO.bind ?_ (fun _ => ?_))
      | exact ih0 _ _ _ _
      | exact spiritlevellaw05_alive.mono _
      | exact spiritlevellaw05_both.mono _ _ _
      | exact LeO.none _
      | refine LeO.ite ?_ ?_
      | refine LeO.bind ?_ (fun _ => ?_)
set_option maxHeartbeats 8000000 in
set_option maxRecDepth 100000 in
theorem spiritlevellaw05_TernaryTable.calls (k : Nat) (a0 : Int) (a1 : Int) (a2 : Int) (r : Bool) (w : World) (ht_ : r = true) (h : spiritlevellaw05_TernaryTable.f k a0 a1 a2 = some r) :
    Calls Try.prog 4 #[.int .u8 a0, .int .u8 a1, .int .u8 a2] w fun e w' => e = .returned (.bool r) ∧ Below w.heap.size w w' := by
  have HT_ := Aside0.mk ht_
  clear ht_
  have HB := Aside0.mk (Below.refl w.heap.size w)
  have H : (if a0 > 2 then (spiritlevellaw05_TernaryTable.j0 k a0 a1 a2 true) else (if a1 > 2 then (spiritlevellaw05_TernaryTable.j0 k a0 a1 a2 true) else (spiritlevellaw05_TernaryTable.j0 k a0 a1 a2 (decide (a2 > 2))))) = some r := h
  clear h
  have HC4 := Aside0.mk H
  clear H
  go_enter Try.func4, Try.ntmps4
  go_upto_region 1 with (fail)
  go_cut [20] (fun v20 wc => ∃ (kq : Nat) (x20_3 : Bool), v20 = .bool x20_3 ∧ Aside0 (spiritlevellaw05_TernaryTable.j0 kq a0 a1 a2 x20_3 = some r) ∧ Aside0 (kq ≤ k) ∧ Aside0 (Below w.heap.size w wc))
  case first =>
    have H := HC4.out
    clear HC4
    by_cases c5 : a0 > 2
    · rw [if_pos c5] at H
      have c5b0 : decide (2 < a0) = true := decide_eq_true c5
      clear c5
      (first | rw [c5b0] | (simp only [i64_w, i32_w]; rw [c5b0]) | skip)
      have H' := Aside0.mk H
      clear H
      go_wp2
      go_meet
      case rel => exact ⟨_, (true), (by first | rfl | (simp; done) | (simp [*]; done)), H', ⟨by first | omega | exact Nat.le_refl _⟩, ⟨by repeat (first | (with_reducible first | exact HB.out | apply below_alloc | apply pw_below_drewN | apply below_drew1) | exact HB.out)⟩⟩
    · rw [if_neg c5] at H
      have c5b0 : decide (2 < a0) = false := decide_eq_false c5
      clear c5
      (first | rw [c5b0] | (simp only [i64_w, i32_w]; rw [c5b0]) | skip)
      by_cases c6 : a1 > 2
      · rw [if_pos c6] at H
        have c6b0 : decide (2 < a1) = true := decide_eq_true c6
        clear c6
        have H' := Aside0.mk H
        clear H
        go_wp2
        go_meet
        case rel => exact ⟨_, (true), (by first | rfl | (simp; done) | (simp [*]; done)), H', ⟨by first | omega | exact Nat.le_refl _⟩, ⟨by repeat (first | (with_reducible first | exact HB.out | apply below_alloc | apply pw_below_drewN | apply below_drew1) | exact HB.out)⟩⟩
      · rw [if_neg c6] at H
        have c6b0 : decide (2 < a1) = false := decide_eq_false c6
        clear c6
        have H' := Aside0.mk H
        clear H
        go_wp2
        go_meet
        case rel => exact ⟨_, (decide (a2 > 2)), (by first | rfl | (simp; done) | (simp [*]; done)), H', ⟨by first | omega | exact Nat.le_refl _⟩, ⟨by repeat (first | (with_reducible first | exact HB.out | apply below_alloc | apply pw_below_drewN | apply below_drew1) | exact HB.out)⟩⟩
  case rest =>
    clear HC4
    try clear p2
    try clear c4
    try clear c5
    try clear c5b0
    try clear c6
    try clear c6b0
    obtain ⟨kq, x20_3, rfl, HA, HJ3, HB⟩ := hcut
    cases kq with
    | zero => exact absurd HA.out (by simp [spiritlevellaw05_TernaryTable.j0])
    | succ kj3 =>
      have H := HA.out
      clear HA
      simp only [spiritlevellaw05_TernaryTable.j0] at H
      by_cases c7 : x20_3 = true
      · subst c7
        have H1 : ((spiritlevellaw05_alive.f kj3).bind fun t158 => (some t158)) = some r := by rw [if_pos rfl] at H; exact H
        clear H
        have H := H1
        clear H1
        replace H := Option.bind_eq_some_iff.mp H
        obtain ⟨t158, A80, H⟩ := H
        replace H : (some t158) = some r := H
        have A8 := Aside0.mk A80
        clear A80
        obtain rfl := Option.some.inj H
        go_wp2_with (first | ((with_reducible refine gate_callee (f := 16) rfl ?_); refine goesL_ (some 21) rfl rfl Try.func16 (by kernel_rfl) rfl #[] rfl (by (try simp only [List.map_toArray, List.map_cons, List.map_nil]); first | done | rfl | (simp only [List.length_drop, List.length_take]; rfl)) ?_; (with_reducible refine (spiritlevellaw05_alive.calls kj3  t158 _ A8.out).mono ?_); rintro e w9 ⟨rfl, hb⟩; refine ⟨_, rfl, ?_⟩; have n0_ := Aside0.mk (below_step (by repeat (first | (with_reducible first | exact HB.out | apply below_alloc | apply pw_below_drewN | apply below_drew1) | exact HB.out)) hb); clear HB; have HB := n0_; clear n0_; (try clear hb); (try clear hb2); (try clear hk); (try clear hi)))
        go_ret
        exact ⟨by first | rfl | (simp [errW_none, errW_some] <;> rfl) | (simp [*, errW_none, errW_some] <;> rfl), by repeat (first | (with_reducible first | exact HB.out | apply below_alloc | apply pw_below_drewN | apply below_drew1) | exact HB.out)⟩
      · replace c7 := Bool.eq_false_iff.mpr c7
        subst c7
        have H1 : ((ternary_Not.f a0).bind fun bt159 => ((ternary_Not.f bt159.1).bind fun bt161 => (if bt159.2 = 0 then (if bt161.2 = 0 then (if bt161.1 = a0 then ((spiritlevellaw05_both.f kj3 a0 a1).bind fun t163 => ((spiritlevellaw05_both.f kj3 a1 a0).bind fun t164 => (if t163 = t164 then ((spiritlevellaw05_both.f kj3 a0 a1).bind fun t165 => ((spiritlevellaw05_both.f kj3 t165 a2).bind fun t166 => ((spiritlevellaw05_both.f kj3 a1 a2).bind fun t167 => ((spiritlevellaw05_both.f kj3 a0 t167).bind fun t168 => (if t166 = t168 then ((spiritlevellaw05_both.f kj3 a0 1).bind fun t169 => (if t169 = a0 then ((spiritlevellaw05_both.f kj3 a0 0).bind fun t170 => (if t170 = 0 then ((spiritlevellaw05_both.f kj3 a0 a0).bind fun t171 => (if t171 = a0 then ((spiritlevellaw05_alive.f kj3).bind fun t172 => (some t172)) else (some false))) else (some false))) else (some false))) else (some false)))))) else (some false)))) else (some false)) else (some false)) else (some false)))) = some r := by rw [if_neg (show ¬ (false = true) by decide)] at H; exact H
        clear H
        have H := H1
        clear H1
        replace H := Option.bind_eq_some_iff.mp H
        obtain ⟨⟨t159, t160⟩, A100, H⟩ := H
        replace H : ((ternary_Not.f t159).bind fun bt161 => (if t160 = 0 then (if bt161.2 = 0 then (if bt161.1 = a0 then ((spiritlevellaw05_both.f kj3 a0 a1).bind fun t163 => ((spiritlevellaw05_both.f kj3 a1 a0).bind fun t164 => (if t163 = t164 then ((spiritlevellaw05_both.f kj3 a0 a1).bind fun t165 => ((spiritlevellaw05_both.f kj3 t165 a2).bind fun t166 => ((spiritlevellaw05_both.f kj3 a1 a2).bind fun t167 => ((spiritlevellaw05_both.f kj3 a0 t167).bind fun t168 => (if t166 = t168 then ((spiritlevellaw05_both.f kj3 a0 1).bind fun t169 => (if t169 = a0 then ((spiritlevellaw05_both.f kj3 a0 0).bind fun t170 => (if t170 = 0 then ((spiritlevellaw05_both.f kj3 a0 a0).bind fun t171 => (if t171 = a0 then ((spiritlevellaw05_alive.f kj3).bind fun t172 => (some t172)) else (some false))) else (some false))) else (some false))) else (some false)))))) else (some false)))) else (some false)) else (some false)) else (some false))) = some r := H
        have A10 := Aside0.mk A100
        clear A100
        replace H := Option.bind_eq_some_iff.mp H
        obtain ⟨⟨t161, t162⟩, A110, H⟩ := H
        replace H : (if t160 = 0 then (if t162 = 0 then (if t161 = a0 then ((spiritlevellaw05_both.f kj3 a0 a1).bind fun t163 => ((spiritlevellaw05_both.f kj3 a1 a0).bind fun t164 => (if t163 = t164 then ((spiritlevellaw05_both.f kj3 a0 a1).bind fun t165 => ((spiritlevellaw05_both.f kj3 t165 a2).bind fun t166 => ((spiritlevellaw05_both.f kj3 a1 a2).bind fun t167 => ((spiritlevellaw05_both.f kj3 a0 t167).bind fun t168 => (if t166 = t168 then ((spiritlevellaw05_both.f kj3 a0 1).bind fun t169 => (if t169 = a0 then ((spiritlevellaw05_both.f kj3 a0 0).bind fun t170 => (if t170 = 0 then ((spiritlevellaw05_both.f kj3 a0 a0).bind fun t171 => (if t171 = a0 then ((spiritlevellaw05_alive.f kj3).bind fun t172 => (some t172)) else (some false))) else (some false))) else (some false))) else (some false)))))) else (some false)))) else (some false)) else (some false)) else (some false)) = some r := H
        have A11 := Aside0.mk A110
        clear A110
        by_cases c12 : t160 = 0
        · rw [if_pos c12] at H
          have c12b0 : (t160 == 0) = true := beq_iff_eq.mpr c12
          have c12b1 : (t160 != 0) = false := bne_eq_false_iff_eq.mpr c12
          clear c12
          by_cases c13 : t162 = 0
          · rw [if_pos c13] at H
            have c13b0 : (t162 == 0) = true := beq_iff_eq.mpr c13
            have c13b1 : (t162 != 0) = false := bne_eq_false_iff_eq.mpr c13
            clear c13
            by_cases c14 : t161 = a0
            · rw [if_pos c14] at H
              have c14b0 : (t161 == a0) = true := beq_iff_eq.mpr c14
              have c14b1 : (t161 != a0) = false := bne_eq_false_iff_eq.mpr c14
              clear c14
              replace H := Option.bind_eq_some_iff.mp H
              obtain ⟨t163, A150, H⟩ := H
              replace H : ((spiritlevellaw05_both.f kj3 a1 a0).bind fun t164 => (if t163 = t164 then ((spiritlevellaw05_both.f kj3 a0 a1).bind fun t165 => ((spiritlevellaw05_both.f kj3 t165 a2).bind fun t166 => ((spiritlevellaw05_both.f kj3 a1 a2).bind fun t167 => ((spiritlevellaw05_both.f kj3 a0 t167).bind fun t168 => (if t166 = t168 then ((spiritlevellaw05_both.f kj3 a0 1).bind fun t169 => (if t169 = a0 then ((spiritlevellaw05_both.f kj3 a0 0).bind fun t170 => (if t170 = 0 then ((spiritlevellaw05_both.f kj3 a0 a0).bind fun t171 => (if t171 = a0 then ((spiritlevellaw05_alive.f kj3).bind fun t172 => (some t172)) else (some false))) else (some false))) else (some false))) else (some false)))))) else (some false))) = some r := H
              have A15 := Aside0.mk A150
              clear A150
              replace H := Option.bind_eq_some_iff.mp H
              obtain ⟨t164, A160, H⟩ := H
              replace H : (if t163 = t164 then ((spiritlevellaw05_both.f kj3 a0 a1).bind fun t165 => ((spiritlevellaw05_both.f kj3 t165 a2).bind fun t166 => ((spiritlevellaw05_both.f kj3 a1 a2).bind fun t167 => ((spiritlevellaw05_both.f kj3 a0 t167).bind fun t168 => (if t166 = t168 then ((spiritlevellaw05_both.f kj3 a0 1).bind fun t169 => (if t169 = a0 then ((spiritlevellaw05_both.f kj3 a0 0).bind fun t170 => (if t170 = 0 then ((spiritlevellaw05_both.f kj3 a0 a0).bind fun t171 => (if t171 = a0 then ((spiritlevellaw05_alive.f kj3).bind fun t172 => (some t172)) else (some false))) else (some false))) else (some false))) else (some false)))))) else (some false)) = some r := H
              have A16 := Aside0.mk A160
              clear A160
              by_cases c17 : t163 = t164
              · rw [if_pos c17] at H
                have c17b0 : (t163 == t164) = true := beq_iff_eq.mpr c17
                have c17b1 : (t163 != t164) = false := bne_eq_false_iff_eq.mpr c17
                clear c17
                replace H := Option.bind_eq_some_iff.mp H
                obtain ⟨t165, A180, H⟩ := H
                replace H : ((spiritlevellaw05_both.f kj3 t165 a2).bind fun t166 => ((spiritlevellaw05_both.f kj3 a1 a2).bind fun t167 => ((spiritlevellaw05_both.f kj3 a0 t167).bind fun t168 => (if t166 = t168 then ((spiritlevellaw05_both.f kj3 a0 1).bind fun t169 => (if t169 = a0 then ((spiritlevellaw05_both.f kj3 a0 0).bind fun t170 => (if t170 = 0 then ((spiritlevellaw05_both.f kj3 a0 a0).bind fun t171 => (if t171 = a0 then ((spiritlevellaw05_alive.f kj3).bind fun t172 => (some t172)) else (some false))) else (some false))) else (some false))) else (some false))))) = some r := H
                have A18 := Aside0.mk A180
                clear A180
                obtain rfl : t163 = t165 := Option.some.inj (A15.out.symm.trans A18.out)
                replace H := Option.bind_eq_some_iff.mp H
                obtain ⟨t166, A190, H⟩ := H
                replace H : ((spiritlevellaw05_both.f kj3 a1 a2).bind fun t167 => ((spiritlevellaw05_both.f kj3 a0 t167).bind fun t168 => (if t166 = t168 then ((spiritlevellaw05_both.f kj3 a0 1).bind fun t169 => (if t169 = a0 then ((spiritlevellaw05_both.f kj3 a0 0).bind fun t170 => (if t170 = 0 then ((spiritlevellaw05_both.f kj3 a0 a0).bind fun t171 => (if t171 = a0 then ((spiritlevellaw05_alive.f kj3).bind fun t172 => (some t172)) else (some false))) else (some false))) else (some false))) else (some false)))) = some r := H
                have A19 := Aside0.mk A190
                clear A190
                replace H := Option.bind_eq_some_iff.mp H
                obtain ⟨t167, A200, H⟩ := H
                replace H : ((spiritlevellaw05_both.f kj3 a0 t167).bind fun t168 => (if t166 = t168 then ((spiritlevellaw05_both.f kj3 a0 1).bind fun t169 => (if t169 = a0 then ((spiritlevellaw05_both.f kj3 a0 0).bind fun t170 => (if t170 = 0 then ((spiritlevellaw05_both.f kj3 a0 a0).bind fun t171 => (if t171 = a0 then ((spiritlevellaw05_alive.f kj3).bind fun t172 => (some t172)) else (some false))) else (some false))) else (some false))) else (some false))) = some r := H
                have A20 := Aside0.mk A200
                clear A200
                replace H := Option.bind_eq_some_iff.mp H
                obtain ⟨t168, A210, H⟩ := H
                replace H : (if t166 = t168 then ((spiritlevellaw05_both.f kj3 a0 1).bind fun t169 => (if t169 = a0 then ((spiritlevellaw05_both.f kj3 a0 0).bind fun t170 => (if t170 = 0 then ((spiritlevellaw05_both.f kj3 a0 a0).bind fun t171 => (if t171 = a0 then ((spiritlevellaw05_alive.f kj3).bind fun t172 => (some t172)) else (some false))) else (some false))) else (some false))) else (some false)) = some r := H
                have A21 := Aside0.mk A210
                clear A210
                by_cases c22 : t166 = t168
                · rw [if_pos c22] at H
                  have c22b0 : (t166 == t168) = true := beq_iff_eq.mpr c22
                  have c22b1 : (t166 != t168) = false := bne_eq_false_iff_eq.mpr c22
                  clear c22
                  replace H := Option.bind_eq_some_iff.mp H
                  obtain ⟨t169, A230, H⟩ := H
                  replace H : (if t169 = a0 then ((spiritlevellaw05_both.f kj3 a0 0).bind fun t170 => (if t170 = 0 then ((spiritlevellaw05_both.f kj3 a0 a0).bind fun t171 => (if t171 = a0 then ((spiritlevellaw05_alive.f kj3).bind fun t172 => (some t172)) else (some false))) else (some false))) else (some false)) = some r := H
                  have A23 := Aside0.mk A230
                  clear A230
                  by_cases c24 : t169 = a0
                  · rw [if_pos c24] at H
                    have c24b0 : (t169 == a0) = true := beq_iff_eq.mpr c24
                    have c24b1 : (t169 != a0) = false := bne_eq_false_iff_eq.mpr c24
                    clear c24
                    replace H := Option.bind_eq_some_iff.mp H
                    obtain ⟨t170, A250, H⟩ := H
                    replace H : (if t170 = 0 then ((spiritlevellaw05_both.f kj3 a0 a0).bind fun t171 => (if t171 = a0 then ((spiritlevellaw05_alive.f kj3).bind fun t172 => (some t172)) else (some false))) else (some false)) = some r := H
                    have A25 := Aside0.mk A250
                    clear A250
                    by_cases c26 : t170 = 0
                    · rw [if_pos c26] at H
                      have c26b0 : (t170 == 0) = true := beq_iff_eq.mpr c26
                      have c26b1 : (t170 != 0) = false := bne_eq_false_iff_eq.mpr c26
                      clear c26
                      replace H := Option.bind_eq_some_iff.mp H
                      obtain ⟨t171, A270, H⟩ := H
                      replace H : (if t171 = a0 then ((spiritlevellaw05_alive.f kj3).bind fun t172 => (some t172)) else (some false)) = some r := H
                      have A27 := Aside0.mk A270
                      clear A270
                      by_cases c28 : t171 = a0
                      · rw [if_pos c28] at H
                        have c28b0 : (t171 == a0) = true := beq_iff_eq.mpr c28
                        have c28b1 : (t171 != a0) = false := bne_eq_false_iff_eq.mpr c28
                        clear c28
                        replace H := Option.bind_eq_some_iff.mp H
                        obtain ⟨t172, A290, H⟩ := H
                        replace H : (some t172) = some r := H
                        have A29 := Aside0.mk A290
                        clear A290
                        obtain rfl := Option.some.inj H
                        go_wp2_with (first | ((with_reducible refine gate_callee (f := 12) rfl ?_); refine goesL_ (some 24) rfl rfl Try.func12 (by kernel_rfl) rfl #[.int .u8 a0] rfl (by (try simp only [List.map_toArray, List.map_cons, List.map_nil]); first | done | rfl | (simp only [List.length_drop, List.length_take]; rfl)) ?_; (with_reducible refine (ternary_Not.calls a0 t159 t160 _ A10.out).mono ?_); rintro e w30 ⟨rfl, hb⟩; refine ⟨_, rfl, ?_⟩; have n0_ := Aside0.mk (below_step (by repeat (first | (with_reducible first | exact HB.out | apply below_alloc | apply pw_below_drewN | apply below_drew1) | exact HB.out)) hb); clear HB; have HB := n0_; clear n0_; (try clear hb); (try clear hb2); (try clear hk); (try clear hi)) | ((with_reducible refine gate_callee (f := 12) rfl ?_); refine goesL_ (some 29) rfl rfl Try.func12 (by kernel_rfl) rfl #[.int .u8 t159] rfl (by (try simp only [List.map_toArray, List.map_cons, List.map_nil]); first | done | rfl | (simp only [List.length_drop, List.length_take]; rfl)) ?_; (with_reducible refine (ternary_Not.calls t159 t161 t162 _ A11.out).mono ?_); rintro e w31 ⟨rfl, hb⟩; refine ⟨_, rfl, ?_⟩; have n0_ := Aside0.mk (below_step (by repeat (first | (with_reducible first | exact HB.out | apply below_alloc | apply pw_below_drewN | apply below_drew1) | exact HB.out)) hb); clear HB; have HB := n0_; clear n0_; (try clear hb); (try clear hb2); (try clear hk); (try clear hi)) | (go_at_call 17; (with_reducible refine (spiritlevellaw05_both.calls kj3 a0 a1 t163 _ A15.out).mono ?_); rintro e w32 ⟨rfl, hb⟩; have n0_ := Aside0.mk (below_step (by repeat (first | (with_reducible first | exact HB.out | apply below_alloc | apply pw_below_drewN | apply below_drew1) | exact HB.out)) hb); clear HB; have HB := n0_; clear n0_; (try clear hb); (try clear hb2); (try clear hk); (try clear hi)) | (go_at_call 17; (with_reducible refine (spiritlevellaw05_both.calls kj3 a1 a0 t164 _ A16.out).mono ?_); rintro e w33 ⟨rfl, hb⟩; have n0_ := Aside0.mk (below_step (by repeat (first | (with_reducible first | exact HB.out | apply below_alloc | apply pw_below_drewN | apply below_drew1) | exact HB.out)) hb); clear HB; have HB := n0_; clear n0_; (try clear hb); (try clear hb2); (try clear hk); (try clear hi)) | (go_at_call 17; (with_reducible refine (spiritlevellaw05_both.calls kj3 a0 a1 t163 _ A18.out).mono ?_); rintro e w34 ⟨rfl, hb⟩; have n0_ := Aside0.mk (below_step (by repeat (first | (with_reducible first | exact HB.out | apply below_alloc | apply pw_below_drewN | apply below_drew1) | exact HB.out)) hb); clear HB; have HB := n0_; clear n0_; (try clear hb); (try clear hb2); (try clear hk); (try clear hi)) | (go_at_call 17; (with_reducible refine (spiritlevellaw05_both.calls kj3 t163 a2 t166 _ A19.out).mono ?_); rintro e w35 ⟨rfl, hb⟩; have n0_ := Aside0.mk (below_step (by repeat (first | (with_reducible first | exact HB.out | apply below_alloc | apply pw_below_drewN | apply below_drew1) | exact HB.out)) hb); clear HB; have HB := n0_; clear n0_; (try clear hb); (try clear hb2); (try clear hk); (try clear hi)) | (go_at_call 17; (with_reducible refine (spiritlevellaw05_both.calls kj3 a1 a2 t167 _ A20.out).mono ?_); rintro e w36 ⟨rfl, hb⟩; have n0_ := Aside0.mk (below_step (by repeat (first | (with_reducible first | exact HB.out | apply below_alloc | apply pw_below_drewN | apply below_drew1) | exact HB.out)) hb); clear HB; have HB := n0_; clear n0_; (try clear hb); (try clear hb2); (try clear hk); (try clear hi)) | (go_at_call 17; (with_reducible refine (spiritlevellaw05_both.calls kj3 a0 t167 t168 _ A21.out).mono ?_); rintro e w37 ⟨rfl, hb⟩; have n0_ := Aside0.mk (below_step (by repeat (first | (with_reducible first | exact HB.out | apply below_alloc | apply pw_below_drewN | apply below_drew1) | exact HB.out)) hb); clear HB; have HB := n0_; clear n0_; (try clear hb); (try clear hb2); (try clear hk); (try clear hi)) | (go_at_call 17; (with_reducible refine (spiritlevellaw05_both.calls kj3 a0 1 t169 _ A23.out).mono ?_); rintro e w38 ⟨rfl, hb⟩; have n0_ := Aside0.mk (below_step (by repeat (first | (with_reducible first | exact HB.out | apply below_alloc | apply pw_below_drewN | apply below_drew1) | exact HB.out)) hb); clear HB; have HB := n0_; clear n0_; (try clear hb); (try clear hb2); (try clear hk); (try clear hi)) | (go_at_call 17; (with_reducible refine (spiritlevellaw05_both.calls kj3 a0 0 t170 _ A25.out).mono ?_); rintro e w39 ⟨rfl, hb⟩; have n0_ := Aside0.mk (below_step (by repeat (first | (with_reducible first | exact HB.out | apply below_alloc | apply pw_below_drewN | apply below_drew1) | exact HB.out)) hb); clear HB; have HB := n0_; clear n0_; (try clear hb); (try clear hb2); (try clear hk); (try clear hi)) | (go_at_call 17; (with_reducible refine (spiritlevellaw05_both.calls kj3 a0 a0 t171 _ A27.out).mono ?_); rintro e w40 ⟨rfl, hb⟩; have n0_ := Aside0.mk (below_step (by repeat (first | (with_reducible first | exact HB.out | apply below_alloc | apply pw_below_drewN | apply below_drew1) | exact HB.out)) hb); clear HB; have HB := n0_; clear n0_; (try clear hb); (try clear hb2); (try clear hk); (try clear hi)) | (go_at_call 16; (with_reducible refine (spiritlevellaw05_alive.calls kj3  t172 _ A29.out).mono ?_); rintro e w41 ⟨rfl, hb⟩; have n0_ := Aside0.mk (below_step (by repeat (first | (with_reducible first | exact HB.out | apply below_alloc | apply pw_below_drewN | apply below_drew1) | exact HB.out)) hb); clear HB; have HB := n0_; clear n0_; (try clear hb); (try clear hb2); (try clear hk); (try clear hi)))
                        go_ret
                        exact ⟨by first | rfl | (simp [errW_none, errW_some] <;> rfl) | (simp [*, errW_none, errW_some] <;> rfl), by repeat (first | (with_reducible first | exact HB.out | apply below_alloc | apply pw_below_drewN | apply below_drew1) | exact HB.out)⟩
                      · rw [if_neg c28] at H
                        have c28b0 : (t171 == a0) = false := beq_eq_false_iff_ne.mpr c28
                        have c28b1 : (t171 != a0) = true := bne_iff_ne.mpr c28
                        exact absurd ((Option.some.inj H).trans HT_.out) (by decide)
                    · rw [if_neg c26] at H
                      have c26b0 : (t170 == 0) = false := beq_eq_false_iff_ne.mpr c26
                      have c26b1 : (t170 != 0) = true := bne_iff_ne.mpr c26
                      exact absurd ((Option.some.inj H).trans HT_.out) (by decide)
                  · rw [if_neg c24] at H
                    have c24b0 : (t169 == a0) = false := beq_eq_false_iff_ne.mpr c24
                    have c24b1 : (t169 != a0) = true := bne_iff_ne.mpr c24
                    exact absurd ((Option.some.inj H).trans HT_.out) (by decide)
                · rw [if_neg c22] at H
                  have c22b0 : (t166 == t168) = false := beq_eq_false_iff_ne.mpr c22
                  have c22b1 : (t166 != t168) = true := bne_iff_ne.mpr c22
                  exact absurd ((Option.some.inj H).trans HT_.out) (by decide)
              · rw [if_neg c17] at H
                have c17b0 : (t163 == t164) = false := beq_eq_false_iff_ne.mpr c17
                have c17b1 : (t163 != t164) = true := bne_iff_ne.mpr c17
                exact absurd ((Option.some.inj H).trans HT_.out) (by decide)
            · rw [if_neg c14] at H
              have c14b0 : (t161 == a0) = false := beq_eq_false_iff_ne.mpr c14
              have c14b1 : (t161 != a0) = true := bne_iff_ne.mpr c14
              exact absurd ((Option.some.inj H).trans HT_.out) (by decide)
          · rw [if_neg c13] at H
            have c13b0 : (t162 == 0) = false := beq_eq_false_iff_ne.mpr c13
            have c13b1 : (t162 != 0) = true := bne_iff_ne.mpr c13
            exact absurd ((Option.some.inj H).trans HT_.out) (by decide)
        · rw [if_neg c12] at H
          have c12b0 : (t160 == 0) = false := beq_eq_false_iff_ne.mpr c12
          have c12b1 : (t160 != 0) = true := bne_iff_ne.mpr c12
          exact absurd ((Option.some.inj H).trans HT_.out) (by decide)

/-- THE ONE PURE STATEMENT of spiritlevellaw05_TernaryTable: yours. -/
def spiritlevellaw05_TernaryTable.Pure : Prop := ∀ (a0 : Int) (a1 : Int) (a2 : Int), (Lit.int .u8 a0).wf = true → (Lit.int .u8 a1).wf = true → (Lit.int .u8 a2).wf = true → ∃ k, spiritlevellaw05_TernaryTable.f k a0 a1 a2 = some true
theorem spiritlevellaw05_TernaryTable.walk (P : spiritlevellaw05_TernaryTable.Pure) (a0 : Int) (a1 : Int) (a2 : Int) (w : World) (w0 : (Lit.int .u8 a0).wf = true) (w1 : (Lit.int .u8 a1).wf = true) (w2 : (Lit.int .u8 a2).wf = true) :
    Calls Try.prog 4 #[.int .u8 a0, .int .u8 a1, .int .u8 a2] w fun e w' => e = .returned (.bool true) ∧ Below w.heap.size w w' := by
  obtain ⟨k, h⟩ := P a0 a1 a2 w0 w1 w2
  refine (spiritlevellaw05_TernaryTable.calls k a0 a1 a2 true w rfl h).mono ?_
  rintro e w' ⟨rfl, hd⟩
  exact ⟨rfl, hd⟩

end Go.Proofs.Ytddelmbkbpoelaa.QTernaryTable
