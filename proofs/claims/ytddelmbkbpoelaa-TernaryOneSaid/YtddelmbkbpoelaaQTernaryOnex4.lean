-- Made by wip/myprint.sh (a patched print): a text of this session's own.
import Derived.Test.YtddelmbkbpoelaaQTernaryOnex0
import Derived.Test.YtddelmbkbpoelaaQTernaryOnex1
import Derived.Test.YtddelmbkbpoelaaQTernaryOnex3
namespace Go.Proofs.Ytddelmbkbpoelaa.QTernaryOne
open Go.RowKit Go.Proofs.YtddelmbkbpoelaaW.PrintWords Go.Proofs.YtddelmbkbpoelaaW.PrintLast Go.Proofs.YtddelmbkbpoelaaW.PrintMore
attribute [local go_sem] max2_int min2_int max_two min_two max_three min_three max_four min_four   -- for this text's walks alone
set_option linter.unusedVariables false
set_option linter.unusedSimpArgs false

/-! ### spiritlevellaw05_TernaryOne: function 5 -/
mutual
def spiritlevellaw05_TernaryOne.j0 : Nat → List Int → List Int → List Int → Bool → Option (Bool)
  | 0, _, _, _, _ => none
  | k + 1, x0, x1, x2, x52 => if x52 = true then ((spiritlevellaw05_alive.f k).bind fun t161 => (some t161)) else ((ternary_Covers.f k x0 x1).bind fun bt162 => ((ternary_Covers.f k x1 x0).bind fun bt164 => ((ternary_Covers.f k x1 x2).bind fun bt166 => ((ternary_Covers.f k x0 x2).bind fun bt168 => ((ternary_Covers.f k x0 x0).bind fun bt170 => (if 0 ≤ (x0.length : Int) then (if ((x0.length : Int) : Int).toNat ≤ 281474976710656 then (spiritlevellaw05_TernaryOne.l0 k x0 x1 bt162.1 bt162.2 bt164.1 bt164.2 bt166.1 bt166.2 bt168.1 bt168.2 bt170.1 bt170.2 (List.replicate ((x0.length : Int) : Int).toNat 0) 0) else (none)) else (none)))))))
def spiritlevellaw05_TernaryOne.l0 : Nat → List Int → List Int → Bool → Int → Bool → Int → Bool → Int → Bool → Int → Bool → Int → List Int → Int → Option (Bool)
  | 0, _, _, _, _, _, _, _, _, _, _, _, _, _, _ => none
  | k + 1, x0, x1, x7, x8, x9, x10, x11, x12, x13, x14, x15, x16, x17, x18 => if x18 < (x17.length : Int) then (if 0 ≤ x18 then (spiritlevellaw05_TernaryOne.l0 k x0 x1 x7 x8 x9 x10 x11 x12 x13 x14 x15 x16 (x17.set (x18 : Int).toNat 2) (wrap64 (x18 + 1))) else (none)) else ((ternary_Covers.f k x17 x0).bind fun bt176 => (if x8 = 0 then (if x10 = 0 then (if x12 = 0 then (if x14 = 0 then (if x16 = 0 then (if bt176.2 = 0 then (if x15 = true then (if bt176.1 = true then (if x7 = true then (if x11 = true then (if x13 = true then ((spiritlevelref05_Same.f k x0 x1).bind fun t178 => (if (x9 == t178) = true then ((spiritlevellaw05_alive.f k).bind fun t179 => (some t179)) else (some false))) else (some false)) else ((spiritlevelref05_Same.f k x0 x1).bind fun t180 => (if (x9 == t180) = true then ((spiritlevellaw05_alive.f k).bind fun t181 => (some t181)) else (some false)))) else ((spiritlevelref05_Same.f k x0 x1).bind fun t182 => (if (false == t182) = true then ((spiritlevellaw05_alive.f k).bind fun t183 => (some t183)) else (some false)))) else (some false)) else (some false)) else (some false)) else (some false)) else (some false)) else (some false)) else (some false)) else (some false)))
end
def spiritlevellaw05_TernaryOne.f (k : Nat) (l0 : List Int) (l1 : List Int) (l2 : List Int) : Option (Bool) := if (l0.length : Int) > 100 then (spiritlevellaw05_TernaryOne.j0 k l0 l1 l2 true) else (if (l1.length : Int) = (l0.length : Int) then (if (l2.length : Int) = (l0.length : Int) then ((spiritlevelref05_Right.f k l0).bind fun t158 => (if t158 = true then ((spiritlevelref05_Right.f k l1).bind fun t159 => (if t159 = true then ((spiritlevelref05_Right.f k l2).bind fun t160 => (spiritlevellaw05_TernaryOne.j0 k l0 l1 l2 (!t160))) else (spiritlevellaw05_TernaryOne.j0 k l0 l1 l2 true))) else (spiritlevellaw05_TernaryOne.j0 k l0 l1 l2 true))) else (spiritlevellaw05_TernaryOne.j0 k l0 l1 l2 true)) else (spiritlevellaw05_TernaryOne.j0 k l0 l1 l2 true))
theorem spiritlevellaw05_TernaryOne.mono_l : ∀ k, (∀ y0 y1 y2 y3, LeO (spiritlevellaw05_TernaryOne.j0 k y0 y1 y2 y3) (spiritlevellaw05_TernaryOne.j0 (k + 1) y0 y1 y2 y3)) ∧ (∀ y0 y1 y2 y3 y4 y5 y6 y7 y8 y9 y10 y11 y12 y13, LeO (spiritlevellaw05_TernaryOne.l0 k y0 y1 y2 y3 y4 y5 y6 y7 y8 y9 y10 y11 y12 y13) (spiritlevellaw05_TernaryOne.l0 (k + 1) y0 y1 y2 y3 y4 y5 y6 y7 y8 y9 y10 y11 y12 y13))
  | 0 => ⟨fun _ _ _ _ r h => by simp [spiritlevellaw05_TernaryOne.j0] at h, fun _ _ _ _ _ _ _ _ _ _ _ _ _ _ r h => by simp [spiritlevellaw05_TernaryOne.l0] at h⟩
  | k + 1 => by
    obtain ⟨ih0, ih1⟩ := spiritlevellaw05_TernaryOne.mono_l k
    refine ⟨?_, ?_⟩
    · intro y0 y1 y2 y3
      unfold spiritlevellaw05_TernaryOne.j0
      repeat' first
      | (with_reducible exact ih0 _ _ _ _)
      | (with_reducible exact ih1 _ _ _ _ _ _ _ _ _ _ _ _ _ _)
      | (with_reducible exact spiritlevellaw05_alive.mono _)
      | (with_reducible exact spiritlevelref05_Right.mono _ _)
      | (with_reducible exact spiritlevelref05_Same.mono _ _ _)
      | (with_reducible exact ternary_Covers.mono _ _ _)
      | (with_reducible exact LeO.refl _)
      | (with_reducible exact LeO.none _)
      | (with_reducible refine LeO.ite ?_ ?_)
      | (with_reducible refine LeO.bind ?_ (fun _ => ?_))
      | exact ih0 _ _ _ _
      | exact ih1 _ _ _ _ _ _ _ _ _ _ _ _ _ _
      | exact spiritlevellaw05_alive.mono _
      | exact spiritlevelref05_Right.mono _ _
      | exact spiritlevelref05_Same.mono _ _ _
      | exact ternary_Covers.mono _ _ _
      | exact LeO.none _
      | refine LeO.ite ?_ ?_
      | refine LeO.bind ?_ (fun _ => ?_)
    · intro y0 y1 y2 y3 y4 y5 y6 y7 y8 y9 y10 y11 y12 y13
      unfold spiritlevellaw05_TernaryOne.l0
      repeat' first
      | (with_reducible exact ih0 _ _ _ _)
      | (with_reducible exact ih1 _ _ _ _ _ _ _ _ _ _ _ _ _ _)
      | (with_reducible exact spiritlevellaw05_alive.mono _)
      | (with_reducible exact spiritlevelref05_Right.mono _ _)
      | (with_reducible exact spiritlevelref05_Same.mono _ _ _)
      | (with_reducible exact ternary_Covers.mono _ _ _)
      | (with_reducible exact LeO.refl _)
      | (with_reducible exact LeO.none _)
      | (with_reducible refine LeO.ite ?_ ?_)
      | (with_reducible refine LeO.bind ?_ (fun _ => ?_))
      | exact ih0 _ _ _ _
      | exact ih1 _ _ _ _ _ _ _ _ _ _ _ _ _ _
      | exact spiritlevellaw05_alive.mono _
      | exact spiritlevelref05_Right.mono _ _
      | exact spiritlevelref05_Same.mono _ _ _
      | exact ternary_Covers.mono _ _ _
      | exact LeO.none _
      | refine LeO.ite ?_ ?_
      | refine LeO.bind ?_ (fun _ => ?_)
theorem spiritlevellaw05_TernaryOne.mono : ∀ a0 a1 a2 k, LeO (spiritlevellaw05_TernaryOne.f k a0 a1 a2) (spiritlevellaw05_TernaryOne.f (k + 1) a0 a1 a2) := by
  intro a0 a1 a2 k
  obtain ⟨ih0, ih1⟩ := spiritlevellaw05_TernaryOne.mono_l k
  unfold spiritlevellaw05_TernaryOne.f
  repeat' first
      | (with_reducible exact ih0 _ _ _ _)
      | (with_reducible exact ih1 _ _ _ _ _ _ _ _ _ _ _ _ _ _)
      | (with_reducible exact spiritlevellaw05_alive.mono _)
      | (with_reducible exact spiritlevelref05_Right.mono _ _)
      | (with_reducible exact spiritlevelref05_Same.mono _ _ _)
      | (with_reducible exact ternary_Covers.mono _ _ _)
      | (with_reducible exact LeO.refl _)
      | (with_reducible exact LeO.none _)
      | (with_reducible refine LeO.ite ?_ ?_)
      | (with_reducible refine LeO.bind ?_ (fun _ => ?_))
      | exact ih0 _ _ _ _
      | exact ih1 _ _ _ _ _ _ _ _ _ _ _ _ _ _
      | exact spiritlevellaw05_alive.mono _
      | exact spiritlevelref05_Right.mono _ _
      | exact spiritlevelref05_Same.mono _ _ _
      | exact ternary_Covers.mono _ _ _
      | exact LeO.none _
      | refine LeO.ite ?_ ?_
      | refine LeO.bind ?_ (fun _ => ?_)
set_option maxHeartbeats 8000000 in
set_option maxRecDepth 100000 in
theorem spiritlevellaw05_TernaryOne.calls (k : Nat) (A0 : Option Addr) (c0 : Nat) (l0 : List Int) (A1 : Option Addr) (c1 : Nat) (l1 : List Int) (A2 : Option Addr) (c2 : Nat) (l2 : List Int) (r : Bool) (w : World) (hr0 : Kd.C (Kd.int .u8) w A0 l0.length l0) (hc0 : l0.length ≤ c0) (hr1 : Kd.C (Kd.int .u8) w A1 l1.length l1) (hc1 : l1.length ≤ c1) (hr2 : Kd.C (Kd.int .u8) w A2 l2.length l2) (hc2 : l2.length ≤ c2) (ht_ : r = true) (h : spiritlevellaw05_TernaryOne.f k l0 l1 l2 = some r) :
    Calls Try.prog 5 #[.slice A0 l0.length c0, .slice A1 l1.length c1, .slice A2 l2.length c2] w fun e w' => e = .returned (.bool r) ∧ Below w.heap.size w w' := by
  have HT_ := Aside0.mk ht_
  clear ht_
  have HR0 := Aside0.mk hr0
  have HC0 := Aside0.mk hc0
  clear hr0 hc0
  have HR1 := Aside0.mk hr1
  have HC1 := Aside0.mk hc1
  clear hr1 hc1
  have HR2 := Aside0.mk hr2
  have HC2 := Aside0.mk hc2
  clear hr2 hc2
  have HB := Aside0.mk (Below.refl w.heap.size w)
  have H : (if (l0.length : Int) > 100 then (spiritlevellaw05_TernaryOne.j0 k l0 l1 l2 true) else (if (l1.length : Int) = (l0.length : Int) then (if (l2.length : Int) = (l0.length : Int) then ((spiritlevelref05_Right.f k l0).bind fun t158 => (if t158 = true then ((spiritlevelref05_Right.f k l1).bind fun t159 => (if t159 = true then ((spiritlevelref05_Right.f k l2).bind fun t160 => (spiritlevellaw05_TernaryOne.j0 k l0 l1 l2 (!t160))) else (spiritlevellaw05_TernaryOne.j0 k l0 l1 l2 true))) else (spiritlevellaw05_TernaryOne.j0 k l0 l1 l2 true))) else (spiritlevellaw05_TernaryOne.j0 k l0 l1 l2 true)) else (spiritlevellaw05_TernaryOne.j0 k l0 l1 l2 true))) = some r := h
  clear h
  have HC4 := Aside0.mk H
  clear H
  go_enter Try.func5, Try.ntmps5
  go_upto_region 1 with (fail)
  go_cut [52] (fun v52 wc => ∃ (kq : Nat) (x52_3 : Bool), v52 = .bool x52_3 ∧ Aside0 (spiritlevellaw05_TernaryOne.j0 kq l0 l1 l2 x52_3 = some r) ∧ Aside0 (kq ≤ k) ∧ Aside0 (Below w.heap.size w wc))
  case first =>
    have H := HC4.out
    clear HC4
    by_cases c5 : (l0.length : Int) > 100
    · rw [if_pos c5] at H
      have c5b0 : decide (100 < (l0.length : Int)) = true := decide_eq_true c5
      have c5b1 : decide (100 < l0.length) = true := decide_eq_true (by omega)
      clear c5
      (first | rw [c5b0] | (simp only [i64_w, i32_w]; rw [c5b0]) | skip)
      have H' := Aside0.mk H
      clear H
      go_wp2
      go_meet
      case rel => exact ⟨_, (true), (by first | rfl | (simp; done) | (simp [*]; done)), H', ⟨by first | omega | exact Nat.le_refl _⟩, ⟨by repeat (first | (with_reducible first | exact HB.out | apply below_alloc | apply pw_below_drewN | apply below_drew1) | exact HB.out)⟩⟩
    · rw [if_neg c5] at H
      have c5b0 : decide (100 < (l0.length : Int)) = false := decide_eq_false c5
      have c5b1 : decide (100 < l0.length) = false := decide_eq_false (by omega)
      clear c5
      (first | rw [c5b0] | (simp only [i64_w, i32_w]; rw [c5b0]) | skip)
      by_cases c6 : (l1.length : Int) = (l0.length : Int)
      · rw [if_pos c6] at H
        have c6b0 : ((l1.length : Int) == (l0.length : Int)) = true := beq_iff_eq.mpr c6
        have c6b1 : ((l1.length : Int) != (l0.length : Int)) = false := bne_eq_false_iff_eq.mpr c6
        have c6b2 : (l1.length == l0.length) = true := by first | simpa using c6 | (simp at c6 ⊢; omega)
        clear c6
        by_cases c7 : (l2.length : Int) = (l0.length : Int)
        · rw [if_pos c7] at H
          have c7b0 : ((l2.length : Int) == (l0.length : Int)) = true := beq_iff_eq.mpr c7
          have c7b1 : ((l2.length : Int) != (l0.length : Int)) = false := bne_eq_false_iff_eq.mpr c7
          have c7b2 : (l2.length == l0.length) = true := by first | simpa using c7 | (simp at c7 ⊢; omega)
          clear c7
          replace H := Option.bind_eq_some_iff.mp H
          obtain ⟨t158, A80, H⟩ := H
          replace H : (if t158 = true then ((spiritlevelref05_Right.f k l1).bind fun t159 => (if t159 = true then ((spiritlevelref05_Right.f k l2).bind fun t160 => (spiritlevellaw05_TernaryOne.j0 k l0 l1 l2 (!t160))) else (spiritlevellaw05_TernaryOne.j0 k l0 l1 l2 true))) else (spiritlevellaw05_TernaryOne.j0 k l0 l1 l2 true)) = some r := H
          have A8 := Aside0.mk A80
          clear A80
          by_cases c9 : t158 = true
          · subst c9
            have H1 : ((spiritlevelref05_Right.f k l1).bind fun t159 => (if t159 = true then ((spiritlevelref05_Right.f k l2).bind fun t160 => (spiritlevellaw05_TernaryOne.j0 k l0 l1 l2 (!t160))) else (spiritlevellaw05_TernaryOne.j0 k l0 l1 l2 true))) = some r := by rw [if_pos rfl] at H; exact H
            clear H
            have H := H1
            clear H1
            replace H := Option.bind_eq_some_iff.mp H
            obtain ⟨t159, A100, H⟩ := H
            replace H : (if t159 = true then ((spiritlevelref05_Right.f k l2).bind fun t160 => (spiritlevellaw05_TernaryOne.j0 k l0 l1 l2 (!t160))) else (spiritlevellaw05_TernaryOne.j0 k l0 l1 l2 true)) = some r := H
            have A10 := Aside0.mk A100
            clear A100
            by_cases c11 : t159 = true
            · subst c11
              have H1 : ((spiritlevelref05_Right.f k l2).bind fun t160 => (spiritlevellaw05_TernaryOne.j0 k l0 l1 l2 (!t160))) = some r := by rw [if_pos rfl] at H; exact H
              clear H
              have H := H1
              clear H1
              replace H := Option.bind_eq_some_iff.mp H
              obtain ⟨t160, A120, H⟩ := H
              replace H : (spiritlevellaw05_TernaryOne.j0 k l0 l1 l2 (!t160)) = some r := H
              have A12 := Aside0.mk A120
              clear A120
              have H' := Aside0.mk H
              clear H
              go_wp2_with (first | (go_at_call 18; (with_reducible refine (spiritlevelref05_Right.calls k _ _ l0 true _ ?side1 ?side2 A8.out).mono ?_); (case side1 => repeat (first | exact (Kd.C_below HR0.out HB.out) | (with_reducible refine Kd.C_alloc ?_ _) | (with_reducible refine Kd.C_drewN ?_ _) | (with_reducible refine Kd.C_drew ?_))); (case side2 => exact HC0.out); rintro e w' ⟨rfl, ⟨nd, rfl⟩⟩) | (go_at_call 18; (with_reducible refine (spiritlevelref05_Right.calls k _ _ l1 true _ ?side1 ?side2 A10.out).mono ?_); (case side1 => repeat (first | exact (Kd.C_below HR1.out (by repeat (first | (with_reducible first | exact HB.out | apply below_alloc | apply pw_below_drewN | apply below_drew1) | exact HB.out))) | (with_reducible refine Kd.C_alloc ?_ _) | (with_reducible refine Kd.C_drewN ?_ _) | (with_reducible refine Kd.C_drew ?_))); (case side2 => exact HC1.out); rintro e w' ⟨rfl, ⟨nd, rfl⟩⟩) | (go_at_call 18; (with_reducible refine (spiritlevelref05_Right.calls k _ _ l2 t160 _ ?side1 ?side2 A12.out).mono ?_); (case side1 => repeat (first | exact (Kd.C_below HR2.out (by repeat (first | (with_reducible first | exact HB.out | apply below_alloc | apply pw_below_drewN | apply below_drew1) | exact HB.out))) | (with_reducible refine Kd.C_alloc ?_ _) | (with_reducible refine Kd.C_drewN ?_ _) | (with_reducible refine Kd.C_drew ?_))); (case side2 => exact HC2.out); rintro e w' ⟨rfl, ⟨nd, rfl⟩⟩))
              go_meet
              case rel => exact ⟨_, (!t160), (by first | rfl | (simp; done) | (simp [*]; done)), H', ⟨by first | omega | exact Nat.le_refl _⟩, ⟨by repeat (first | (with_reducible first | exact HB.out | apply below_alloc | apply pw_below_drewN | apply below_drew1) | exact HB.out)⟩⟩
            · replace c11 := Bool.eq_false_iff.mpr c11
              subst c11
              have H1 : (spiritlevellaw05_TernaryOne.j0 k l0 l1 l2 true) = some r := by rw [if_neg (show ¬ (false = true) by decide)] at H; exact H
              clear H
              have H := H1
              clear H1
              have H' := Aside0.mk H
              clear H
              go_wp2_with (first | (go_at_call 18; (with_reducible refine (spiritlevelref05_Right.calls k _ _ l0 true _ ?side1 ?side2 A8.out).mono ?_); (case side1 => repeat (first | exact (Kd.C_below HR0.out HB.out) | (with_reducible refine Kd.C_alloc ?_ _) | (with_reducible refine Kd.C_drewN ?_ _) | (with_reducible refine Kd.C_drew ?_))); (case side2 => exact HC0.out); rintro e w' ⟨rfl, ⟨nd, rfl⟩⟩) | (go_at_call 18; (with_reducible refine (spiritlevelref05_Right.calls k _ _ l1 false _ ?side1 ?side2 A10.out).mono ?_); (case side1 => repeat (first | exact (Kd.C_below HR1.out (by repeat (first | (with_reducible first | exact HB.out | apply below_alloc | apply pw_below_drewN | apply below_drew1) | exact HB.out))) | (with_reducible refine Kd.C_alloc ?_ _) | (with_reducible refine Kd.C_drewN ?_ _) | (with_reducible refine Kd.C_drew ?_))); (case side2 => exact HC1.out); rintro e w' ⟨rfl, ⟨nd, rfl⟩⟩))
              go_meet
              case rel => exact ⟨_, (true), (by first | rfl | (simp; done) | (simp [*]; done)), H', ⟨by first | omega | exact Nat.le_refl _⟩, ⟨by repeat (first | (with_reducible first | exact HB.out | apply below_alloc | apply pw_below_drewN | apply below_drew1) | exact HB.out)⟩⟩
          · replace c9 := Bool.eq_false_iff.mpr c9
            subst c9
            have H1 : (spiritlevellaw05_TernaryOne.j0 k l0 l1 l2 true) = some r := by rw [if_neg (show ¬ (false = true) by decide)] at H; exact H
            clear H
            have H := H1
            clear H1
            have H' := Aside0.mk H
            clear H
            go_wp2_with (first | (go_at_call 18; (with_reducible refine (spiritlevelref05_Right.calls k _ _ l0 false _ ?side1 ?side2 A8.out).mono ?_); (case side1 => repeat (first | exact (Kd.C_below HR0.out HB.out) | (with_reducible refine Kd.C_alloc ?_ _) | (with_reducible refine Kd.C_drewN ?_ _) | (with_reducible refine Kd.C_drew ?_))); (case side2 => exact HC0.out); rintro e w' ⟨rfl, ⟨nd, rfl⟩⟩))
            go_meet
            case rel => exact ⟨_, (true), (by first | rfl | (simp; done) | (simp [*]; done)), H', ⟨by first | omega | exact Nat.le_refl _⟩, ⟨by repeat (first | (with_reducible first | exact HB.out | apply below_alloc | apply pw_below_drewN | apply below_drew1) | exact HB.out)⟩⟩
        · rw [if_neg c7] at H
          have c7b0 : ((l2.length : Int) == (l0.length : Int)) = false := beq_eq_false_iff_ne.mpr c7
          have c7b1 : ((l2.length : Int) != (l0.length : Int)) = true := bne_iff_ne.mpr c7
          have c7b2 : (l2.length == l0.length) = false := by first | simpa using c7 | (simp at c7 ⊢; omega)
          have H' := Aside0.mk H
          clear H
          go_wp2
          go_meet
          case rel => exact ⟨_, (true), (by first | rfl | (simp; done) | (simp [*]; done)), H', ⟨by first | omega | exact Nat.le_refl _⟩, ⟨by repeat (first | (with_reducible first | exact HB.out | apply below_alloc | apply pw_below_drewN | apply below_drew1) | exact HB.out)⟩⟩
      · rw [if_neg c6] at H
        have c6b0 : ((l1.length : Int) == (l0.length : Int)) = false := beq_eq_false_iff_ne.mpr c6
        have c6b1 : ((l1.length : Int) != (l0.length : Int)) = true := bne_iff_ne.mpr c6
        have c6b2 : (l1.length == l0.length) = false := by first | simpa using c6 | (simp at c6 ⊢; omega)
        have H' := Aside0.mk H
        clear H
        go_wp2
        go_meet
        case rel => exact ⟨_, (true), (by first | rfl | (simp; done) | (simp [*]; done)), H', ⟨by first | omega | exact Nat.le_refl _⟩, ⟨by repeat (first | (with_reducible first | exact HB.out | apply below_alloc | apply pw_below_drewN | apply below_drew1) | exact HB.out)⟩⟩
  case rest =>
    clear HC4
    try clear c1
    try clear c2
    try clear p2
    try clear c5
    try clear c5b0
    try clear c5b1
    try clear c6
    try clear c6b0
    try clear c6b1
    try clear c6b2
    try clear c7
    try clear c7b0
    try clear c7b1
    try clear c7b2
    try clear c9
    try clear c11
    obtain ⟨kq, x52_3, rfl, HA, HJ3, HB⟩ := hcut
    cases kq with
    | zero => exact absurd HA.out (by simp [spiritlevellaw05_TernaryOne.j0])
    | succ kj3 =>
      have H := HA.out
      clear HA
      simp only [spiritlevellaw05_TernaryOne.j0] at H
      by_cases c13 : x52_3 = true
      · subst c13
        have H1 : ((spiritlevellaw05_alive.f kj3).bind fun t161 => (some t161)) = some r := by rw [if_pos rfl] at H; exact H
        clear H
        have H := H1
        clear H1
        replace H := Option.bind_eq_some_iff.mp H
        obtain ⟨t161, A140, H⟩ := H
        replace H : (some t161) = some r := H
        have A14 := Aside0.mk A140
        clear A140
        obtain rfl := Option.some.inj H
        go_wp2_with (first | ((with_reducible refine gate_callee (f := 16) rfl ?_); refine goesL_ (some 53) rfl rfl Try.func16 (by kernel_rfl) rfl #[] rfl (by (try simp only [List.map_toArray, List.map_cons, List.map_nil]); first | done | rfl | (simp only [List.length_drop, List.length_take]; rfl)) ?_; (with_reducible refine (spiritlevellaw05_alive.calls kj3  t161 _ A14.out).mono ?_); rintro e w15 ⟨rfl, hb⟩; refine ⟨_, rfl, ?_⟩; have n0_ := Aside0.mk (below_step (by repeat (first | (with_reducible first | exact HB.out | apply below_alloc | apply pw_below_drewN | apply below_drew1) | exact HB.out)) hb); clear HB; have HB := n0_; clear n0_; (try clear hb); (try clear hb2); (try clear hk); (try clear hi)))
        go_ret
        exact ⟨by first | rfl | (simp [errW_none, errW_some] <;> rfl) | (simp [*, errW_none, errW_some] <;> rfl), by repeat (first | (with_reducible first | exact HB.out | apply below_alloc | apply pw_below_drewN | apply below_drew1) | exact HB.out)⟩
      · replace c13 := Bool.eq_false_iff.mpr c13
        subst c13
        have H1 : ((ternary_Covers.f kj3 l0 l1).bind fun bt162 => ((ternary_Covers.f kj3 l1 l0).bind fun bt164 => ((ternary_Covers.f kj3 l1 l2).bind fun bt166 => ((ternary_Covers.f kj3 l0 l2).bind fun bt168 => ((ternary_Covers.f kj3 l0 l0).bind fun bt170 => (if 0 ≤ (l0.length : Int) then (if ((l0.length : Int) : Int).toNat ≤ 281474976710656 then (spiritlevellaw05_TernaryOne.l0 kj3 l0 l1 bt162.1 bt162.2 bt164.1 bt164.2 bt166.1 bt166.2 bt168.1 bt168.2 bt170.1 bt170.2 (List.replicate ((l0.length : Int) : Int).toNat 0) 0) else (none)) else (none))))))) = some r := by rw [if_neg (show ¬ (false = true) by decide)] at H; exact H
        clear H
        have H := H1
        clear H1
        replace H := Option.bind_eq_some_iff.mp H
        obtain ⟨⟨t162, t163⟩, A160, H⟩ := H
        replace H : ((ternary_Covers.f kj3 l1 l0).bind fun bt164 => ((ternary_Covers.f kj3 l1 l2).bind fun bt166 => ((ternary_Covers.f kj3 l0 l2).bind fun bt168 => ((ternary_Covers.f kj3 l0 l0).bind fun bt170 => (if 0 ≤ (l0.length : Int) then (if ((l0.length : Int) : Int).toNat ≤ 281474976710656 then (spiritlevellaw05_TernaryOne.l0 kj3 l0 l1 t162 t163 bt164.1 bt164.2 bt166.1 bt166.2 bt168.1 bt168.2 bt170.1 bt170.2 (List.replicate ((l0.length : Int) : Int).toNat 0) 0) else (none)) else (none)))))) = some r := H
        have A16 := Aside0.mk A160
        clear A160
        replace H := Option.bind_eq_some_iff.mp H
        obtain ⟨⟨t164, t165⟩, A170, H⟩ := H
        replace H : ((ternary_Covers.f kj3 l1 l2).bind fun bt166 => ((ternary_Covers.f kj3 l0 l2).bind fun bt168 => ((ternary_Covers.f kj3 l0 l0).bind fun bt170 => (if 0 ≤ (l0.length : Int) then (if ((l0.length : Int) : Int).toNat ≤ 281474976710656 then (spiritlevellaw05_TernaryOne.l0 kj3 l0 l1 t162 t163 t164 t165 bt166.1 bt166.2 bt168.1 bt168.2 bt170.1 bt170.2 (List.replicate ((l0.length : Int) : Int).toNat 0) 0) else (none)) else (none))))) = some r := H
        have A17 := Aside0.mk A170
        clear A170
        replace H := Option.bind_eq_some_iff.mp H
        obtain ⟨⟨t166, t167⟩, A180, H⟩ := H
        replace H : ((ternary_Covers.f kj3 l0 l2).bind fun bt168 => ((ternary_Covers.f kj3 l0 l0).bind fun bt170 => (if 0 ≤ (l0.length : Int) then (if ((l0.length : Int) : Int).toNat ≤ 281474976710656 then (spiritlevellaw05_TernaryOne.l0 kj3 l0 l1 t162 t163 t164 t165 t166 t167 bt168.1 bt168.2 bt170.1 bt170.2 (List.replicate ((l0.length : Int) : Int).toNat 0) 0) else (none)) else (none)))) = some r := H
        have A18 := Aside0.mk A180
        clear A180
        replace H := Option.bind_eq_some_iff.mp H
        obtain ⟨⟨t168, t169⟩, A190, H⟩ := H
        replace H : ((ternary_Covers.f kj3 l0 l0).bind fun bt170 => (if 0 ≤ (l0.length : Int) then (if ((l0.length : Int) : Int).toNat ≤ 281474976710656 then (spiritlevellaw05_TernaryOne.l0 kj3 l0 l1 t162 t163 t164 t165 t166 t167 t168 t169 bt170.1 bt170.2 (List.replicate ((l0.length : Int) : Int).toNat 0) 0) else (none)) else (none))) = some r := H
        have A19 := Aside0.mk A190
        clear A190
        replace H := Option.bind_eq_some_iff.mp H
        obtain ⟨⟨t170, t171⟩, A200, H⟩ := H
        replace H : (if 0 ≤ (l0.length : Int) then (if ((l0.length : Int) : Int).toNat ≤ 281474976710656 then (spiritlevellaw05_TernaryOne.l0 kj3 l0 l1 t162 t163 t164 t165 t166 t167 t168 t169 t170 t171 (List.replicate ((l0.length : Int) : Int).toNat 0) 0) else (none)) else (none)) = some r := H
        have A20 := Aside0.mk A200
        clear A200
        by_cases c21 : 0 ≤ (l0.length : Int)
        · rw [if_pos c21] at H
          have c21b0 := eq_true c21
          have c21b1 : decide (0 ≤ (l0.length : Int)) = true := decide_eq_true c21
          clear c21
          by_cases c22 : ((l0.length : Int) : Int).toNat ≤ 281474976710656
          · rw [if_pos c22] at H
            have c22b0 := eq_true c22
            have c22b1 : decide (((l0.length : Int) : Int).toNat ≤ 281474976710656) = true := decide_eq_true c22
            clear c22
            obtain ⟨y172, hy172⟩ : ∃ y_ : List Int, y_ = (List.replicate ((l0.length : Int) : Int).toNat 0) := ⟨_, rfl⟩
            replace H : (spiritlevellaw05_TernaryOne.l0 kj3 l0 l1 t162 t163 t164 t165 t166 t167 t168 t169 t170 t171 y172 0) = some r := by first | (rw [hy172]; with_reducible exact H) | (have H2_ := (Option.bind_some _ _).symm.trans H; rw [hy172]; with_reducible exact H2_) | (have H2_ := (Option.bind_some _ _).symm.trans H; with_reducible exact H2_) | with_reducible exact H | (rw [hy172]; exact H) | exact H
            have Ny172 := Aside0.mk hy172
            clear hy172
            have H' := Aside0.mk H
            clear H
            go_wp2_with (first | ((with_reducible refine gate_callee (f := 14) rfl ?_); refine goesL_ (some 57) rfl rfl Try.func14 (by kernel_rfl) rfl #[.slice A0 l0.length c0, .slice A1 l1.length c1] rfl (by (try simp only [List.map_toArray, List.map_cons, List.map_nil]); first | done | rfl | (simp only [List.length_drop, List.length_take]; rfl)) ?_; (with_reducible refine (ternary_Covers.calls kj3 _ _ l0 _ _ l1 t162 t163 _ ?side1 ?side2 ?side3 ?side4 A16.out).mono ?_); (case side1 => repeat (first | exact (Kd.C_below HR0.out HB.out) | (with_reducible refine Kd.C_alloc ?_ _) | (with_reducible refine Kd.C_drewN ?_ _) | (with_reducible refine Kd.C_drew ?_))); (case side2 => exact HC0.out); (case side3 => repeat (first | exact (Kd.C_below HR1.out HB.out) | (with_reducible refine Kd.C_alloc ?_ _) | (with_reducible refine Kd.C_drewN ?_ _) | (with_reducible refine Kd.C_drew ?_))); (case side4 => exact HC1.out); rintro e w23 ⟨rfl, hb⟩; refine ⟨_, rfl, ?_⟩; have n0_ := Aside0.mk (below_step (by repeat (first | (with_reducible first | exact HB.out | apply below_alloc | apply pw_below_drewN | apply below_drew1) | exact HB.out)) hb); clear HB; have HB := n0_; clear n0_; (try clear hb); (try clear hb2); (try clear hk); (try clear hi)) | ((with_reducible refine gate_callee (f := 14) rfl ?_); refine goesL_ (some 63) rfl rfl Try.func14 (by kernel_rfl) rfl #[.slice A1 l1.length c1, .slice A0 l0.length c0] rfl (by (try simp only [List.map_toArray, List.map_cons, List.map_nil]); first | done | rfl | (simp only [List.length_drop, List.length_take]; rfl)) ?_; (with_reducible refine (ternary_Covers.calls kj3 _ _ l1 _ _ l0 t164 t165 _ ?side1 ?side2 ?side3 ?side4 A17.out).mono ?_); (case side1 => repeat (first | exact (Kd.C_below HR1.out HB.out) | (with_reducible refine Kd.C_alloc ?_ _) | (with_reducible refine Kd.C_drewN ?_ _) | (with_reducible refine Kd.C_drew ?_))); (case side2 => exact HC1.out); (case side3 => repeat (first | exact (Kd.C_below HR0.out HB.out) | (with_reducible refine Kd.C_alloc ?_ _) | (with_reducible refine Kd.C_drewN ?_ _) | (with_reducible refine Kd.C_drew ?_))); (case side4 => exact HC0.out); rintro e w24 ⟨rfl, hb⟩; refine ⟨_, rfl, ?_⟩; have n0_ := Aside0.mk (below_step (by repeat (first | (with_reducible first | exact HB.out | apply below_alloc | apply pw_below_drewN | apply below_drew1) | exact HB.out)) hb); clear HB; have HB := n0_; clear n0_; (try clear hb); (try clear hb2); (try clear hk); (try clear hi)) | ((with_reducible refine gate_callee (f := 14) rfl ?_); refine goesL_ (some 69) rfl rfl Try.func14 (by kernel_rfl) rfl #[.slice A1 l1.length c1, .slice A2 l2.length c2] rfl (by (try simp only [List.map_toArray, List.map_cons, List.map_nil]); first | done | rfl | (simp only [List.length_drop, List.length_take]; rfl)) ?_; (with_reducible refine (ternary_Covers.calls kj3 _ _ l1 _ _ l2 t166 t167 _ ?side1 ?side2 ?side3 ?side4 A18.out).mono ?_); (case side1 => repeat (first | exact (Kd.C_below HR1.out HB.out) | (with_reducible refine Kd.C_alloc ?_ _) | (with_reducible refine Kd.C_drewN ?_ _) | (with_reducible refine Kd.C_drew ?_))); (case side2 => exact HC1.out); (case side3 => repeat (first | exact (Kd.C_below HR2.out HB.out) | (with_reducible refine Kd.C_alloc ?_ _) | (with_reducible refine Kd.C_drewN ?_ _) | (with_reducible refine Kd.C_drew ?_))); (case side4 => exact HC2.out); rintro e w25 ⟨rfl, hb⟩; refine ⟨_, rfl, ?_⟩; have n0_ := Aside0.mk (below_step (by repeat (first | (with_reducible first | exact HB.out | apply below_alloc | apply pw_below_drewN | apply below_drew1) | exact HB.out)) hb); clear HB; have HB := n0_; clear n0_; (try clear hb); (try clear hb2); (try clear hk); (try clear hi)) | ((with_reducible refine gate_callee (f := 14) rfl ?_); refine goesL_ (some 75) rfl rfl Try.func14 (by kernel_rfl) rfl #[.slice A0 l0.length c0, .slice A2 l2.length c2] rfl (by (try simp only [List.map_toArray, List.map_cons, List.map_nil]); first | done | rfl | (simp only [List.length_drop, List.length_take]; rfl)) ?_; (with_reducible refine (ternary_Covers.calls kj3 _ _ l0 _ _ l2 t168 t169 _ ?side1 ?side2 ?side3 ?side4 A19.out).mono ?_); (case side1 => repeat (first | exact (Kd.C_below HR0.out HB.out) | (with_reducible refine Kd.C_alloc ?_ _) | (with_reducible refine Kd.C_drewN ?_ _) | (with_reducible refine Kd.C_drew ?_))); (case side2 => exact HC0.out); (case side3 => repeat (first | exact (Kd.C_below HR2.out HB.out) | (with_reducible refine Kd.C_alloc ?_ _) | (with_reducible refine Kd.C_drewN ?_ _) | (with_reducible refine Kd.C_drew ?_))); (case side4 => exact HC2.out); rintro e w26 ⟨rfl, hb⟩; refine ⟨_, rfl, ?_⟩; have n0_ := Aside0.mk (below_step (by repeat (first | (with_reducible first | exact HB.out | apply below_alloc | apply pw_below_drewN | apply below_drew1) | exact HB.out)) hb); clear HB; have HB := n0_; clear n0_; (try clear hb); (try clear hb2); (try clear hk); (try clear hi)) | ((with_reducible refine gate_callee (f := 14) rfl ?_); refine goesL_ (some 81) rfl rfl Try.func14 (by kernel_rfl) rfl #[.slice A0 l0.length c0, .slice A0 l0.length c0] rfl (by (try simp only [List.map_toArray, List.map_cons, List.map_nil]); first | done | rfl | (simp only [List.length_drop, List.length_take]; rfl)) ?_; (with_reducible refine (ternary_Covers.calls kj3 _ _ l0 _ _ l0 t170 t171 _ ?side1 ?side2 ?side3 ?side4 A20.out).mono ?_); (case side1 => repeat (first | exact (Kd.C_below HR0.out HB.out) | (with_reducible refine Kd.C_alloc ?_ _) | (with_reducible refine Kd.C_drewN ?_ _) | (with_reducible refine Kd.C_drew ?_))); (case side2 => exact HC0.out); (case side3 => repeat (first | exact (Kd.C_below HR0.out HB.out) | (with_reducible refine Kd.C_alloc ?_ _) | (with_reducible refine Kd.C_drewN ?_ _) | (with_reducible refine Kd.C_drew ?_))); (case side4 => exact HC0.out); rintro e w27 ⟨rfl, hb⟩; refine ⟨_, rfl, ?_⟩; have n0_ := Aside0.mk (below_step (by repeat (first | (with_reducible first | exact HB.out | apply below_alloc | apply pw_below_drewN | apply below_drew1) | exact HB.out)) hb); clear HB; have HB := n0_; clear n0_; (try clear hb); (try clear hb2); (try clear hk); (try clear hi)) | ((with_reducible refine gate_dst (N := 86) rfl ?_); (try (refine gate_guard (by rfl) ?_; dsimp only)); refine Kd.R_make (Kd.int .u8) _ 5 rfl (N := 86) rfl 22 _ _ rfl (l0.length : Int) rfl rfl Try.underlying22 (.int .u8 0) 1 info5 rfl (by decide) (by omega) 0 (ok := fun _ => True) (okp := fun _ => True) rfl (fun _ hk => hk) trivial (of_decide_eq_true (by first | (with_reducible assumption) | assumption)) (Nat.le_trans (Nat.mul_le_mul_right _ (of_decide_eq_true (by first | (with_reducible assumption) | assumption) : (l0.length : Int).toNat ≤ 281474976710656)) (by omega)) (Below.refl _ _) (Nat.le_refl _) ?_; intro v173 w28 ho29 hb hg_ hnew_; clear hg_ hnew_; (first | rw [← Ny172.out] at ho29 | (simp only [Int.reduceToNat] at ho29; rw [← Ny172.out] at ho29)); have n0_ := Aside0.mk (Kd.R_lower ho29 (below_size (by repeat (first | (with_reducible first | exact HB.out | apply below_alloc | apply pw_below_drewN | apply below_drew1) | exact HB.out)))); have n1_ := Aside0.mk (below_step (by repeat (first | (with_reducible first | exact HB.out | apply below_alloc | apply pw_below_drewN | apply below_drew1) | exact HB.out)) hb); clear HB; have HO174 := n0_; have HB := n1_; clear n0_ n1_; clear hb ho29))
            go_loopg [18] kj3 (fun kq v18 w' => ∃ (x17_2 : List Int) (x18_2 : Int), v18 = .int .i64 x18_2 ∧ Aside0 (spiritlevellaw05_TernaryOne.l0 kq l0 l1 t162 t163 t164 t165 t166 t167 t168 t169 t170 t171 x17_2 x18_2 = some r) ∧ Aside0 (kq ≤ kj3) ∧ Aside0 (Kd.R (Kd.int .u8) 5 w' w.heap.size (fun _ => True) v173 x17_2) ∧ Aside0 (Below w.heap.size w w'))
            case atStart => exact ⟨(y172), (0), (by first | rfl | (simp; done) | (simp [*]; done)), H', ⟨Nat.le_refl _⟩, ⟨by (with_reducible repeat (first | apply Kd.R_alloc | apply Kd.R_drewN | apply Kd.R_drew)); exact HO174.out⟩, ⟨by repeat (first | (with_reducible first | exact HB.out | apply below_alloc | apply pw_below_drewN | apply below_drew1) | exact HB.out)⟩⟩
            case round =>
              clear H'
              try clear c1
              try clear c2
              try clear p2
              try clear c5
              try clear c5b0
              try clear c5b1
              try clear c6
              try clear c6b0
              try clear c6b1
              try clear c6b2
              try clear c7
              try clear c7b0
              try clear c7b1
              try clear c7b2
              try clear c9
              try clear c11
              try clear c13
              try clear c14
              try clear c16
              try clear c21
              try clear c21b0
              try clear c21b1
              try clear c22
              try clear c22b0
              try clear c22b1
              try clear p2
              obtain ⟨x17_2, x18_2, rfl, HA, HK2, HO_17, HB⟩ := hrel
              cases gk with
              | zero => exact absurd HA.out (by simp [spiritlevellaw05_TernaryOne.l0])
              | succ k2 =>
                have H := HA.out
                clear HA
                simp only [spiritlevellaw05_TernaryOne.l0] at H
                by_cases c30 : x18_2 < (x17_2.length : Int)
                · rw [if_pos c30] at H
                  have c30b0 : decide (x18_2 < (x17_2.length : Int)) = true := decide_eq_true c30
                  clear c30
                  by_cases c31 : 0 ≤ x18_2
                  · rw [if_pos c31] at H
                    have c31b0 : decide (0 ≤ x18_2) = true := decide_eq_true c31
                    clear c31
                    obtain ⟨y175, hy175⟩ : ∃ y_ : List Int, y_ = (x17_2.set (x18_2 : Int).toNat 2) := ⟨_, rfl⟩
                    replace H : (spiritlevellaw05_TernaryOne.l0 k2 l0 l1 t162 t163 t164 t165 t166 t167 t168 t169 t170 t171 y175 (wrap64 (x18_2 + 1))) = some r := by first | (rw [hy175]; with_reducible exact H) | (have H2_ := (Option.bind_some _ _).symm.trans H; rw [hy175]; with_reducible exact H2_) | (have H2_ := (Option.bind_some _ _).symm.trans H; with_reducible exact H2_) | with_reducible exact H | (rw [hy175]; exact H) | exact H
                    have Ny175 := Aside0.mk hy175
                    clear hy175
                    have H' := Aside0.mk H
                    clear H
                    obtain ⟨Ao33, co33, eo33⟩ := Kd.R_slice HO_17.out
                    subst eo33
                    have p32 : 0 ≤ (x18_2 : Int) := of_decide_eq_true (by first | (with_reducible assumption) | assumption)
                    have q32 : (x18_2 : Int) < ((x17_2.length : Int) : Int) := of_decide_eq_true (by first | (with_reducible assumption) | assumption)
                    obtain ⟨go32, co32, eo32, gb32, gl32, cl32, HG32⟩ := Kd.R_form HO_17.out (by omega)
                    (first | cases eo32 | (injection eo32 with ea_ en_ ec_; (first | subst ea_ | (injection ea_ with ea_; subst ea_)); subst ec_; clear en_))
                    have GB32 := Aside0.mk gb32
                    have GG32 := Aside0.mk HG32
                    clear gb32 gl32 HG32
                    obtain ⟨hx32_0, hf32_0⟩ := Kd.R_celln 0 HO_17.out (x18_2 : Int) p32 q32
                    replace p32 := eq_true p32
                    replace q32 := eq_true q32
                    have HP34 := Kd.R_putg HO_17.out (x18_2 : Int) 2
                    go_wp2_with (first | ((with_reducible refine gate_store (t := 5) (p := 95) rfl ?_); refine store_event (t := 5) (p := 95) (v := ?vo_w35) (w1 := (wr.setCell ⟨go32, (x18_2 : Int).toNat, none⟩ (.int .u8 2))) ?hg ?ho ?hn ?hr ?_; (case ho => rfl); (case hg => rfl); (case hn => rfl); (case hr => first | (go_simp; done) | (go_simp; rfl)); intro w35 hw; have hg : wr.grownBy w35 (some go32) := (by rw [hw]; exact HP34.2); have hp_ : Kd.R (Kd.int .u8) 5 w35 w.heap.size (fun _ => True) (.slice (some ⟨go32, 0, none⟩) x17_2.length co33) y175 := (by rw [hw, Ny175.out]; exact HP34.1); clear HP34; have n0_ := Aside0.mk (hp_); have n1_ := Aside0.mk ((by rw [hw]; exact below_set (HB.out) GB32.out : Below w.heap.size w w35)); clear HO_17; clear HB; have HO_17 := n0_; have HB := n1_; clear n0_ n1_; clear hg hw hp_))
                    go_roundg k2
                    case measure => have := HJ3.out; have := HK2.out; omega
                    case rel => exact ⟨(y175), (wrap64 (x18_2 + 1)), (by first | rfl | (simp; done) | (simp [*]; done)), H', ⟨by have := HJ3.out; have := HK2.out; omega⟩, ⟨by (with_reducible repeat (first | apply Kd.R_alloc | apply Kd.R_drewN | apply Kd.R_drew)); exact HO_17.out⟩, ⟨by repeat (first | (with_reducible first | exact HB.out | apply below_alloc | apply pw_below_drewN | apply below_drew1) | exact HB.out)⟩⟩
                  · rw [if_neg c31] at H
                    exact absurd H (by simp)
                · rw [if_neg c30] at H
                  have c30b0 : decide (x18_2 < (x17_2.length : Int)) = false := decide_eq_false c30
                  clear c30
                  replace H := Option.bind_eq_some_iff.mp H
                  obtain ⟨⟨t176, t177⟩, A360, H⟩ := H
                  replace H : (if t163 = 0 then (if t165 = 0 then (if t167 = 0 then (if t169 = 0 then (if t171 = 0 then (if t177 = 0 then (if t170 = true then (if t176 = true then (if t162 = true then (if t166 = true then (if t168 = true then ((spiritlevelref05_Same.f k2 l0 l1).bind fun t178 => (if (t164 == t178) = true then ((spiritlevellaw05_alive.f k2).bind fun t179 => (some t179)) else (some false))) else (some false)) else ((spiritlevelref05_Same.f k2 l0 l1).bind fun t180 => (if (t164 == t180) = true then ((spiritlevellaw05_alive.f k2).bind fun t181 => (some t181)) else (some false)))) else ((spiritlevelref05_Same.f k2 l0 l1).bind fun t182 => (if (false == t182) = true then ((spiritlevellaw05_alive.f k2).bind fun t183 => (some t183)) else (some false)))) else (some false)) else (some false)) else (some false)) else (some false)) else (some false)) else (some false)) else (some false)) else (some false)) = some r := H
                  have A36 := Aside0.mk A360
                  clear A360
                  by_cases c37 : t163 = 0
                  · rw [if_pos c37] at H
                    have c37b0 : (t163 == 0) = true := beq_iff_eq.mpr c37
                    have c37b1 : (t163 != 0) = false := bne_eq_false_iff_eq.mpr c37
                    clear c37
                    by_cases c38 : t165 = 0
                    · rw [if_pos c38] at H
                      have c38b0 : (t165 == 0) = true := beq_iff_eq.mpr c38
                      have c38b1 : (t165 != 0) = false := bne_eq_false_iff_eq.mpr c38
                      clear c38
                      by_cases c39 : t167 = 0
                      · rw [if_pos c39] at H
                        have c39b0 : (t167 == 0) = true := beq_iff_eq.mpr c39
                        have c39b1 : (t167 != 0) = false := bne_eq_false_iff_eq.mpr c39
                        clear c39
                        by_cases c40 : t169 = 0
                        · rw [if_pos c40] at H
                          have c40b0 : (t169 == 0) = true := beq_iff_eq.mpr c40
                          have c40b1 : (t169 != 0) = false := bne_eq_false_iff_eq.mpr c40
                          clear c40
                          by_cases c41 : t171 = 0
                          · rw [if_pos c41] at H
                            have c41b0 : (t171 == 0) = true := beq_iff_eq.mpr c41
                            have c41b1 : (t171 != 0) = false := bne_eq_false_iff_eq.mpr c41
                            clear c41
                            by_cases c42 : t177 = 0
                            · rw [if_pos c42] at H
                              have c42b0 : (t177 == 0) = true := beq_iff_eq.mpr c42
                              have c42b1 : (t177 != 0) = false := bne_eq_false_iff_eq.mpr c42
                              clear c42
                              by_cases c43 : t170 = true
                              · subst c43
                                have H1 : (if t176 = true then (if t162 = true then (if t166 = true then (if t168 = true then ((spiritlevelref05_Same.f k2 l0 l1).bind fun t178 => (if (t164 == t178) = true then ((spiritlevellaw05_alive.f k2).bind fun t179 => (some t179)) else (some false))) else (some false)) else ((spiritlevelref05_Same.f k2 l0 l1).bind fun t180 => (if (t164 == t180) = true then ((spiritlevellaw05_alive.f k2).bind fun t181 => (some t181)) else (some false)))) else ((spiritlevelref05_Same.f k2 l0 l1).bind fun t182 => (if (false == t182) = true then ((spiritlevellaw05_alive.f k2).bind fun t183 => (some t183)) else (some false)))) else (some false)) = some r := by rw [if_pos rfl] at H; exact H
                                clear H
                                have H := H1
                                clear H1
                                by_cases c44 : t176 = true
                                · subst c44
                                  have H1 : (if t162 = true then (if t166 = true then (if t168 = true then ((spiritlevelref05_Same.f k2 l0 l1).bind fun t178 => (if (t164 == t178) = true then ((spiritlevellaw05_alive.f k2).bind fun t179 => (some t179)) else (some false))) else (some false)) else ((spiritlevelref05_Same.f k2 l0 l1).bind fun t180 => (if (t164 == t180) = true then ((spiritlevellaw05_alive.f k2).bind fun t181 => (some t181)) else (some false)))) else ((spiritlevelref05_Same.f k2 l0 l1).bind fun t182 => (if (false == t182) = true then ((spiritlevellaw05_alive.f k2).bind fun t183 => (some t183)) else (some false)))) = some r := by rw [if_pos rfl] at H; exact H
                                  clear H
                                  have H := H1
                                  clear H1
                                  by_cases c45 : t162 = true
                                  · subst c45
                                    have H1 : (if t166 = true then (if t168 = true then ((spiritlevelref05_Same.f k2 l0 l1).bind fun t178 => (if (t164 == t178) = true then ((spiritlevellaw05_alive.f k2).bind fun t179 => (some t179)) else (some false))) else (some false)) else ((spiritlevelref05_Same.f k2 l0 l1).bind fun t180 => (if (t164 == t180) = true then ((spiritlevellaw05_alive.f k2).bind fun t181 => (some t181)) else (some false)))) = some r := by rw [if_pos rfl] at H; exact H
                                    clear H
                                    have H := H1
                                    clear H1
                                    by_cases c46 : t166 = true
                                    · subst c46
                                      have H1 : (if t168 = true then ((spiritlevelref05_Same.f k2 l0 l1).bind fun t178 => (if (t164 == t178) = true then ((spiritlevellaw05_alive.f k2).bind fun t179 => (some t179)) else (some false))) else (some false)) = some r := by rw [if_pos rfl] at H; exact H
                                      clear H
                                      have H := H1
                                      clear H1
                                      by_cases c47 : t168 = true
                                      · subst c47
                                        have H1 : ((spiritlevelref05_Same.f k2 l0 l1).bind fun t178 => (if (t164 == t178) = true then ((spiritlevellaw05_alive.f k2).bind fun t179 => (some t179)) else (some false))) = some r := by rw [if_pos rfl] at H; exact H
                                        clear H
                                        have H := H1
                                        clear H1
                                        replace H := Option.bind_eq_some_iff.mp H
                                        obtain ⟨t178, A480, H⟩ := H
                                        replace H : (if (t164 == t178) = true then ((spiritlevellaw05_alive.f k2).bind fun t179 => (some t179)) else (some false)) = some r := H
                                        have A48 := Aside0.mk A480
                                        clear A480
                                        by_cases c49 : (t164 == t178) = true
                                        · rw [if_pos c49] at H
                                          have c49b0 : (t164 == t178) = true := c49
                                          (try (have c49b1 : decide (t164 = t178) = true := by simpa using c49))
                                          (try (have c49b2 : (t164 == t178) = true := by simpa using c49))
                                          clear c49
                                          replace H := Option.bind_eq_some_iff.mp H
                                          obtain ⟨t179, A500, H⟩ := H
                                          replace H : (some t179) = some r := H
                                          have A50 := Aside0.mk A500
                                          clear A500
                                          obtain rfl := Option.some.inj H
                                          obtain ⟨Ao51, co51, eo51⟩ := Kd.R_slice HO_17.out
                                          subst eo51
                                          go_wp2_with (first | ((with_reducible refine gate_callee (f := 14) rfl ?_); refine goesL_ (some 99) rfl rfl Try.func14 (by kernel_rfl) rfl #[.slice Ao51 x17_2.length co51, .slice A0 l0.length c0] rfl (by (try simp only [List.map_toArray, List.map_cons, List.map_nil]); first | done | rfl | (simp only [List.length_drop, List.length_take]; rfl)) ?_; (with_reducible refine (ternary_Covers.calls k2 _ _ x17_2 _ _ l0 true t177 _ ?side1 ?side2 ?side3 ?side4 A36.out).mono ?_); (case side1 => repeat (first | exact (Kd.R_reads' HO_17.out).2.2 | (with_reducible refine Kd.C_alloc ?_ _) | (with_reducible refine Kd.C_drewN ?_ _) | (with_reducible refine Kd.C_drew ?_))); (case side2 => exact (Kd.R_reads' HO_17.out).2.1); (case side3 => repeat (first | exact (Kd.C_below HR0.out HB.out) | (with_reducible refine Kd.C_alloc ?_ _) | (with_reducible refine Kd.C_drewN ?_ _) | (with_reducible refine Kd.C_drew ?_))); (case side4 => exact HC0.out); rintro e w52 ⟨rfl, hb⟩; refine ⟨_, rfl, ?_⟩; have n0_ := Aside0.mk (Kd.R_below (by (with_reducible repeat (first | apply Kd.R_alloc | apply Kd.R_drewN | apply Kd.R_drew)); exact HO_17.out) hb); have n1_ := Aside0.mk (below_step (by repeat (first | (with_reducible first | exact HB.out | apply below_alloc | apply pw_below_drewN | apply below_drew1) | exact HB.out)) hb); clear HO_17; clear HB; have HO_17 := n0_; have HB := n1_; clear n0_ n1_; (try clear hb); (try clear hb2); (try clear hk); (try clear hi)) | (go_at_call 19; (with_reducible refine (spiritlevelref05_Same.calls k2 _ _ l0 _ _ l1 t178 _ ?side1 ?side2 ?side3 ?side4 A48.out).mono ?_); (case side1 => repeat (first | exact (Kd.C_below HR0.out HB.out) | (with_reducible refine Kd.C_alloc ?_ _) | (with_reducible refine Kd.C_drewN ?_ _) | (with_reducible refine Kd.C_drew ?_))); (case side2 => exact HC0.out); (case side3 => repeat (first | exact (Kd.C_below HR1.out HB.out) | (with_reducible refine Kd.C_alloc ?_ _) | (with_reducible refine Kd.C_drewN ?_ _) | (with_reducible refine Kd.C_drew ?_))); (case side4 => exact HC1.out); rintro e w' ⟨rfl, ⟨nd, rfl⟩⟩) | (go_at_call 16; (with_reducible refine (spiritlevellaw05_alive.calls k2  t179 _ A50.out).mono ?_); rintro e w53 ⟨rfl, hb⟩; have n0_ := Aside0.mk (Kd.R_below (by (with_reducible repeat (first | apply Kd.R_alloc | apply Kd.R_drewN | apply Kd.R_drew)); exact HO_17.out) hb); have n1_ := Aside0.mk (below_step (by repeat (first | (with_reducible first | exact HB.out | apply below_alloc | apply pw_below_drewN | apply below_drew1) | exact HB.out)) hb); clear HO_17; clear HB; have HO_17 := n0_; have HB := n1_; clear n0_ n1_; (try clear hb); (try clear hb2); (try clear hk); (try clear hi)))
                                          go_ret
                                          exact ⟨by first | rfl | (simp [errW_none, errW_some] <;> rfl) | (simp [*, errW_none, errW_some] <;> rfl), by repeat (first | (with_reducible first | exact HB.out | apply below_alloc | apply pw_below_drewN | apply below_drew1) | exact HB.out)⟩
                                        · rw [if_neg c49] at H
                                          have c49b0 : (t164 == t178) = false := by simpa using c49
                                          (try (have c49b1 : decide (t164 = t178) = false := by simpa using c49))
                                          (try (have c49b2 : (t164 == t178) = false := by simpa using c49))
                                          (try (have c49b3 : ¬ (t164 = t178) := by simpa using c49))
                                          clear c49
                                          exact absurd ((Option.some.inj H).trans HT_.out) (by decide)
                                      · replace c47 := Bool.eq_false_iff.mpr c47
                                        subst c47
                                        have H1 : (some false) = some r := by rw [if_neg (show ¬ (false = true) by decide)] at H; exact H
                                        clear H
                                        have H := H1
                                        clear H1
                                        exact absurd ((Option.some.inj H).trans HT_.out) (by decide)
                                    · replace c46 := Bool.eq_false_iff.mpr c46
                                      subst c46
                                      have H1 : ((spiritlevelref05_Same.f k2 l0 l1).bind fun t180 => (if (t164 == t180) = true then ((spiritlevellaw05_alive.f k2).bind fun t181 => (some t181)) else (some false))) = some r := by rw [if_neg (show ¬ (false = true) by decide)] at H; exact H
                                      clear H
                                      have H := H1
                                      clear H1
                                      replace H := Option.bind_eq_some_iff.mp H
                                      obtain ⟨t180, A540, H⟩ := H
                                      replace H : (if (t164 == t180) = true then ((spiritlevellaw05_alive.f k2).bind fun t181 => (some t181)) else (some false)) = some r := H
                                      have A54 := Aside0.mk A540
                                      clear A540
                                      by_cases c55 : (t164 == t180) = true
                                      · rw [if_pos c55] at H
                                        have c55b0 : (t164 == t180) = true := c55
                                        (try (have c55b1 : decide (t164 = t180) = true := by simpa using c55))
                                        (try (have c55b2 : (t164 == t180) = true := by simpa using c55))
                                        clear c55
                                        replace H := Option.bind_eq_some_iff.mp H
                                        obtain ⟨t181, A560, H⟩ := H
                                        replace H : (some t181) = some r := H
                                        have A56 := Aside0.mk A560
                                        clear A560
                                        obtain rfl := Option.some.inj H
                                        obtain ⟨Ao57, co57, eo57⟩ := Kd.R_slice HO_17.out
                                        subst eo57
                                        go_wp2_with (first | ((with_reducible refine gate_callee (f := 14) rfl ?_); refine goesL_ (some 99) rfl rfl Try.func14 (by kernel_rfl) rfl #[.slice Ao57 x17_2.length co57, .slice A0 l0.length c0] rfl (by (try simp only [List.map_toArray, List.map_cons, List.map_nil]); first | done | rfl | (simp only [List.length_drop, List.length_take]; rfl)) ?_; (with_reducible refine (ternary_Covers.calls k2 _ _ x17_2 _ _ l0 true t177 _ ?side1 ?side2 ?side3 ?side4 A36.out).mono ?_); (case side1 => repeat (first | exact (Kd.R_reads' HO_17.out).2.2 | (with_reducible refine Kd.C_alloc ?_ _) | (with_reducible refine Kd.C_drewN ?_ _) | (with_reducible refine Kd.C_drew ?_))); (case side2 => exact (Kd.R_reads' HO_17.out).2.1); (case side3 => repeat (first | exact (Kd.C_below HR0.out HB.out) | (with_reducible refine Kd.C_alloc ?_ _) | (with_reducible refine Kd.C_drewN ?_ _) | (with_reducible refine Kd.C_drew ?_))); (case side4 => exact HC0.out); rintro e w58 ⟨rfl, hb⟩; refine ⟨_, rfl, ?_⟩; have n0_ := Aside0.mk (Kd.R_below (by (with_reducible repeat (first | apply Kd.R_alloc | apply Kd.R_drewN | apply Kd.R_drew)); exact HO_17.out) hb); have n1_ := Aside0.mk (below_step (by repeat (first | (with_reducible first | exact HB.out | apply below_alloc | apply pw_below_drewN | apply below_drew1) | exact HB.out)) hb); clear HO_17; clear HB; have HO_17 := n0_; have HB := n1_; clear n0_ n1_; (try clear hb); (try clear hb2); (try clear hk); (try clear hi)) | (go_at_call 19; (with_reducible refine (spiritlevelref05_Same.calls k2 _ _ l0 _ _ l1 t180 _ ?side1 ?side2 ?side3 ?side4 A54.out).mono ?_); (case side1 => repeat (first | exact (Kd.C_below HR0.out HB.out) | (with_reducible refine Kd.C_alloc ?_ _) | (with_reducible refine Kd.C_drewN ?_ _) | (with_reducible refine Kd.C_drew ?_))); (case side2 => exact HC0.out); (case side3 => repeat (first | exact (Kd.C_below HR1.out HB.out) | (with_reducible refine Kd.C_alloc ?_ _) | (with_reducible refine Kd.C_drewN ?_ _) | (with_reducible refine Kd.C_drew ?_))); (case side4 => exact HC1.out); rintro e w' ⟨rfl, ⟨nd, rfl⟩⟩) | (go_at_call 16; (with_reducible refine (spiritlevellaw05_alive.calls k2  t181 _ A56.out).mono ?_); rintro e w59 ⟨rfl, hb⟩; have n0_ := Aside0.mk (Kd.R_below (by (with_reducible repeat (first | apply Kd.R_alloc | apply Kd.R_drewN | apply Kd.R_drew)); exact HO_17.out) hb); have n1_ := Aside0.mk (below_step (by repeat (first | (with_reducible first | exact HB.out | apply below_alloc | apply pw_below_drewN | apply below_drew1) | exact HB.out)) hb); clear HO_17; clear HB; have HO_17 := n0_; have HB := n1_; clear n0_ n1_; (try clear hb); (try clear hb2); (try clear hk); (try clear hi)))
                                        go_ret
                                        exact ⟨by first | rfl | (simp [errW_none, errW_some] <;> rfl) | (simp [*, errW_none, errW_some] <;> rfl), by repeat (first | (with_reducible first | exact HB.out | apply below_alloc | apply pw_below_drewN | apply below_drew1) | exact HB.out)⟩
                                      · rw [if_neg c55] at H
                                        have c55b0 : (t164 == t180) = false := by simpa using c55
                                        (try (have c55b1 : decide (t164 = t180) = false := by simpa using c55))
                                        (try (have c55b2 : (t164 == t180) = false := by simpa using c55))
                                        (try (have c55b3 : ¬ (t164 = t180) := by simpa using c55))
                                        clear c55
                                        exact absurd ((Option.some.inj H).trans HT_.out) (by decide)
                                  · replace c45 := Bool.eq_false_iff.mpr c45
                                    subst c45
                                    have H1 : ((spiritlevelref05_Same.f k2 l0 l1).bind fun t182 => (if (false == t182) = true then ((spiritlevellaw05_alive.f k2).bind fun t183 => (some t183)) else (some false))) = some r := by rw [if_neg (show ¬ (false = true) by decide)] at H; exact H
                                    clear H
                                    have H := H1
                                    clear H1
                                    replace H := Option.bind_eq_some_iff.mp H
                                    obtain ⟨t182, A600, H⟩ := H
                                    replace H : (if (false == t182) = true then ((spiritlevellaw05_alive.f k2).bind fun t183 => (some t183)) else (some false)) = some r := H
                                    have A60 := Aside0.mk A600
                                    clear A600
                                    by_cases c61 : (false == t182) = true
                                    · rw [if_pos c61] at H
                                      have c61b0 : (false == t182) = true := c61
                                      (try (have c61b1 : decide (false = t182) = true := by simpa using c61))
                                      (try (have c61b2 : (false == t182) = true := by simpa using c61))
                                      clear c61
                                      replace H := Option.bind_eq_some_iff.mp H
                                      obtain ⟨t183, A620, H⟩ := H
                                      replace H : (some t183) = some r := H
                                      have A62 := Aside0.mk A620
                                      clear A620
                                      obtain rfl := Option.some.inj H
                                      obtain ⟨Ao63, co63, eo63⟩ := Kd.R_slice HO_17.out
                                      subst eo63
                                      go_wp2_with (first | ((with_reducible refine gate_callee (f := 14) rfl ?_); refine goesL_ (some 99) rfl rfl Try.func14 (by kernel_rfl) rfl #[.slice Ao63 x17_2.length co63, .slice A0 l0.length c0] rfl (by (try simp only [List.map_toArray, List.map_cons, List.map_nil]); first | done | rfl | (simp only [List.length_drop, List.length_take]; rfl)) ?_; (with_reducible refine (ternary_Covers.calls k2 _ _ x17_2 _ _ l0 true t177 _ ?side1 ?side2 ?side3 ?side4 A36.out).mono ?_); (case side1 => repeat (first | exact (Kd.R_reads' HO_17.out).2.2 | (with_reducible refine Kd.C_alloc ?_ _) | (with_reducible refine Kd.C_drewN ?_ _) | (with_reducible refine Kd.C_drew ?_))); (case side2 => exact (Kd.R_reads' HO_17.out).2.1); (case side3 => repeat (first | exact (Kd.C_below HR0.out HB.out) | (with_reducible refine Kd.C_alloc ?_ _) | (with_reducible refine Kd.C_drewN ?_ _) | (with_reducible refine Kd.C_drew ?_))); (case side4 => exact HC0.out); rintro e w64 ⟨rfl, hb⟩; refine ⟨_, rfl, ?_⟩; have n0_ := Aside0.mk (Kd.R_below (by (with_reducible repeat (first | apply Kd.R_alloc | apply Kd.R_drewN | apply Kd.R_drew)); exact HO_17.out) hb); have n1_ := Aside0.mk (below_step (by repeat (first | (with_reducible first | exact HB.out | apply below_alloc | apply pw_below_drewN | apply below_drew1) | exact HB.out)) hb); clear HO_17; clear HB; have HO_17 := n0_; have HB := n1_; clear n0_ n1_; (try clear hb); (try clear hb2); (try clear hk); (try clear hi)) | (go_at_call 19; (with_reducible refine (spiritlevelref05_Same.calls k2 _ _ l0 _ _ l1 t182 _ ?side1 ?side2 ?side3 ?side4 A60.out).mono ?_); (case side1 => repeat (first | exact (Kd.C_below HR0.out HB.out) | (with_reducible refine Kd.C_alloc ?_ _) | (with_reducible refine Kd.C_drewN ?_ _) | (with_reducible refine Kd.C_drew ?_))); (case side2 => exact HC0.out); (case side3 => repeat (first | exact (Kd.C_below HR1.out HB.out) | (with_reducible refine Kd.C_alloc ?_ _) | (with_reducible refine Kd.C_drewN ?_ _) | (with_reducible refine Kd.C_drew ?_))); (case side4 => exact HC1.out); rintro e w' ⟨rfl, ⟨nd, rfl⟩⟩) | (go_at_call 16; (with_reducible refine (spiritlevellaw05_alive.calls k2  t183 _ A62.out).mono ?_); rintro e w65 ⟨rfl, hb⟩; have n0_ := Aside0.mk (Kd.R_below (by (with_reducible repeat (first | apply Kd.R_alloc | apply Kd.R_drewN | apply Kd.R_drew)); exact HO_17.out) hb); have n1_ := Aside0.mk (below_step (by repeat (first | (with_reducible first | exact HB.out | apply below_alloc | apply pw_below_drewN | apply below_drew1) | exact HB.out)) hb); clear HO_17; clear HB; have HO_17 := n0_; have HB := n1_; clear n0_ n1_; (try clear hb); (try clear hb2); (try clear hk); (try clear hi)))
                                      go_ret
                                      exact ⟨by first | rfl | (simp [errW_none, errW_some] <;> rfl) | (simp [*, errW_none, errW_some] <;> rfl), by repeat (first | (with_reducible first | exact HB.out | apply below_alloc | apply pw_below_drewN | apply below_drew1) | exact HB.out)⟩
                                    · rw [if_neg c61] at H
                                      have c61b0 : (false == t182) = false := by simpa using c61
                                      (try (have c61b1 : decide (false = t182) = false := by simpa using c61))
                                      (try (have c61b2 : (false == t182) = false := by simpa using c61))
                                      (try (have c61b3 : ¬ (false = t182) := by simpa using c61))
                                      clear c61
                                      exact absurd ((Option.some.inj H).trans HT_.out) (by decide)
                                · replace c44 := Bool.eq_false_iff.mpr c44
                                  subst c44
                                  have H1 : (some false) = some r := by rw [if_neg (show ¬ (false = true) by decide)] at H; exact H
                                  clear H
                                  have H := H1
                                  clear H1
                                  exact absurd ((Option.some.inj H).trans HT_.out) (by decide)
                              · replace c43 := Bool.eq_false_iff.mpr c43
                                subst c43
                                have H1 : (some false) = some r := by rw [if_neg (show ¬ (false = true) by decide)] at H; exact H
                                clear H
                                have H := H1
                                clear H1
                                exact absurd ((Option.some.inj H).trans HT_.out) (by decide)
                            · rw [if_neg c42] at H
                              have c42b0 : (t177 == 0) = false := beq_eq_false_iff_ne.mpr c42
                              have c42b1 : (t177 != 0) = true := bne_iff_ne.mpr c42
                              exact absurd ((Option.some.inj H).trans HT_.out) (by decide)
                          · rw [if_neg c41] at H
                            have c41b0 : (t171 == 0) = false := beq_eq_false_iff_ne.mpr c41
                            have c41b1 : (t171 != 0) = true := bne_iff_ne.mpr c41
                            exact absurd ((Option.some.inj H).trans HT_.out) (by decide)
                        · rw [if_neg c40] at H
                          have c40b0 : (t169 == 0) = false := beq_eq_false_iff_ne.mpr c40
                          have c40b1 : (t169 != 0) = true := bne_iff_ne.mpr c40
                          exact absurd ((Option.some.inj H).trans HT_.out) (by decide)
                      · rw [if_neg c39] at H
                        have c39b0 : (t167 == 0) = false := beq_eq_false_iff_ne.mpr c39
                        have c39b1 : (t167 != 0) = true := bne_iff_ne.mpr c39
                        exact absurd ((Option.some.inj H).trans HT_.out) (by decide)
                    · rw [if_neg c38] at H
                      have c38b0 : (t165 == 0) = false := beq_eq_false_iff_ne.mpr c38
                      have c38b1 : (t165 != 0) = true := bne_iff_ne.mpr c38
                      exact absurd ((Option.some.inj H).trans HT_.out) (by decide)
                  · rw [if_neg c37] at H
                    have c37b0 : (t163 == 0) = false := beq_eq_false_iff_ne.mpr c37
                    have c37b1 : (t163 != 0) = true := bne_iff_ne.mpr c37
                    exact absurd ((Option.some.inj H).trans HT_.out) (by decide)
          · rw [if_neg c22] at H
            exact absurd H (by simp)
        · rw [if_neg c21] at H
          exact absurd H (by simp)

/-- THE ONE PURE STATEMENT of spiritlevellaw05_TernaryOne. -/
def spiritlevellaw05_TernaryOne.Pure : Prop := ∀ (l0 : List Int) (l1 : List Int) (l2 : List Int), (l0.length ≤ 9223372036854775807 ∧ l0.length * 1 ≤ 140737488351232 ∧ ∀ x0_ ∈ l0, (Lit.int .u8 x0_).wf = true) → (l1.length ≤ 9223372036854775807 ∧ l1.length * 1 ≤ 140737488351232 ∧ ∀ x0_ ∈ l1, (Lit.int .u8 x0_).wf = true) → (l2.length ≤ 9223372036854775807 ∧ l2.length * 1 ≤ 140737488351232 ∧ ∀ x0_ ∈ l2, (Lit.int .u8 x0_).wf = true) → ∃ k, spiritlevellaw05_TernaryOne.f k l0 l1 l2 = some true
theorem spiritlevellaw05_TernaryOne.walk (P : spiritlevellaw05_TernaryOne.Pure) (A0 : Option Addr) (c0 : Nat) (l0 : List Int) (A1 : Option Addr) (c1 : Nat) (l1 : List Int) (A2 : Option Addr) (c2 : Nat) (l2 : List Int) (w : World) (hr0 : Kd.C (Kd.int .u8) w A0 l0.length l0) (hc0 : l0.length ≤ c0) (hr1 : Kd.C (Kd.int .u8) w A1 l1.length l1) (hc1 : l1.length ≤ c1) (hr2 : Kd.C (Kd.int .u8) w A2 l2.length l2) (hc2 : l2.length ≤ c2) (ok0 : l0.length ≤ 9223372036854775807 ∧ l0.length * 1 ≤ 140737488351232 ∧ ∀ x0_ ∈ l0, (Lit.int .u8 x0_).wf = true) (ok1 : l1.length ≤ 9223372036854775807 ∧ l1.length * 1 ≤ 140737488351232 ∧ ∀ x0_ ∈ l1, (Lit.int .u8 x0_).wf = true) (ok2 : l2.length ≤ 9223372036854775807 ∧ l2.length * 1 ≤ 140737488351232 ∧ ∀ x0_ ∈ l2, (Lit.int .u8 x0_).wf = true) :
    Calls Try.prog 5 #[.slice A0 l0.length c0, .slice A1 l1.length c1, .slice A2 l2.length c2] w fun e w' => e = .returned (.bool true) ∧ Below w.heap.size w w' := by
  obtain ⟨k, h⟩ := P l0 l1 l2 ok0 ok1 ok2
  refine (spiritlevellaw05_TernaryOne.calls k A0 c0 l0 A1 c1 l1 A2 c2 l2 true w hr0 hc0 hr1 hc1 hr2 hc2 rfl h).mono ?_
  rintro e w' ⟨rfl, hd⟩
  exact ⟨rfl, hd⟩

end Go.Proofs.Ytddelmbkbpoelaa.QTernaryOne
