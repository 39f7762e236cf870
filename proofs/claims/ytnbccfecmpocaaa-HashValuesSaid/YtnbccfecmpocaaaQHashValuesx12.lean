-- Made by wip/myprint.sh (a patched print): a text of this session's own.
import Derived.Test.YtnbccfecmpocaaaQHashValuesx0
import Derived.Test.YtnbccfecmpocaaaQHashValuesx10
import Derived.Test.YtnbccfecmpocaaaQHashValuesx11
namespace Go.Proofs.Ytnbccfecmpocaaa.QHashValues
open Go.RowKit Go.Proofs.YtnbccfecmpocaaaW.PrintWords Go.Proofs.YtnbccfecmpocaaaW.PrintLast Go.Proofs.YtnbccfecmpocaaaW.PrintMore
attribute [local go_sem] max2_int min2_int max_two min_two max_three min_three max_four min_four
set_option linter.unusedVariables false
set_option linter.unusedSimpArgs false

mutual
def lift_fits.j0 : Nat → Bool → Int → List (S86) → List (S67) → List Int → List Int → Int → List (S86) → List (S67) → List Int → List Int → Int → Int → List Int → List (List Int) → List Int → List (S67) → Int → Option (Bool)
 | 0, _, _, _, _, _, _, _, _, _, _, _, _, _, _, _, _, _, _ => none
 | k + 1, x7, x248000, x248001, x248002, x248003, x248004, x249000, x249001, x249002, x249003, x249004, x250000, x250001, x250002, x250003, x250004, x250005, x250006 => if x7 = true then (if (x250002.length : Int) = (x248001.length : Int) then (if (x250004.length : Int) = (x249001.length : Int) then (lift_fits.j1 k x7 ((x250003.length : Int) != (wrap64 (x250000 + x250001))) x248000 x248001 x248002 x248003 x248004 x249000 x249001 x249002 x249003 x249004 x250000 x250001 x250002 x250003 x250004 x250005 x250006) else (lift_fits.j1 k x7 true x248000 x248001 x248002 x248003 x248004 x249000 x249001 x249002 x249003 x249004 x250000 x250001 x250002 x250003 x250004 x250005 x250006)) else (lift_fits.j1 k x7 true x248000 x248001 x248002 x248003 x248004 x249000 x249001 x249002 x249003 x249004 x250000 x250001 x250002 x250003 x250004 x250005 x250006)) else (lift_fits.j1 k x7 true x248000 x248001 x248002 x248003 x248004 x249000 x249001 x249002 x249003 x249004 x250000 x250001 x250002 x250003 x250004 x250005 x250006)
def lift_fits.j1 : Nat → Bool → Bool → Int → List (S86) → List (S67) → List Int → List Int → Int → List (S86) → List (S67) → List Int → List Int → Int → Int → List Int → List (List Int) → List Int → List (S67) → Int → Option (Bool)
 | 0, _, _, _, _, _, _, _, _, _, _, _, _, _, _, _, _, _, _, _ => none
 | k + 1, x7, x64, x248000, x248001, x248002, x248003, x248004, x249000, x249001, x249002, x249003, x249004, x250000, x250001, x250002, x250003, x250004, x250005, x250006 => if x64 = true then (some false) else (lift_fits.l0 k x7 x250002 (x250002.length : Int) 0 x248000 x248001 x248002 x248003 x248004 x249000 x249001 x249002 x249003 x249004 x250000 x250001 x250002 x250003 x250004 x250005 x250006)
def lift_fits.l0 : Nat → Bool → List Int → Int → Int → Int → List (S86) → List (S67) → List Int → List Int → Int → List (S86) → List (S67) → List Int → List Int → Int → Int → List Int → List (List Int) → List Int → List (S67) → Int → Option (Bool)
 | 0, _, _, _, _, _, _, _, _, _, _, _, _, _, _, _, _, _, _, _, _, _ => none
 | k + 1, x7, x66, x67, x68, x248000, x248001, x248002, x248003, x248004, x249000, x249001, x249002, x249003, x249004, x250000, x250001, x250002, x250003, x250004, x250005, x250006 => if x68 < x67 then (if 0 ≤ x68 then (if x68 < (x66.length : Int) then (if x7 = true then (if (rd x66 x68) = 0 then (lift_fits.l0 k true x66 x67 (wrap64 (x68 + 1)) x248000 x248001 x248002 x248003 x248004 x249000 x249001 x249002 x249003 x249004 x250000 x250001 x250002 x250003 x250004 x250005 x250006) else (if (rd x66 x68) = 1 then (lift_fits.l0 k true x66 x67 (wrap64 (x68 + 1)) x248000 x248001 x248002 x248003 x248004 x249000 x249001 x249002 x249003 x249004 x250000 x250001 x250002 x250003 x250004 x250005 x250006) else ((lift_isLatch.f x249000 x249001 x249002 x249003 x249004 (rd x66 x68)).bind fun t251 => (lift_fits.l0 k t251 x66 x67 (wrap64 (x68 + 1)) x248000 x248001 x248002 x248003 x248004 x249000 x249001 x249002 x249003 x249004 x250000 x250001 x250002 x250003 x250004 x250005 x250006)))) else (lift_fits.l0 k false x66 x67 (wrap64 (x68 + 1)) x248000 x248001 x248002 x248003 x248004 x249000 x249001 x249002 x249003 x249004 x250000 x250001 x250002 x250003 x250004 x250005 x250006)) else (none)) else (none)) else (lift_fits.l1 k x7 x250003 (x250003.length : Int) 0 x248000 x248001 x248002 x248003 x248004 x249000 x249001 x249002 x249003 x249004 x250000 x250001 x250002 x250003 x250004 x250005 x250006)
def lift_fits.l1 : Nat → Bool → List (List Int) → Int → Int → Int → List (S86) → List (S67) → List Int → List Int → Int → List (S86) → List (S67) → List Int → List Int → Int → Int → List Int → List (List Int) → List Int → List (S67) → Int → Option (Bool)
 | 0, _, _, _, _, _, _, _, _, _, _, _, _, _, _, _, _, _, _, _, _, _ => none
 | k + 1, x7, x88, x89, x90, x248000, x248001, x248002, x248003, x248004, x249000, x249001, x249002, x249003, x249004, x250000, x250001, x250002, x250003, x250004, x250005, x250006 => if x90 < x89 then (if 0 ≤ x90 then (if x90 < (x88.length : Int) then (if x7 = true then (lift_fits.j4 k (((rd_L4 x88 x90).length : Int) == x248000) (rd_L4 x88 x90) x88 x89 x90 x248000 x248001 x248002 x248003 x248004 x249000 x249001 x249002 x249003 x249004 x250000 x250001 x250002 x250003 x250004 x250005 x250006) else (lift_fits.j4 k false (rd_L4 x88 x90) x88 x89 x90 x248000 x248001 x248002 x248003 x248004 x249000 x249001 x249002 x249003 x249004 x250000 x250001 x250002 x250003 x250004 x250005 x250006)) else (none)) else (none)) else (lift_fits.l3 k x7 x250004 (x250004.length : Int) 0 x248000 x248001 x248002 x248003 x248004 x250000 x250001 x250002 x250003 x250004 x250005 x250006)
def lift_fits.j4 : Nat → Bool → List Int → List (List Int) → Int → Int → Int → List (S86) → List (S67) → List Int → List Int → Int → List (S86) → List (S67) → List Int → List Int → Int → Int → List Int → List (List Int) → List Int → List (S67) → Int → Option (Bool)
 | 0, _, _, _, _, _, _, _, _, _, _, _, _, _, _, _, _, _, _, _, _, _, _ => none
 | k + 1, x7, x11, x88, x89, x90, x248000, x248001, x248002, x248003, x248004, x249000, x249001, x249002, x249003, x249004, x250000, x250001, x250002, x250003, x250004, x250005, x250006 => lift_fits.l2 k x7 x88 x89 x90 x11 (x11.length : Int) 0 x248000 x248001 x248002 x248003 x248004 x249000 x249001 x249002 x249003 x249004 x250000 x250001 x250002 x250003 x250004 x250005 x250006
def lift_fits.l2 : Nat → Bool → List (List Int) → Int → Int → List Int → Int → Int → Int → List (S86) → List (S67) → List Int → List Int → Int → List (S86) → List (S67) → List Int → List Int → Int → Int → List Int → List (List Int) → List Int → List (S67) → Int → Option (Bool)
 | 0, _, _, _, _, _, _, _, _, _, _, _, _, _, _, _, _, _, _, _, _, _, _, _, _ => none
 | k + 1, x7, x88, x89, x90, x102, x103, x104, x248000, x248001, x248002, x248003, x248004, x249000, x249001, x249002, x249003, x249004, x250000, x250001, x250002, x250003, x250004, x250005, x250006 => if x104 < x103 then (if 0 ≤ x104 then (if x104 < (x102.length : Int) then (if x7 = true then (if (rd x102 x104) ≥ 0 then (if (Int.tmod (rd x102 x104) 2) = 0 then (lift_fits.l2 k (decide ((rd x102 x104) ≤ (wrap64 (2 * x249000)))) x88 x89 x90 x102 x103 (wrap64 (x104 + 1)) x248000 x248001 x248002 x248003 x248004 x249000 x249001 x249002 x249003 x249004 x250000 x250001 x250002 x250003 x250004 x250005 x250006) else (lift_fits.l2 k false x88 x89 x90 x102 x103 (wrap64 (x104 + 1)) x248000 x248001 x248002 x248003 x248004 x249000 x249001 x249002 x249003 x249004 x250000 x250001 x250002 x250003 x250004 x250005 x250006)) else (lift_fits.l2 k false x88 x89 x90 x102 x103 (wrap64 (x104 + 1)) x248000 x248001 x248002 x248003 x248004 x249000 x249001 x249002 x249003 x249004 x250000 x250001 x250002 x250003 x250004 x250005 x250006)) else (lift_fits.l2 k false x88 x89 x90 x102 x103 (wrap64 (x104 + 1)) x248000 x248001 x248002 x248003 x248004 x249000 x249001 x249002 x249003 x249004 x250000 x250001 x250002 x250003 x250004 x250005 x250006)) else (none)) else (none)) else (lift_fits.l1 k x7 x88 x89 (wrap64 (x90 + 1)) x248000 x248001 x248002 x248003 x248004 x249000 x249001 x249002 x249003 x249004 x250000 x250001 x250002 x250003 x250004 x250005 x250006)
def lift_fits.l3 : Nat → Bool → List Int → Int → Int → Int → List (S86) → List (S67) → List Int → List Int → Int → Int → List Int → List (List Int) → List Int → List (S67) → Int → Option (Bool)
 | 0, _, _, _, _, _, _, _, _, _, _, _, _, _, _, _, _ => none
 | k + 1, x7, x128, x129, x130, x248000, x248001, x248002, x248003, x248004, x250000, x250001, x250002, x250003, x250004, x250005, x250006 => if x130 < x129 then (if 0 ≤ x130 then (if x130 < (x128.length : Int) then (if x7 = true then (if (rd x128 x130) = (-1) then (lift_fits.l3 k true x128 x129 (wrap64 (x130 + 1)) x248000 x248001 x248002 x248003 x248004 x250000 x250001 x250002 x250003 x250004 x250005 x250006) else ((lift_isLatch.f x248000 x248001 x248002 x248003 x248004 (rd x128 x130)).bind fun t255 => (lift_fits.l3 k t255 x128 x129 (wrap64 (x130 + 1)) x248000 x248001 x248002 x248003 x248004 x250000 x250001 x250002 x250003 x250004 x250005 x250006))) else (lift_fits.l3 k false x128 x129 (wrap64 (x130 + 1)) x248000 x248001 x248002 x248003 x248004 x250000 x250001 x250002 x250003 x250004 x250005 x250006)) else (none)) else (none)) else (if x7 = true then ((preds_Check.f k (x248001.length : Int) x250005 x250006).bind fun t256 => (some (t256 == 0))) else (some false))
end
def lift_fits.f (k : Nat) (a0_0 : Int) (l0_1 : List (S86)) (l0_2 : List (S67)) (l0_3 : List Int) (l0_4 : List Int) (a1_0 : Int) (l1_1 : List (S86)) (l1_2 : List (S67)) (l1_3 : List Int) (l1_4 : List Int) (a2_0 : Int) (a2_1 : Int) (l2_2 : List Int) (l2_3 : List (List Int)) (l2_4 : List Int) (l2_5 : List (S67)) (a2_6 : Int) : Option (Bool) := if a2_0 ≥ 0 then (if a2_0 ≤ 100 then (if a2_1 ≥ 1 then (lift_fits.j0 k (decide (a2_1 ≤ 4)) a0_0 l0_1 l0_2 l0_3 l0_4 a1_0 l1_1 l1_2 l1_3 l1_4 a2_0 a2_1 l2_2 l2_3 l2_4 l2_5 a2_6) else (lift_fits.j0 k false a0_0 l0_1 l0_2 l0_3 l0_4 a1_0 l1_1 l1_2 l1_3 l1_4 a2_0 a2_1 l2_2 l2_3 l2_4 l2_5 a2_6)) else (lift_fits.j0 k false a0_0 l0_1 l0_2 l0_3 l0_4 a1_0 l1_1 l1_2 l1_3 l1_4 a2_0 a2_1 l2_2 l2_3 l2_4 l2_5 a2_6)) else (lift_fits.j0 k false a0_0 l0_1 l0_2 l0_3 l0_4 a1_0 l1_1 l1_2 l1_3 l1_4 a2_0 a2_1 l2_2 l2_3 l2_4 l2_5 a2_6)
theorem lift_fits.mono_l : ∀ k, (∀ y0 y1 y2 y3 y4 y5 y6 y7 y8 y9 y10 y11 y12 y13 y14 y15 y16 y17, LeO (lift_fits.j0 k y0 y1 y2 y3 y4 y5 y6 y7 y8 y9 y10 y11 y12 y13 y14 y15 y16 y17) (lift_fits.j0 (k + 1) y0 y1 y2 y3 y4 y5 y6 y7 y8 y9 y10 y11 y12 y13 y14 y15 y16 y17)) ∧ (∀ y0 y1 y2 y3 y4 y5 y6 y7 y8 y9 y10 y11 y12 y13 y14 y15 y16 y17 y18, LeO (lift_fits.j1 k y0 y1 y2 y3 y4 y5 y6 y7 y8 y9 y10 y11 y12 y13 y14 y15 y16 y17 y18) (lift_fits.j1 (k + 1) y0 y1 y2 y3 y4 y5 y6 y7 y8 y9 y10 y11 y12 y13 y14 y15 y16 y17 y18)) ∧ (∀ y0 y1 y2 y3 y4 y5 y6 y7 y8 y9 y10 y11 y12 y13 y14 y15 y16 y17 y18 y19 y20, LeO (lift_fits.l0 k y0 y1 y2 y3 y4 y5 y6 y7 y8 y9 y10 y11 y12 y13 y14 y15 y16 y17 y18 y19 y20) (lift_fits.l0 (k + 1) y0 y1 y2 y3 y4 y5 y6 y7 y8 y9 y10 y11 y12 y13 y14 y15 y16 y17 y18 y19 y20)) ∧ (∀ y0 y1 y2 y3 y4 y5 y6 y7 y8 y9 y10 y11 y12 y13 y14 y15 y16 y17 y18 y19 y20, LeO (lift_fits.l1 k y0 y1 y2 y3 y4 y5 y6 y7 y8 y9 y10 y11 y12 y13 y14 y15 y16 y17 y18 y19 y20) (lift_fits.l1 (k + 1) y0 y1 y2 y3 y4 y5 y6 y7 y8 y9 y10 y11 y12 y13 y14 y15 y16 y17 y18 y19 y20)) ∧ (∀ y0 y1 y2 y3 y4 y5 y6 y7 y8 y9 y10 y11 y12 y13 y14 y15 y16 y17 y18 y19 y20 y21, LeO (lift_fits.j4 k y0 y1 y2 y3 y4 y5 y6 y7 y8 y9 y10 y11 y12 y13 y14 y15 y16 y17 y18 y19 y20 y21) (lift_fits.j4 (k + 1) y0 y1 y2 y3 y4 y5 y6 y7 y8 y9 y10 y11 y12 y13 y14 y15 y16 y17 y18 y19 y20 y21)) ∧ (∀ y0 y1 y2 y3 y4 y5 y6 y7 y8 y9 y10 y11 y12 y13 y14 y15 y16 y17 y18 y19 y20 y21 y22 y23, LeO (lift_fits.l2 k y0 y1 y2 y3 y4 y5 y6 y7 y8 y9 y10 y11 y12 y13 y14 y15 y16 y17 y18 y19 y20 y21 y22 y23) (lift_fits.l2 (k + 1) y0 y1 y2 y3 y4 y5 y6 y7 y8 y9 y10 y11 y12 y13 y14 y15 y16 y17 y18 y19 y20 y21 y22 y23)) ∧ (∀ y0 y1 y2 y3 y4 y5 y6 y7 y8 y9 y10 y11 y12 y13 y14 y15, LeO (lift_fits.l3 k y0 y1 y2 y3 y4 y5 y6 y7 y8 y9 y10 y11 y12 y13 y14 y15) (lift_fits.l3 (k + 1) y0 y1 y2 y3 y4 y5 y6 y7 y8 y9 y10 y11 y12 y13 y14 y15))
 | 0 => ⟨fun _ _ _ _ _ _ _ _ _ _ _ _ _ _ _ _ _ _ r h => by simp [lift_fits.j0] at h, fun _ _ _ _ _ _ _ _ _ _ _ _ _ _ _ _ _ _ _ r h => by simp [lift_fits.j1] at h, fun _ _ _ _ _ _ _ _ _ _ _ _ _ _ _ _ _ _ _ _ _ r h => by simp [lift_fits.l0] at h, fun _ _ _ _ _ _ _ _ _ _ _ _ _ _ _ _ _ _ _ _ _ r h => by simp [lift_fits.l1] at h, fun _ _ _ _ _ _ _ _ _ _ _ _ _ _ _ _ _ _ _ _ _ _ r h => by simp [lift_fits.j4] at h, fun _ _ _ _ _ _ _ _ _ _ _ _ _ _ _ _ _ _ _ _ _ _ _ _ r h => by simp [lift_fits.l2] at h, fun _ _ _ _ _ _ _ _ _ _ _ _ _ _ _ _ r h => by simp [lift_fits.l3] at h⟩
 | k + 1 => by
  obtain ⟨ih0, ih1, ih2, ih3, ih4, ih5, ih6⟩ := lift_fits.mono_l k
  refine ⟨?_, ?_, ?_, ?_, ?_, ?_, ?_⟩
  ·intro y0 y1 y2 y3 y4 y5 y6 y7 y8 y9 y10 y11 y12 y13 y14 y15 y16 y17
   unfold lift_fits.j0
   repeat' first
   | (with_reducible exact ih0 _ _ _ _ _ _ _ _ _ _ _ _ _ _ _ _ _ _)
   | (with_reducible exact ih1 _ _ _ _ _ _ _ _ _ _ _ _ _ _ _ _ _ _ _)
   | (with_reducible exact ih2 _ _ _ _ _ _ _ _ _ _ _ _ _ _ _ _ _ _ _ _ _)
   | (with_reducible exact ih3 _ _ _ _ _ _ _ _ _ _ _ _ _ _ _ _ _ _ _ _ _)
   | (with_reducible exact ih4 _ _ _ _ _ _ _ _ _ _ _ _ _ _ _ _ _ _ _ _ _ _)
   | (with_reducible exact ih5 _ _ _ _ _ _ _ _ _ _ _ _ _ _ _ _ _ _ _ _ _ _ _ _)
   | (with_reducible exact ih6 _ _ _ _ _ _ _ _ _ _ _ _ _ _ _ _)
   | (with_reducible exact preds_Check.mono _ _ _ _)
   | (with_reducible exact LeO.refl _)
   | (with_reducible exact LeO.none _)
   | (with_reducible refine LeO.ite ?_ ?_)
   | (with_reducible refine LeO.bind ?_ (fun _ => ?_))
   | exact ih0 _ _ _ _ _ _ _ _ _ _ _ _ _ _ _ _ _ _
   | exact ih1 _ _ _ _ _ _ _ _ _ _ _ _ _ _ _ _ _ _ _
   | exact ih2 _ _ _ _ _ _ _ _ _ _ _ _ _ _ _ _ _ _ _ _ _
   | exact ih3 _ _ _ _ _ _ _ _ _ _ _ _ _ _ _ _ _ _ _ _ _
   | exact ih4 _ _ _ _ _ _ _ _ _ _ _ _ _ _ _ _ _ _ _ _ _ _
   | exact ih5 _ _ _ _ _ _ _ _ _ _ _ _ _ _ _ _ _ _ _ _ _ _ _ _
   | exact ih6 _ _ _ _ _ _ _ _ _ _ _ _ _ _ _ _
   | exact preds_Check.mono _ _ _ _
   | exact LeO.none _
   | refine LeO.ite ?_ ?_
   | refine LeO.bind ?_ (fun _ => ?_)
  ·intro y0 y1 y2 y3 y4 y5 y6 y7 y8 y9 y10 y11 y12 y13 y14 y15 y16 y17 y18
   unfold lift_fits.j1
   repeat' first
   | (with_reducible exact ih0 _ _ _ _ _ _ _ _ _ _ _ _ _ _ _ _ _ _)
   | (with_reducible exact ih1 _ _ _ _ _ _ _ _ _ _ _ _ _ _ _ _ _ _ _)
   | (with_reducible exact ih2 _ _ _ _ _ _ _ _ _ _ _ _ _ _ _ _ _ _ _ _ _)
   | (with_reducible exact ih3 _ _ _ _ _ _ _ _ _ _ _ _ _ _ _ _ _ _ _ _ _)
   | (with_reducible exact ih4 _ _ _ _ _ _ _ _ _ _ _ _ _ _ _ _ _ _ _ _ _ _)
   | (with_reducible exact ih5 _ _ _ _ _ _ _ _ _ _ _ _ _ _ _ _ _ _ _ _ _ _ _ _)
   | (with_reducible exact ih6 _ _ _ _ _ _ _ _ _ _ _ _ _ _ _ _)
   | (with_reducible exact preds_Check.mono _ _ _ _)
   | (with_reducible exact LeO.refl _)
   | (with_reducible exact LeO.none _)
   | (with_reducible refine LeO.ite ?_ ?_)
   | (with_reducible refine LeO.bind ?_ (fun _ => ?_))
   | exact ih0 _ _ _ _ _ _ _ _ _ _ _ _ _ _ _ _ _ _
   | exact ih1 _ _ _ _ _ _ _ _ _ _ _ _ _ _ _ _ _ _ _
   | exact ih2 _ _ _ _ _ _ _ _ _ _ _ _ _ _ _ _ _ _ _ _ _
   | exact ih3 _ _ _ _ _ _ _ _ _ _ _ _ _ _ _ _ _ _ _ _ _
   | exact ih4 _ _ _ _ _ _ _ _ _ _ _ _ _ _ _ _ _ _ _ _ _ _
   | exact ih5 _ _ _ _ _ _ _ _ _ _ _ _ _ _ _ _ _ _ _ _ _ _ _ _
   | exact ih6 _ _ _ _ _ _ _ _ _ _ _ _ _ _ _ _
   | exact preds_Check.mono _ _ _ _
   | exact LeO.none _
   | refine LeO.ite ?_ ?_
   | refine LeO.bind ?_ (fun _ => ?_)
  ·intro y0 y1 y2 y3 y4 y5 y6 y7 y8 y9 y10 y11 y12 y13 y14 y15 y16 y17 y18 y19 y20
   unfold lift_fits.l0
   repeat' first
   | (with_reducible exact ih0 _ _ _ _ _ _ _ _ _ _ _ _ _ _ _ _ _ _)
   | (with_reducible exact ih1 _ _ _ _ _ _ _ _ _ _ _ _ _ _ _ _ _ _ _)
   | (with_reducible exact ih2 _ _ _ _ _ _ _ _ _ _ _ _ _ _ _ _ _ _ _ _ _)
   | (with_reducible exact ih3 _ _ _ _ _ _ _ _ _ _ _ _ _ _ _ _ _ _ _ _ _)
   | (with_reducible exact ih4 _ _ _ _ _ _ _ _ _ _ _ _ _ _ _ _ _ _ _ _ _ _)
   | (with_reducible exact ih5 _ _ _ _ _ _ _ _ _ _ _ _ _ _ _ _ _ _ _ _ _ _ _ _)
   | (with_reducible exact ih6 _ _ _ _ _ _ _ _ _ _ _ _ _ _ _ _)
   | (with_reducible exact preds_Check.mono _ _ _ _)
   | (with_reducible exact LeO.refl _)
   | (with_reducible exact LeO.none _)
   | (with_reducible refine LeO.ite ?_ ?_)
   | (with_reducible refine LeO.bind ?_ (fun _ => ?_))
   | exact ih0 _ _ _ _ _ _ _ _ _ _ _ _ _ _ _ _ _ _
   | exact ih1 _ _ _ _ _ _ _ _ _ _ _ _ _ _ _ _ _ _ _
   | exact ih2 _ _ _ _ _ _ _ _ _ _ _ _ _ _ _ _ _ _ _ _ _
   | exact ih3 _ _ _ _ _ _ _ _ _ _ _ _ _ _ _ _ _ _ _ _ _
   | exact ih4 _ _ _ _ _ _ _ _ _ _ _ _ _ _ _ _ _ _ _ _ _ _
   | exact ih5 _ _ _ _ _ _ _ _ _ _ _ _ _ _ _ _ _ _ _ _ _ _ _ _
   | exact ih6 _ _ _ _ _ _ _ _ _ _ _ _ _ _ _ _
   | exact preds_Check.mono _ _ _ _
   | exact LeO.none _
   | refine LeO.ite ?_ ?_
   | refine LeO.bind ?_ (fun _ => ?_)
  ·intro y0 y1 y2 y3 y4 y5 y6 y7 y8 y9 y10 y11 y12 y13 y14 y15 y16 y17 y18 y19 y20
   unfold lift_fits.l1
   repeat' first
   | (with_reducible exact ih0 _ _ _ _ _ _ _ _ _ _ _ _ _ _ _ _ _ _)
   | (with_reducible exact ih1 _ _ _ _ _ _ _ _ _ _ _ _ _ _ _ _ _ _ _)
   | (with_reducible exact ih2 _ _ _ _ _ _ _ _ _ _ _ _ _ _ _ _ _ _ _ _ _)
   | (with_reducible exact ih3 _ _ _ _ _ _ _ _ _ _ _ _ _ _ _ _ _ _ _ _ _)
   | (with_reducible exact ih4 _ _ _ _ _ _ _ _ _ _ _ _ _ _ _ _ _ _ _ _ _ _)
   | (with_reducible exact ih5 _ _ _ _ _ _ _ _ _ _ _ _ _ _ _ _ _ _ _ _ _ _ _ _)
   | (with_reducible exact ih6 _ _ _ _ _ _ _ _ _ _ _ _ _ _ _ _)
   | (with_reducible exact preds_Check.mono _ _ _ _)
   | (with_reducible exact LeO.refl _)
   | (with_reducible exact LeO.none _)
   | (with_reducible refine LeO.ite ?_ ?_)
   | (with_reducible refine LeO.bind ?_ (fun _ => ?_))
   | exact ih0 _ _ _ _ _ _ _ _ _ _ _ _ _ _ _ _ _ _
   | exact ih1 _ _ _ _ _ _ _ _ _ _ _ _ _ _ _ _ _ _ _
   | exact ih2 _ _ _ _ _ _ _ _ _ _ _ _ _ _ _ _ _ _ _ _ _
   | exact ih3 _ _ _ _ _ _ _ _ _ _ _ _ _ _ _ _ _ _ _ _ _
   | exact ih4 _ _ _ _ _ _ _ _ _ _ _ _ _ _ _ _ _ _ _ _ _ _
   | exact ih5 _ _ _ _ _ _ _ _ _ _ _ _ _ _ _ _ _ _ _ _ _ _ _ _
   | exact ih6 _ _ _ _ _ _ _ _ _ _ _ _ _ _ _ _
   | exact preds_Check.mono _ _ _ _
   | exact LeO.none _
   | refine LeO.ite ?_ ?_
   | refine LeO.bind ?_ (fun _ => ?_)
  ·intro y0 y1 y2 y3 y4 y5 y6 y7 y8 y9 y10 y11 y12 y13 y14 y15 y16 y17 y18 y19 y20 y21
   unfold lift_fits.j4
   repeat' first
   | (with_reducible exact ih0 _ _ _ _ _ _ _ _ _ _ _ _ _ _ _ _ _ _)
   | (with_reducible exact ih1 _ _ _ _ _ _ _ _ _ _ _ _ _ _ _ _ _ _ _)
   | (with_reducible exact ih2 _ _ _ _ _ _ _ _ _ _ _ _ _ _ _ _ _ _ _ _ _)
   | (with_reducible exact ih3 _ _ _ _ _ _ _ _ _ _ _ _ _ _ _ _ _ _ _ _ _)
   | (with_reducible exact ih4 _ _ _ _ _ _ _ _ _ _ _ _ _ _ _ _ _ _ _ _ _ _)
   | (with_reducible exact ih5 _ _ _ _ _ _ _ _ _ _ _ _ _ _ _ _ _ _ _ _ _ _ _ _)
   | (with_reducible exact ih6 _ _ _ _ _ _ _ _ _ _ _ _ _ _ _ _)
   | (with_reducible exact preds_Check.mono _ _ _ _)
   | (with_reducible exact LeO.refl _)
   | (with_reducible exact LeO.none _)
   | (with_reducible refine LeO.ite ?_ ?_)
   | (with_reducible refine LeO.bind ?_ (fun _ => ?_))
   | exact ih0 _ _ _ _ _ _ _ _ _ _ _ _ _ _ _ _ _ _
   | exact ih1 _ _ _ _ _ _ _ _ _ _ _ _ _ _ _ _ _ _ _
   | exact ih2 _ _ _ _ _ _ _ _ _ _ _ _ _ _ _ _ _ _ _ _ _
   | exact ih3 _ _ _ _ _ _ _ _ _ _ _ _ _ _ _ _ _ _ _ _ _
   | exact ih4 _ _ _ _ _ _ _ _ _ _ _ _ _ _ _ _ _ _ _ _ _ _
   | exact ih5 _ _ _ _ _ _ _ _ _ _ _ _ _ _ _ _ _ _ _ _ _ _ _ _
   | exact ih6 _ _ _ _ _ _ _ _ _ _ _ _ _ _ _ _
   | exact preds_Check.mono _ _ _ _
   | exact LeO.none _
   | refine LeO.ite ?_ ?_
   | refine LeO.bind ?_ (fun _ => ?_)
  ·intro y0 y1 y2 y3 y4 y5 y6 y7 y8 y9 y10 y11 y12 y13 y14 y15 y16 y17 y18 y19 y20 y21 y22 y23
   unfold lift_fits.l2
   repeat' first
   | (with_reducible exact ih0 _ _ _ _ _ _ _ _ _ _ _ _ _ _ _ _ _ _)
   | (with_reducible exact ih1 _ _ _ _ _ _ _ _ _ _ _ _ _ _ _ _ _ _ _)
   | (with_reducible exact ih2 _ _ _ _ _ _ _ _ _ _ _ _ _ _ _ _ _ _ _ _ _)
   | (with_reducible exact ih3 _ _ _ _ _ _ _ _ _ _ _ _ _ _ _ _ _ _ _ _ _)
   | (with_reducible exact ih4 _ _ _ _ _ _ _ _ _ _ _ _ _ _ _ _ _ _ _ _ _ _)
   | (with_reducible exact ih5 _ _ _ _ _ _ _ _ _ _ _ _ _ _ _ _ _ _ _ _ _ _ _ _)
   | (with_reducible exact ih6 _ _ _ _ _ _ _ _ _ _ _ _ _ _ _ _)
   | (with_reducible exact preds_Check.mono _ _ _ _)
   | (with_reducible exact LeO.refl _)
   | (with_reducible exact LeO.none _)
   | (with_reducible refine LeO.ite ?_ ?_)
   | (with_reducible refine LeO.bind ?_ (fun _ => ?_))
   | exact ih0 _ _ _ _ _ _ _ _ _ _ _ _ _ _ _ _ _ _
   | exact ih1 _ _ _ _ _ _ _ _ _ _ _ _ _ _ _ _ _ _ _
   | exact ih2 _ _ _ _ _ _ _ _ _ _ _ _ _ _ _ _ _ _ _ _ _
   | exact ih3 _ _ _ _ _ _ _ _ _ _ _ _ _ _ _ _ _ _ _ _ _
   | exact ih4 _ _ _ _ _ _ _ _ _ _ _ _ _ _ _ _ _ _ _ _ _ _
   | exact ih5 _ _ _ _ _ _ _ _ _ _ _ _ _ _ _ _ _ _ _ _ _ _ _ _
   | exact ih6 _ _ _ _ _ _ _ _ _ _ _ _ _ _ _ _
   | exact preds_Check.mono _ _ _ _
   | exact LeO.none _
   | refine LeO.ite ?_ ?_
   | refine LeO.bind ?_ (fun _ => ?_)
  ·intro y0 y1 y2 y3 y4 y5 y6 y7 y8 y9 y10 y11 y12 y13 y14 y15
   unfold lift_fits.l3
   repeat' first
   | (with_reducible exact ih0 _ _ _ _ _ _ _ _ _ _ _ _ _ _ _ _ _ _)
   | (with_reducible exact ih1 _ _ _ _ _ _ _ _ _ _ _ _ _ _ _ _ _ _ _)
   | (with_reducible exact ih2 _ _ _ _ _ _ _ _ _ _ _ _ _ _ _ _ _ _ _ _ _)
   | (with_reducible exact ih3 _ _ _ _ _ _ _ _ _ _ _ _ _ _ _ _ _ _ _ _ _)
   | (with_reducible exact ih4 _ _ _ _ _ _ _ _ _ _ _ _ _ _ _ _ _ _ _ _ _ _)
   | (with_reducible exact ih5 _ _ _ _ _ _ _ _ _ _ _ _ _ _ _ _ _ _ _ _ _ _ _ _)
   | (with_reducible exact ih6 _ _ _ _ _ _ _ _ _ _ _ _ _ _ _ _)
   | (with_reducible exact preds_Check.mono _ _ _ _)
   | (with_reducible exact LeO.refl _)
   | (with_reducible exact LeO.none _)
   | (with_reducible refine LeO.ite ?_ ?_)
   | (with_reducible refine LeO.bind ?_ (fun _ => ?_))
   | exact ih0 _ _ _ _ _ _ _ _ _ _ _ _ _ _ _ _ _ _
   | exact ih1 _ _ _ _ _ _ _ _ _ _ _ _ _ _ _ _ _ _ _
   | exact ih2 _ _ _ _ _ _ _ _ _ _ _ _ _ _ _ _ _ _ _ _ _
   | exact ih3 _ _ _ _ _ _ _ _ _ _ _ _ _ _ _ _ _ _ _ _ _
   | exact ih4 _ _ _ _ _ _ _ _ _ _ _ _ _ _ _ _ _ _ _ _ _ _
   | exact ih5 _ _ _ _ _ _ _ _ _ _ _ _ _ _ _ _ _ _ _ _ _ _ _ _
   | exact ih6 _ _ _ _ _ _ _ _ _ _ _ _ _ _ _ _
   | exact preds_Check.mono _ _ _ _
   | exact LeO.none _
   | refine LeO.ite ?_ ?_
   | refine LeO.bind ?_ (fun _ => ?_)
theorem lift_fits.mono : ∀ a0 a1 a2 a3 a4 a5 a6 a7 a8 a9 a10 a11 a12 a13 a14 a15 a16 k, LeO (lift_fits.f k a0 a1 a2 a3 a4 a5 a6 a7 a8 a9 a10 a11 a12 a13 a14 a15 a16) (lift_fits.f (k + 1) a0 a1 a2 a3 a4 a5 a6 a7 a8 a9 a10 a11 a12 a13 a14 a15 a16) := by
 intro a0 a1 a2 a3 a4 a5 a6 a7 a8 a9 a10 a11 a12 a13 a14 a15 a16 k
 obtain ⟨ih0, ih1, ih2, ih3, ih4, ih5, ih6⟩ := lift_fits.mono_l k
 unfold lift_fits.f
 repeat' first
   | (with_reducible exact ih0 _ _ _ _ _ _ _ _ _ _ _ _ _ _ _ _ _ _)
   | (with_reducible exact ih1 _ _ _ _ _ _ _ _ _ _ _ _ _ _ _ _ _ _ _)
   | (with_reducible exact ih2 _ _ _ _ _ _ _ _ _ _ _ _ _ _ _ _ _ _ _ _ _)
   | (with_reducible exact ih3 _ _ _ _ _ _ _ _ _ _ _ _ _ _ _ _ _ _ _ _ _)
   | (with_reducible exact ih4 _ _ _ _ _ _ _ _ _ _ _ _ _ _ _ _ _ _ _ _ _ _)
   | (with_reducible exact ih5 _ _ _ _ _ _ _ _ _ _ _ _ _ _ _ _ _ _ _ _ _ _ _ _)
   | (with_reducible exact ih6 _ _ _ _ _ _ _ _ _ _ _ _ _ _ _ _)
   | (with_reducible exact preds_Check.mono _ _ _ _)
   | (with_reducible exact LeO.refl _)
   | (with_reducible exact LeO.none _)
   | (with_reducible refine LeO.ite ?_ ?_)
   | (with_reducible refine LeO.bind ?_ (fun _ => ?_))
   | exact ih0 _ _ _ _ _ _ _ _ _ _ _ _ _ _ _ _ _ _
   | exact ih1 _ _ _ _ _ _ _ _ _ _ _ _ _ _ _ _ _ _ _
   | exact ih2 _ _ _ _ _ _ _ _ _ _ _ _ _ _ _ _ _ _ _ _ _
   | exact ih3 _ _ _ _ _ _ _ _ _ _ _ _ _ _ _ _ _ _ _ _ _
   | exact ih4 _ _ _ _ _ _ _ _ _ _ _ _ _ _ _ _ _ _ _ _ _ _
   | exact ih5 _ _ _ _ _ _ _ _ _ _ _ _ _ _ _ _ _ _ _ _ _ _ _ _
   | exact ih6 _ _ _ _ _ _ _ _ _ _ _ _ _ _ _ _
   | exact preds_Check.mono _ _ _ _
   | exact LeO.none _
   | refine LeO.ite ?_ ?_
   | refine LeO.bind ?_ (fun _ => ?_)
set_option maxHeartbeats 8000000 in
set_option maxRecDepth 100000 in
theorem lift_fits.calls (k : Nat) (a0_0 : Int) (A0_1 : Option Addr) (c0_1 : Nat) (l0_1 : List (S86)) (A0_2 : Option Addr) (c0_2 : Nat) (l0_2 : List (S67)) (A0_3 : Option Addr) (c0_3 : Nat) (l0_3 : List Int) (A0_4 : Option Addr) (c0_4 : Nat) (l0_4 : List Int) (a1_0 : Int) (A1_1 : Option Addr) (c1_1 : Nat) (l1_1 : List (S86)) (A1_2 : Option Addr) (c1_2 : Nat) (l1_2 : List (S67)) (A1_3 : Option Addr) (c1_3 : Nat) (l1_3 : List Int) (A1_4 : Option Addr) (c1_4 : Nat) (l1_4 : List Int) (a2_0 : Int) (a2_1 : Int) (A2_2 : Option Addr) (c2_2 : Nat) (l2_2 : List Int) (A2_3 : Option Addr) (c2_3 : Nat) (l2_3 : List (List Int)) (A2_4 : Option Addr) (c2_4 : Nat) (l2_4 : List Int) (A2_5 : Option Addr) (c2_5 : Nat) (l2_5 : List (S67)) (a2_6 : Int) (r : Bool) (w : World) (hr0_1 : Kd.C k86 w A0_1 l0_1.length l0_1) (hc0_1 : l0_1.length ≤ c0_1) (hr0_2 : Kd.C k67 w A0_2 l0_2.length l0_2) (hc0_2 : l0_2.length ≤ c0_2) (hr0_3 : Kd.C (Kd.int .i64) w A0_3 l0_3.length l0_3) (hc0_3 : l0_3.length ≤ c0_3) (hr0_4 : Kd.C (Kd.int .i64) w A0_4 l0_4.length l0_4) (hc0_4 : l0_4.length ≤ c0_4) (hr1_1 : Kd.C k86 w A1_1 l1_1.length l1_1) (hc1_1 : l1_1.length ≤ c1_1) (hr1_2 : Kd.C k67 w A1_2 l1_2.length l1_2) (hc1_2 : l1_2.length ≤ c1_2) (hr1_3 : Kd.C (Kd.int .i64) w A1_3 l1_3.length l1_3) (hc1_3 : l1_3.length ≤ c1_3) (hr1_4 : Kd.C (Kd.int .i64) w A1_4 l1_4.length l1_4) (hc1_4 : l1_4.length ≤ c1_4) (hr2_2 : Kd.C (Kd.int .i64) w A2_2 l2_2.length l2_2) (hc2_2 : l2_2.length ≤ c2_2) (hr2_3 : Kd.C (Kd.slice 3 (Kd.int .i64)) w A2_3 l2_3.length l2_3) (hc2_3 : l2_3.length ≤ c2_3) (hr2_4 : Kd.C (Kd.int .i64) w A2_4 l2_4.length l2_4) (hc2_4 : l2_4.length ≤ c2_4) (hr2_5 : Kd.C k67 w A2_5 l2_5.length l2_5) (hc2_5 : l2_5.length ≤ c2_5) (h : lift_fits.f k a0_0 l0_1 l0_2 l0_3 l0_4 a1_0 l1_1 l1_2 l1_3 l1_4 a2_0 a2_1 l2_2 l2_3 l2_4 l2_5 a2_6 = some r) :
  Calls Try.prog 56 #[.agg #[.int .i64 a0_0, .slice A0_1 l0_1.length c0_1, .slice A0_2 l0_2.length c0_2, .slice A0_3 l0_3.length c0_3, .slice A0_4 l0_4.length c0_4], .agg #[.int .i64 a1_0, .slice A1_1 l1_1.length c1_1, .slice A1_2 l1_2.length c1_2, .slice A1_3 l1_3.length c1_3, .slice A1_4 l1_4.length c1_4], .agg #[.int .i64 a2_0, .int .i64 a2_1, .slice A2_2 l2_2.length c2_2, .slice A2_3 l2_3.length c2_3, .slice A2_4 l2_4.length c2_4, .slice A2_5 l2_5.length c2_5, .int .i64 a2_6]] w fun e w' => e = .returned (.bool r) ∧ Below w.heap.size w w' := by
 have hu26 := Try.underlying26
 have hu53 := Try.underlying53
 have hu51 := Try.underlying51
 have HR0_1 := M_ hr0_1
 have HC0_1 := M_ hc0_1
 clear hr0_1 hc0_1
 have HR0_2 := M_ hr0_2
 have HC0_2 := M_ hc0_2
 clear hr0_2 hc0_2
 have HR0_3 := M_ hr0_3
 have HC0_3 := M_ hc0_3
 clear hr0_3 hc0_3
 have HR0_4 := M_ hr0_4
 have HC0_4 := M_ hc0_4
 clear hr0_4 hc0_4
 have HR1_1 := M_ hr1_1
 have HC1_1 := M_ hc1_1
 clear hr1_1 hc1_1
 have HR1_2 := M_ hr1_2
 have HC1_2 := M_ hc1_2
 clear hr1_2 hc1_2
 have HR1_3 := M_ hr1_3
 have HC1_3 := M_ hc1_3
 clear hr1_3 hc1_3
 have HR1_4 := M_ hr1_4
 have HC1_4 := M_ hc1_4
 clear hr1_4 hc1_4
 have HR2_2 := M_ hr2_2
 have HC2_2 := M_ hc2_2
 clear hr2_2 hc2_2
 have HR2_3 := M_ hr2_3
 have HC2_3 := M_ hc2_3
 clear hr2_3 hc2_3
 have HR2_4 := M_ hr2_4
 have HC2_4 := M_ hc2_4
 clear hr2_4 hc2_4
 have HR2_5 := M_ hr2_5
 have HC2_5 := M_ hc2_5
 clear hr2_5 hc2_5
 have HB := M_ (Below.refl w.heap.size w)
 have H : (if a2_0 ≥ 0 then (if a2_0 ≤ 100 then (if a2_1 ≥ 1 then (lift_fits.j0 k (decide (a2_1 ≤ 4)) a0_0 l0_1 l0_2 l0_3 l0_4 a1_0 l1_1 l1_2 l1_3 l1_4 a2_0 a2_1 l2_2 l2_3 l2_4 l2_5 a2_6) else (lift_fits.j0 k false a0_0 l0_1 l0_2 l0_3 l0_4 a1_0 l1_1 l1_2 l1_3 l1_4 a2_0 a2_1 l2_2 l2_3 l2_4 l2_5 a2_6)) else (lift_fits.j0 k false a0_0 l0_1 l0_2 l0_3 l0_4 a1_0 l1_1 l1_2 l1_3 l1_4 a2_0 a2_1 l2_2 l2_3 l2_4 l2_5 a2_6)) else (lift_fits.j0 k false a0_0 l0_1 l0_2 l0_3 l0_4 a1_0 l1_1 l1_2 l1_3 l1_4 a2_0 a2_1 l2_2 l2_3 l2_4 l2_5 a2_6)) = some r := h
 clear h
 have HC4 := M_ H
 clear H
 go_enter Try.func56, Try.ntmps56
 go_upto_region 1 with (first | ((with_reducible refine gate_dst (N := 3) rfl ?_); (try (refine gate_guard (by rfl) ?_; dsimp only)); refine box_event ?hg (N := 3) ?hd (cs := #[.int .i64 a0_0, .slice A0_1 l0_1.length c0_1, .slice A0_2 l0_2.length c0_2, .slice A0_3 l0_3.length c0_3, .slice A0_4 l0_4.length c0_4]) (t := 26) ?hr ?_; (case hd => rfl); (case hg => rfl); (case hr => first | (go_simp; done) | (go_simp; rfl)); intro gb247 hg w5 hbox hb; have n0_ := M_ (below_step (by repeat (first | (with_reducible first | exact HB.out | apply b0_ | apply b1_ | apply b2_) | exact HB.out)) hb); have n1_ := M_ (hbox); have n2_ := M_ ((by rw [hg]; exact (below_size (by repeat (first | (with_reducible first | exact HB.out | apply b0_ | apply b1_ | apply b2_) | exact HB.out))) : w.heap.size ≤ gb247)); have n3_ := M_ ((by rw [hg]; exact (below_size (by repeat (first | (with_reducible first | exact HB.out | apply b0_ | apply b1_ | apply b2_) | exact HB.out))) : w.heap.size ≤ gb247)); clear HB; have HB := n0_; have BK247 := n1_; have GW247 := n2_; have GE247 := n3_; clear n0_ n1_ n2_ n3_; clear hb hbox hg) | ((with_reducible refine gate_dst (N := 4) rfl ?_); (try (refine gate_guard (by rfl) ?_; dsimp only)); refine box_event ?hg (N := 4) ?hd (cs := #[.int .i64 a1_0, .slice A1_1 l1_1.length c1_1, .slice A1_2 l1_2.length c1_2, .slice A1_3 l1_3.length c1_3, .slice A1_4 l1_4.length c1_4]) (t := 26) ?hr ?_; (case hd => rfl); (case hg => rfl); (case hr => first | (go_simp; done) | (go_simp; rfl)); intro gb248 hg w6 hbox hb; have n0_ := M_ (blk_below (g := gb247) (o := .cells #[.int .i64 a0_0, .slice A0_1 l0_1.length c0_1, .slice A0_2 l0_2.length c0_2, .slice A0_3 l0_3.length c0_3, .slice A0_4 l0_4.length c0_4] 26 (0, 0)) (by (with_reducible repeat (first | refine k0_ ?_ _ | refine k1_ ?_ | refine k2_ ?_ _)); exact BK247.out) hb); have n1_ := M_ (below_step (by repeat (first | (with_reducible first | exact HB.out | apply b0_ | apply b1_ | apply b2_ | refine below_set ?_ GE247.out) | exact HB.out)) hb); have n2_ := M_ (hbox); have n3_ := M_ ((by rw [hg]; exact (below_size (by repeat (first | (with_reducible first | exact HB.out | apply b0_ | apply b1_ | apply b2_ | refine below_set ?_ GE247.out) | exact HB.out))) : w.heap.size ≤ gb248)); have n4_ := M_ ((by rw [hg]; exact (below_size (by repeat (first | (with_reducible first | exact HB.out | apply b0_ | apply b1_ | apply b2_ | refine below_set ?_ GE247.out) | exact HB.out))) : w.heap.size ≤ gb248)); have n5_ := M_ ((by rw [hg]; exact Nat.ne_of_lt (blk_lt (g := gb247) (o := .cells #[.int .i64 a0_0, .slice A0_1 l0_1.length c0_1, .slice A0_2 l0_2.length c0_2, .slice A0_3 l0_3.length c0_3, .slice A0_4 l0_4.length c0_4] 26 (0, 0)) (by (with_reducible repeat (first | refine k0_ ?_ _ | refine k1_ ?_ | refine k2_ ?_ _)); exact BK247.out)) : gb247 ≠ gb248)); have n6_ := M_ ((by rw [hg]; exact Nat.ne_of_gt (blk_lt (g := gb247) (o := .cells #[.int .i64 a0_0, .slice A0_1 l0_1.length c0_1, .slice A0_2 l0_2.length c0_2, .slice A0_3 l0_3.length c0_3, .slice A0_4 l0_4.length c0_4] 26 (0, 0)) (by (with_reducible repeat (first | refine k0_ ?_ _ | refine k1_ ?_ | refine k2_ ?_ _)); exact BK247.out)) : gb248 ≠ gb247)); clear BK247; clear HB; have BK247 := n0_; have HB := n1_; have BK248 := n2_; have GW248 := n3_; have GE248 := n4_; have NB247_248 := n5_; have NB248_247 := n6_; clear n0_ n1_ n2_ n3_ n4_ n5_ n6_; clear hb hbox hg) | ((with_reducible refine gate_dst (N := 5) rfl ?_); (try (refine gate_guard (by rfl) ?_; dsimp only)); refine box_event ?hg (N := 5) ?hd (cs := #[.int .i64 a2_0, .int .i64 a2_1, .slice A2_2 l2_2.length c2_2, .slice A2_3 l2_3.length c2_3, .slice A2_4 l2_4.length c2_4, .slice A2_5 l2_5.length c2_5, .int .i64 a2_6]) (t := 53) ?hr ?_; (case hd => rfl); (case hg => rfl); (case hr => first | (go_simp; done) | (go_simp; rfl)); intro gb249 hg w7 hbox hb; have n0_ := M_ (blk_below (g := gb247) (o := .cells #[.int .i64 a0_0, .slice A0_1 l0_1.length c0_1, .slice A0_2 l0_2.length c0_2, .slice A0_3 l0_3.length c0_3, .slice A0_4 l0_4.length c0_4] 26 (0, 0)) (by (with_reducible repeat (first | refine k0_ ?_ _ | refine k1_ ?_ | refine k2_ ?_ _)); exact BK247.out) hb); have n1_ := M_ (blk_below (g := gb248) (o := .cells #[.int .i64 a1_0, .slice A1_1 l1_1.length c1_1, .slice A1_2 l1_2.length c1_2, .slice A1_3 l1_3.length c1_3, .slice A1_4 l1_4.length c1_4] 26 (0, 0)) (by (with_reducible repeat (first | refine k0_ ?_ _ | refine k1_ ?_ | refine k2_ ?_ _)); exact BK248.out) hb); have n2_ := M_ (below_step (by repeat (first | (with_reducible first | exact HB.out | apply b0_ | apply b1_ | apply b2_ | refine below_set ?_ GE247.out | refine below_set ?_ GE248.out) | exact HB.out)) hb); have n3_ := M_ (hbox); have n4_ := M_ ((by rw [hg]; exact (below_size (by repeat (first | (with_reducible first | exact HB.out | apply b0_ | apply b1_ | apply b2_ | refine below_set ?_ GE247.out | refine below_set ?_ GE248.out) | exact HB.out))) : w.heap.size ≤ gb249)); have n5_ := M_ ((by rw [hg]; exact (below_size (by repeat (first | (with_reducible first | exact HB.out | apply b0_ | apply b1_ | apply b2_ | refine below_set ?_ GE247.out | refine below_set ?_ GE248.out) | exact HB.out))) : w.heap.size ≤ gb249)); have n6_ := M_ ((by rw [hg]; exact Nat.ne_of_lt (blk_lt (g := gb247) (o := .cells #[.int .i64 a0_0, .slice A0_1 l0_1.length c0_1, .slice A0_2 l0_2.length c0_2, .slice A0_3 l0_3.length c0_3, .slice A0_4 l0_4.length c0_4] 26 (0, 0)) (by (with_reducible repeat (first | refine k0_ ?_ _ | refine k1_ ?_ | refine k2_ ?_ _)); exact BK247.out)) : gb247 ≠ gb249)); have n7_ := M_ ((by rw [hg]; exact Nat.ne_of_gt (blk_lt (g := gb247) (o := .cells #[.int .i64 a0_0, .slice A0_1 l0_1.length c0_1, .slice A0_2 l0_2.length c0_2, .slice A0_3 l0_3.length c0_3, .slice A0_4 l0_4.length c0_4] 26 (0, 0)) (by (with_reducible repeat (first | refine k0_ ?_ _ | refine k1_ ?_ | refine k2_ ?_ _)); exact BK247.out)) : gb249 ≠ gb247)); have n8_ := M_ ((by rw [hg]; exact Nat.ne_of_lt (blk_lt (g := gb248) (o := .cells #[.int .i64 a1_0, .slice A1_1 l1_1.length c1_1, .slice A1_2 l1_2.length c1_2, .slice A1_3 l1_3.length c1_3, .slice A1_4 l1_4.length c1_4] 26 (0, 0)) (by (with_reducible repeat (first | refine k0_ ?_ _ | refine k1_ ?_ | refine k2_ ?_ _)); exact BK248.out)) : gb248 ≠ gb249)); have n9_ := M_ ((by rw [hg]; exact Nat.ne_of_gt (blk_lt (g := gb248) (o := .cells #[.int .i64 a1_0, .slice A1_1 l1_1.length c1_1, .slice A1_2 l1_2.length c1_2, .slice A1_3 l1_3.length c1_3, .slice A1_4 l1_4.length c1_4] 26 (0, 0)) (by (with_reducible repeat (first | refine k0_ ?_ _ | refine k1_ ?_ | refine k2_ ?_ _)); exact BK248.out)) : gb249 ≠ gb248)); clear BK247; clear BK248; clear HB; have BK247 := n0_; have BK248 := n1_; have HB := n2_; have BK249 := n3_; have GW249 := n4_; have GE249 := n5_; have NB247_249 := n6_; have NB249_247 := n7_; have NB248_249 := n8_; have NB249_248 := n9_; clear n0_ n1_ n2_ n3_ n4_ n5_ n6_ n7_ n8_ n9_; clear hb hbox hg))
 (try simp only [Act.put, e1_, e2_, e3_])
 go_cut [7] (fun v7 wc => ∃ (kq : Nat) (x7_3 : Bool), v7 = .bool x7_3 ∧ Aside0 (lift_fits.j0 kq x7_3 a0_0 l0_1 l0_2 l0_3 l0_4 a1_0 l1_1 l1_2 l1_3 l1_4 a2_0 a2_1 l2_2 l2_3 l2_4 l2_5 a2_6 = some r) ∧ Aside0 (kq ≤ k) ∧ Aside0 (wc.heap[gb247]? = some (.cells #[.int .i64 a0_0, (.slice A0_1 l0_1.length c0_1), (.slice A0_2 l0_2.length c0_2), (.slice A0_3 l0_3.length c0_3), (.slice A0_4 l0_4.length c0_4)] 26 (0, 0))) ∧ Aside0 (wc.heap[gb248]? = some (.cells #[.int .i64 a1_0, (.slice A1_1 l1_1.length c1_1), (.slice A1_2 l1_2.length c1_2), (.slice A1_3 l1_3.length c1_3), (.slice A1_4 l1_4.length c1_4)] 26 (0, 0))) ∧ Aside0 (wc.heap[gb249]? = some (.cells #[.int .i64 a2_0, .int .i64 a2_1, (.slice A2_2 l2_2.length c2_2), (.slice A2_3 l2_3.length c2_3), (.slice A2_4 l2_4.length c2_4), (.slice A2_5 l2_5.length c2_5), .int .i64 a2_6] 53 (0, 0))) ∧ Aside0 (Below w.heap.size w wc))
 case first =>
  have H := HC4.out
  clear HC4
  by_cases c8 : a2_0 ≥ 0
  ·rw [if_pos c8] at H
   have c8b0 : decide (0 ≤ a2_0) = true := decide_eq_true c8
   clear c8
   (first | rw [c8b0] | (simp only [i64_w, i32_w]; rw [c8b0]) | skip)
   by_cases c9 : a2_0 ≤ 100
   ·rw [if_pos c9] at H
    have c9b0 : decide (a2_0 ≤ 100) = true := decide_eq_true c9
    clear c9
    by_cases c10 : a2_1 ≥ 1
    ·rw [if_pos c10] at H
     have c10b0 : decide (1 ≤ a2_1) = true := decide_eq_true c10
     clear c10
     have H' := M_ H
     clear H
     have hnb11 := NB249_247.out
     have hnc11 := NB247_249.out
     have hnb12 := NB249_248.out
     have hnc12 := NB248_249.out
     have hcz13_0 : w7.cell? ⟨gb249, 0, none⟩ = some (.int .i64 a2_0) := (blk_cell BK249.out 0).trans rfl
     have hcz13_1 : w7.cell? ⟨gb249, 1, none⟩ = some (.int .i64 a2_1) := (blk_cell BK249.out 1).trans rfl
     have hcz13_2 : w7.cell? ⟨gb249, 2, none⟩ = some (.slice A2_2 l2_2.length c2_2) := (blk_cell BK249.out 2).trans rfl
     have hcz13_3 : w7.cell? ⟨gb249, 3, none⟩ = some (.slice A2_3 l2_3.length c2_3) := (blk_cell BK249.out 3).trans rfl
     have hcz13_4 : w7.cell? ⟨gb249, 4, none⟩ = some (.slice A2_4 l2_4.length c2_4) := (blk_cell BK249.out 4).trans rfl
     have hcz13_5 : w7.cell? ⟨gb249, 5, none⟩ = some (.slice A2_5 l2_5.length c2_5) := (blk_cell BK249.out 5).trans rfl
     have hcz13_6 : w7.cell? ⟨gb249, 6, none⟩ = some (.int .i64 a2_6) := (blk_cell BK249.out 6).trans rfl
     have hfz13_0 := blk_frozen BK249.out 0
     have hfz13_1 := blk_frozen BK249.out 1
     have hfz13_2 := blk_frozen BK249.out 2
     have hfz13_3 := blk_frozen BK249.out 3
     have hfz13_4 := blk_frozen BK249.out 4
     have hfz13_5 := blk_frozen BK249.out 5
     have hfz13_6 := blk_frozen BK249.out 6
     go_wp2
     go_meet
     case rel => exact ⟨_, (decide (a2_1 ≤ 4)), (by first | rfl | (simp; done) | (simp [*]; done)), H', ⟨by first | omega | exact Nat.le_refl _⟩, ⟨by (with_reducible repeat (first | refine k0_ ?_ _ | refine k1_ ?_ | refine k2_ ?_ _)); exact BK247.out⟩, ⟨by (with_reducible repeat (first | refine k0_ ?_ _ | refine k1_ ?_ | refine k2_ ?_ _)); exact BK248.out⟩, ⟨by (with_reducible repeat (first | refine k0_ ?_ _ | refine k1_ ?_ | refine k2_ ?_ _)); exact BK249.out⟩, ⟨by repeat (first | (with_reducible first | exact HB.out | apply b0_ | apply b1_ | apply b2_ | refine below_set ?_ GE247.out | refine below_set ?_ GE248.out | refine below_set ?_ GE249.out) | exact HB.out)⟩⟩
    ·rw [if_neg c10] at H
     have c10b0 : decide (1 ≤ a2_1) = false := decide_eq_false c10
     clear c10
     have H' := M_ H
     clear H
     have hnb14 := NB249_247.out
     have hnc14 := NB247_249.out
     have hnb15 := NB249_248.out
     have hnc15 := NB248_249.out
     have hcz16_0 : w7.cell? ⟨gb249, 0, none⟩ = some (.int .i64 a2_0) := (blk_cell BK249.out 0).trans rfl
     have hcz16_1 : w7.cell? ⟨gb249, 1, none⟩ = some (.int .i64 a2_1) := (blk_cell BK249.out 1).trans rfl
     have hcz16_2 : w7.cell? ⟨gb249, 2, none⟩ = some (.slice A2_2 l2_2.length c2_2) := (blk_cell BK249.out 2).trans rfl
     have hcz16_3 : w7.cell? ⟨gb249, 3, none⟩ = some (.slice A2_3 l2_3.length c2_3) := (blk_cell BK249.out 3).trans rfl
     have hcz16_4 : w7.cell? ⟨gb249, 4, none⟩ = some (.slice A2_4 l2_4.length c2_4) := (blk_cell BK249.out 4).trans rfl
     have hcz16_5 : w7.cell? ⟨gb249, 5, none⟩ = some (.slice A2_5 l2_5.length c2_5) := (blk_cell BK249.out 5).trans rfl
     have hcz16_6 : w7.cell? ⟨gb249, 6, none⟩ = some (.int .i64 a2_6) := (blk_cell BK249.out 6).trans rfl
     have hfz16_0 := blk_frozen BK249.out 0
     have hfz16_1 := blk_frozen BK249.out 1
     have hfz16_2 := blk_frozen BK249.out 2
     have hfz16_3 := blk_frozen BK249.out 3
     have hfz16_4 := blk_frozen BK249.out 4
     have hfz16_5 := blk_frozen BK249.out 5
     have hfz16_6 := blk_frozen BK249.out 6
     go_wp2
     go_meet
     case rel => exact ⟨_, (false), (by first | rfl | (simp; done) | (simp [*]; done)), H', ⟨by first | omega | exact Nat.le_refl _⟩, ⟨by (with_reducible repeat (first | refine k0_ ?_ _ | refine k1_ ?_ | refine k2_ ?_ _)); exact BK247.out⟩, ⟨by (with_reducible repeat (first | refine k0_ ?_ _ | refine k1_ ?_ | refine k2_ ?_ _)); exact BK248.out⟩, ⟨by (with_reducible repeat (first | refine k0_ ?_ _ | refine k1_ ?_ | refine k2_ ?_ _)); exact BK249.out⟩, ⟨by repeat (first | (with_reducible first | exact HB.out | apply b0_ | apply b1_ | apply b2_ | refine below_set ?_ GE247.out | refine below_set ?_ GE248.out | refine below_set ?_ GE249.out) | exact HB.out)⟩⟩
   ·rw [if_neg c9] at H
    have c9b0 : decide (a2_0 ≤ 100) = false := decide_eq_false c9
    clear c9
    have H' := M_ H
    clear H
    have hnb17 := NB249_247.out
    have hnc17 := NB247_249.out
    have hnb18 := NB249_248.out
    have hnc18 := NB248_249.out
    have hcz19_0 : w7.cell? ⟨gb249, 0, none⟩ = some (.int .i64 a2_0) := (blk_cell BK249.out 0).trans rfl
    have hcz19_1 : w7.cell? ⟨gb249, 1, none⟩ = some (.int .i64 a2_1) := (blk_cell BK249.out 1).trans rfl
    have hcz19_2 : w7.cell? ⟨gb249, 2, none⟩ = some (.slice A2_2 l2_2.length c2_2) := (blk_cell BK249.out 2).trans rfl
    have hcz19_3 : w7.cell? ⟨gb249, 3, none⟩ = some (.slice A2_3 l2_3.length c2_3) := (blk_cell BK249.out 3).trans rfl
    have hcz19_4 : w7.cell? ⟨gb249, 4, none⟩ = some (.slice A2_4 l2_4.length c2_4) := (blk_cell BK249.out 4).trans rfl
    have hcz19_5 : w7.cell? ⟨gb249, 5, none⟩ = some (.slice A2_5 l2_5.length c2_5) := (blk_cell BK249.out 5).trans rfl
    have hcz19_6 : w7.cell? ⟨gb249, 6, none⟩ = some (.int .i64 a2_6) := (blk_cell BK249.out 6).trans rfl
    have hfz19_0 := blk_frozen BK249.out 0
    have hfz19_1 := blk_frozen BK249.out 1
    have hfz19_2 := blk_frozen BK249.out 2
    have hfz19_3 := blk_frozen BK249.out 3
    have hfz19_4 := blk_frozen BK249.out 4
    have hfz19_5 := blk_frozen BK249.out 5
    have hfz19_6 := blk_frozen BK249.out 6
    go_wp2
    go_meet
    case rel => exact ⟨_, (false), (by first | rfl | (simp; done) | (simp [*]; done)), H', ⟨by first | omega | exact Nat.le_refl _⟩, ⟨by (with_reducible repeat (first | refine k0_ ?_ _ | refine k1_ ?_ | refine k2_ ?_ _)); exact BK247.out⟩, ⟨by (with_reducible repeat (first | refine k0_ ?_ _ | refine k1_ ?_ | refine k2_ ?_ _)); exact BK248.out⟩, ⟨by (with_reducible repeat (first | refine k0_ ?_ _ | refine k1_ ?_ | refine k2_ ?_ _)); exact BK249.out⟩, ⟨by repeat (first | (with_reducible first | exact HB.out | apply b0_ | apply b1_ | apply b2_ | refine below_set ?_ GE247.out | refine below_set ?_ GE248.out | refine below_set ?_ GE249.out) | exact HB.out)⟩⟩
  ·rw [if_neg c8] at H
   have c8b0 : decide (0 ≤ a2_0) = false := decide_eq_false c8
   clear c8
   (first | rw [c8b0] | (simp only [i64_w, i32_w]; rw [c8b0]) | skip)
   have H' := M_ H
   clear H
   have hnb20 := NB249_247.out
   have hnc20 := NB247_249.out
   have hnb21 := NB249_248.out
   have hnc21 := NB248_249.out
   have hcz22_0 : w7.cell? ⟨gb249, 0, none⟩ = some (.int .i64 a2_0) := (blk_cell BK249.out 0).trans rfl
   have hcz22_1 : w7.cell? ⟨gb249, 1, none⟩ = some (.int .i64 a2_1) := (blk_cell BK249.out 1).trans rfl
   have hcz22_2 : w7.cell? ⟨gb249, 2, none⟩ = some (.slice A2_2 l2_2.length c2_2) := (blk_cell BK249.out 2).trans rfl
   have hcz22_3 : w7.cell? ⟨gb249, 3, none⟩ = some (.slice A2_3 l2_3.length c2_3) := (blk_cell BK249.out 3).trans rfl
   have hcz22_4 : w7.cell? ⟨gb249, 4, none⟩ = some (.slice A2_4 l2_4.length c2_4) := (blk_cell BK249.out 4).trans rfl
   have hcz22_5 : w7.cell? ⟨gb249, 5, none⟩ = some (.slice A2_5 l2_5.length c2_5) := (blk_cell BK249.out 5).trans rfl
   have hcz22_6 : w7.cell? ⟨gb249, 6, none⟩ = some (.int .i64 a2_6) := (blk_cell BK249.out 6).trans rfl
   have hfz22_0 := blk_frozen BK249.out 0
   have hfz22_1 := blk_frozen BK249.out 1
   have hfz22_2 := blk_frozen BK249.out 2
   have hfz22_3 := blk_frozen BK249.out 3
   have hfz22_4 := blk_frozen BK249.out 4
   have hfz22_5 := blk_frozen BK249.out 5
   have hfz22_6 := blk_frozen BK249.out 6
   go_wp2
   go_meet
   case rel => exact ⟨_, (false), (by first | rfl | (simp; done) | (simp [*]; done)), H', ⟨by first | omega | exact Nat.le_refl _⟩, ⟨by (with_reducible repeat (first | refine k0_ ?_ _ | refine k1_ ?_ | refine k2_ ?_ _)); exact BK247.out⟩, ⟨by (with_reducible repeat (first | refine k0_ ?_ _ | refine k1_ ?_ | refine k2_ ?_ _)); exact BK248.out⟩, ⟨by (with_reducible repeat (first | refine k0_ ?_ _ | refine k1_ ?_ | refine k2_ ?_ _)); exact BK249.out⟩, ⟨by repeat (first | (with_reducible first | exact HB.out | apply b0_ | apply b1_ | apply b2_ | refine below_set ?_ GE247.out | refine below_set ?_ GE248.out | refine below_set ?_ GE249.out) | exact HB.out)⟩⟩
 case rest =>
  clear HC4
  try clear c1
  try clear c2
  try clear p2
  try clear c5
  try clear c8
  try clear c8b0
  try clear c9
  try clear c9b0
  try clear c10
  try clear c10b0
  try clear c11
  try clear c12
  try clear c14
  try clear c15
  try clear c17
  try clear c18
  try clear c20
  try clear c21
  try clear hcz13_0
  try clear hcz13_1
  try clear hcz13_2
  try clear hcz13_3
  try clear hcz13_4
  try clear hcz13_5
  try clear hcz13_6
  try clear hcz16_0
  try clear hcz16_1
  try clear hcz16_2
  try clear hcz16_3
  try clear hcz16_4
  try clear hcz16_5
  try clear hcz16_6
  try clear hcz19_0
  try clear hcz19_1
  try clear hcz19_2
  try clear hcz19_3
  try clear hcz19_4
  try clear hcz19_5
  try clear hcz19_6
  try clear hcz22_0
  try clear hcz22_1
  try clear hcz22_2
  try clear hcz22_3
  try clear hcz22_4
  try clear hcz22_5
  try clear hcz22_6
  try clear hfz13_0
  try clear hfz13_1
  try clear hfz13_2
  try clear hfz13_3
  try clear hfz13_4
  try clear hfz13_5
  try clear hfz13_6
  try clear hfz16_0
  try clear hfz16_1
  try clear hfz16_2
  try clear hfz16_3
  try clear hfz16_4
  try clear hfz16_5
  try clear hfz16_6
  try clear hfz19_0
  try clear hfz19_1
  try clear hfz19_2
  try clear hfz19_3
  try clear hfz19_4
  try clear hfz19_5
  try clear hfz19_6
  try clear hfz22_0
  try clear hfz22_1
  try clear hfz22_2
  try clear hfz22_3
  try clear hfz22_4
  try clear hfz22_5
  try clear hfz22_6
  obtain ⟨kq, x7_3, rfl, HA, HJ3, BK247, BK248, BK249, HB⟩ := hcut
  cases kq with
  | zero => exact absurd HA.out (by simp [lift_fits.j0])
  | succ kj3 =>
   have H := HA.out
   clear HA
   simp only [lift_fits.j0] at H
   have HC23 := M_ H
   clear H
   go_upto_region 2 with (fail)
   go_cut [64] (fun v64 wc => ∃ (kq : Nat) (x64_22 : Bool), v64 = .bool x64_22 ∧ Aside0 (lift_fits.j1 kq x7_3 x64_22 a0_0 l0_1 l0_2 l0_3 l0_4 a1_0 l1_1 l1_2 l1_3 l1_4 a2_0 a2_1 l2_2 l2_3 l2_4 l2_5 a2_6 = some r) ∧ Aside0 (kq ≤ kj3) ∧ Aside0 (wc.heap[gb247]? = some (.cells #[.int .i64 a0_0, (.slice A0_1 l0_1.length c0_1), (.slice A0_2 l0_2.length c0_2), (.slice A0_3 l0_3.length c0_3), (.slice A0_4 l0_4.length c0_4)] 26 (0, 0))) ∧ Aside0 (wc.heap[gb248]? = some (.cells #[.int .i64 a1_0, (.slice A1_1 l1_1.length c1_1), (.slice A1_2 l1_2.length c1_2), (.slice A1_3 l1_3.length c1_3), (.slice A1_4 l1_4.length c1_4)] 26 (0, 0))) ∧ Aside0 (wc.heap[gb249]? = some (.cells #[.int .i64 a2_0, .int .i64 a2_1, (.slice A2_2 l2_2.length c2_2), (.slice A2_3 l2_3.length c2_3), (.slice A2_4 l2_4.length c2_4), (.slice A2_5 l2_5.length c2_5), .int .i64 a2_6] 53 (0, 0))) ∧ Aside0 (Below w.heap.size w wc))
   case first =>
    have H := HC23.out
    clear HC23
    by_cases c24 : x7_3 = true
    ·subst c24
     have H1 : (if (l2_2.length : Int) = (l0_1.length : Int) then (if (l2_4.length : Int) = (l1_1.length : Int) then (lift_fits.j1 kj3 true ((l2_3.length : Int) != (wrap64 (a2_0 + a2_1))) a0_0 l0_1 l0_2 l0_3 l0_4 a1_0 l1_1 l1_2 l1_3 l1_4 a2_0 a2_1 l2_2 l2_3 l2_4 l2_5 a2_6) else (lift_fits.j1 kj3 true true a0_0 l0_1 l0_2 l0_3 l0_4 a1_0 l1_1 l1_2 l1_3 l1_4 a2_0 a2_1 l2_2 l2_3 l2_4 l2_5 a2_6)) else (lift_fits.j1 kj3 true true a0_0 l0_1 l0_2 l0_3 l0_4 a1_0 l1_1 l1_2 l1_3 l1_4 a2_0 a2_1 l2_2 l2_3 l2_4 l2_5 a2_6)) = some r := by rw [if_pos rfl] at H; exact H
     clear H
     have H := H1
     clear H1
     by_cases c25 : (l2_2.length : Int) = (l0_1.length : Int)
     ·rw [if_pos c25] at H
      have c25b0 : ((l2_2.length : Int) == (l0_1.length : Int)) = true := beq_iff_eq.mpr c25
      have c25b1 : ((l2_2.length : Int) != (l0_1.length : Int)) = false := bne_eq_false_iff_eq.mpr c25
      have c25b2 : (l2_2.length == l0_1.length) = true := by first | simpa using c25 | (simp at c25 ⊢; omega)
      clear c25
      (first | rw [c25b0] | (simp only [i64_w, i32_w]; rw [c25b0]) | skip)
      by_cases c26 : (l2_4.length : Int) = (l1_1.length : Int)
      ·rw [if_pos c26] at H
       have c26b0 : ((l2_4.length : Int) == (l1_1.length : Int)) = true := beq_iff_eq.mpr c26
       have c26b1 : ((l2_4.length : Int) != (l1_1.length : Int)) = false := bne_eq_false_iff_eq.mpr c26
       have c26b2 : (l2_4.length == l1_1.length) = true := by first | simpa using c26 | (simp at c26 ⊢; omega)
       clear c26
       have H' := M_ H
       clear H
       have hnb27 := NB249_247.out
       have hnc27 := NB247_249.out
       have hnb28 := NB249_248.out
       have hnc28 := NB248_249.out
       have hcz29_0 : wc.cell? ⟨gb249, 0, none⟩ = some (.int .i64 a2_0) := (blk_cell BK249.out 0).trans rfl
       have hcz29_1 : wc.cell? ⟨gb249, 1, none⟩ = some (.int .i64 a2_1) := (blk_cell BK249.out 1).trans rfl
       have hcz29_2 : wc.cell? ⟨gb249, 2, none⟩ = some (.slice A2_2 l2_2.length c2_2) := (blk_cell BK249.out 2).trans rfl
       have hcz29_3 : wc.cell? ⟨gb249, 3, none⟩ = some (.slice A2_3 l2_3.length c2_3) := (blk_cell BK249.out 3).trans rfl
       have hcz29_4 : wc.cell? ⟨gb249, 4, none⟩ = some (.slice A2_4 l2_4.length c2_4) := (blk_cell BK249.out 4).trans rfl
       have hcz29_5 : wc.cell? ⟨gb249, 5, none⟩ = some (.slice A2_5 l2_5.length c2_5) := (blk_cell BK249.out 5).trans rfl
       have hcz29_6 : wc.cell? ⟨gb249, 6, none⟩ = some (.int .i64 a2_6) := (blk_cell BK249.out 6).trans rfl
       have hfz29_0 := blk_frozen BK249.out 0
       have hfz29_1 := blk_frozen BK249.out 1
       have hfz29_2 := blk_frozen BK249.out 2
       have hfz29_3 := blk_frozen BK249.out 3
       have hfz29_4 := blk_frozen BK249.out 4
       have hfz29_5 := blk_frozen BK249.out 5
       have hfz29_6 := blk_frozen BK249.out 6
       have hnb30 := NB247_248.out
       have hnc30 := NB248_247.out
       have hcz31_0 : wc.cell? ⟨gb247, 0, none⟩ = some (.int .i64 a0_0) := (blk_cell BK247.out 0).trans rfl
       have hcz31_1 : wc.cell? ⟨gb247, 1, none⟩ = some (.slice A0_1 l0_1.length c0_1) := (blk_cell BK247.out 1).trans rfl
       have hcz31_2 : wc.cell? ⟨gb247, 2, none⟩ = some (.slice A0_2 l0_2.length c0_2) := (blk_cell BK247.out 2).trans rfl
       have hcz31_3 : wc.cell? ⟨gb247, 3, none⟩ = some (.slice A0_3 l0_3.length c0_3) := (blk_cell BK247.out 3).trans rfl
       have hcz31_4 : wc.cell? ⟨gb247, 4, none⟩ = some (.slice A0_4 l0_4.length c0_4) := (blk_cell BK247.out 4).trans rfl
       have hfz31_0 := blk_frozen BK247.out 0
       have hfz31_1 := blk_frozen BK247.out 1
       have hfz31_2 := blk_frozen BK247.out 2
       have hfz31_3 := blk_frozen BK247.out 3
       have hfz31_4 := blk_frozen BK247.out 4
       have hcz32_0 : wc.cell? ⟨gb248, 0, none⟩ = some (.int .i64 a1_0) := (blk_cell BK248.out 0).trans rfl
       have hcz32_1 : wc.cell? ⟨gb248, 1, none⟩ = some (.slice A1_1 l1_1.length c1_1) := (blk_cell BK248.out 1).trans rfl
       have hcz32_2 : wc.cell? ⟨gb248, 2, none⟩ = some (.slice A1_2 l1_2.length c1_2) := (blk_cell BK248.out 2).trans rfl
       have hcz32_3 : wc.cell? ⟨gb248, 3, none⟩ = some (.slice A1_3 l1_3.length c1_3) := (blk_cell BK248.out 3).trans rfl
       have hcz32_4 : wc.cell? ⟨gb248, 4, none⟩ = some (.slice A1_4 l1_4.length c1_4) := (blk_cell BK248.out 4).trans rfl
       have hfz32_0 := blk_frozen BK248.out 0
       have hfz32_1 := blk_frozen BK248.out 1
       have hfz32_2 := blk_frozen BK248.out 2
       have hfz32_3 := blk_frozen BK248.out 3
       have hfz32_4 := blk_frozen BK248.out 4
       go_wp2
       go_meet
       case rel => exact ⟨_, (((l2_3.length : Int) != (wrap64 (a2_0 + a2_1)))), (by first | rfl | (simp; done) | (simp [*]; done)), H', ⟨by have := HJ3.out; first | omega | exact Nat.le_refl _⟩, ⟨by (with_reducible repeat (first | refine k0_ ?_ _ | refine k1_ ?_ | refine k2_ ?_ _)); exact BK247.out⟩, ⟨by (with_reducible repeat (first | refine k0_ ?_ _ | refine k1_ ?_ | refine k2_ ?_ _)); exact BK248.out⟩, ⟨by (with_reducible repeat (first | refine k0_ ?_ _ | refine k1_ ?_ | refine k2_ ?_ _)); exact BK249.out⟩, ⟨by repeat (first | (with_reducible first | exact HB.out | apply b0_ | apply b1_ | apply b2_ | refine below_set ?_ GE247.out | refine below_set ?_ GE248.out | refine below_set ?_ GE249.out) | exact HB.out)⟩⟩
      ·rw [if_neg c26] at H
       have c26b0 : ((l2_4.length : Int) == (l1_1.length : Int)) = false := beq_eq_false_iff_ne.mpr c26
       have c26b1 : ((l2_4.length : Int) != (l1_1.length : Int)) = true := bne_iff_ne.mpr c26
       have c26b2 : (l2_4.length == l1_1.length) = false := by first | simpa using c26 | (simp at c26 ⊢; omega)
       have H' := M_ H
       clear H
       have hnb33 := NB249_247.out
       have hnc33 := NB247_249.out
       have hnb34 := NB249_248.out
       have hnc34 := NB248_249.out
       have hcz35_0 : wc.cell? ⟨gb249, 0, none⟩ = some (.int .i64 a2_0) := (blk_cell BK249.out 0).trans rfl
       have hcz35_1 : wc.cell? ⟨gb249, 1, none⟩ = some (.int .i64 a2_1) := (blk_cell BK249.out 1).trans rfl
       have hcz35_2 : wc.cell? ⟨gb249, 2, none⟩ = some (.slice A2_2 l2_2.length c2_2) := (blk_cell BK249.out 2).trans rfl
       have hcz35_3 : wc.cell? ⟨gb249, 3, none⟩ = some (.slice A2_3 l2_3.length c2_3) := (blk_cell BK249.out 3).trans rfl
       have hcz35_4 : wc.cell? ⟨gb249, 4, none⟩ = some (.slice A2_4 l2_4.length c2_4) := (blk_cell BK249.out 4).trans rfl
       have hcz35_5 : wc.cell? ⟨gb249, 5, none⟩ = some (.slice A2_5 l2_5.length c2_5) := (blk_cell BK249.out 5).trans rfl
       have hcz35_6 : wc.cell? ⟨gb249, 6, none⟩ = some (.int .i64 a2_6) := (blk_cell BK249.out 6).trans rfl
       have hfz35_0 := blk_frozen BK249.out 0
       have hfz35_1 := blk_frozen BK249.out 1
       have hfz35_2 := blk_frozen BK249.out 2
       have hfz35_3 := blk_frozen BK249.out 3
       have hfz35_4 := blk_frozen BK249.out 4
       have hfz35_5 := blk_frozen BK249.out 5
       have hfz35_6 := blk_frozen BK249.out 6
       have hnb36 := NB247_248.out
       have hnc36 := NB248_247.out
       have hcz37_0 : wc.cell? ⟨gb247, 0, none⟩ = some (.int .i64 a0_0) := (blk_cell BK247.out 0).trans rfl
       have hcz37_1 : wc.cell? ⟨gb247, 1, none⟩ = some (.slice A0_1 l0_1.length c0_1) := (blk_cell BK247.out 1).trans rfl
       have hcz37_2 : wc.cell? ⟨gb247, 2, none⟩ = some (.slice A0_2 l0_2.length c0_2) := (blk_cell BK247.out 2).trans rfl
       have hcz37_3 : wc.cell? ⟨gb247, 3, none⟩ = some (.slice A0_3 l0_3.length c0_3) := (blk_cell BK247.out 3).trans rfl
       have hcz37_4 : wc.cell? ⟨gb247, 4, none⟩ = some (.slice A0_4 l0_4.length c0_4) := (blk_cell BK247.out 4).trans rfl
       have hfz37_0 := blk_frozen BK247.out 0
       have hfz37_1 := blk_frozen BK247.out 1
       have hfz37_2 := blk_frozen BK247.out 2
       have hfz37_3 := blk_frozen BK247.out 3
       have hfz37_4 := blk_frozen BK247.out 4
       have hcz38_0 : wc.cell? ⟨gb248, 0, none⟩ = some (.int .i64 a1_0) := (blk_cell BK248.out 0).trans rfl
       have hcz38_1 : wc.cell? ⟨gb248, 1, none⟩ = some (.slice A1_1 l1_1.length c1_1) := (blk_cell BK248.out 1).trans rfl
       have hcz38_2 : wc.cell? ⟨gb248, 2, none⟩ = some (.slice A1_2 l1_2.length c1_2) := (blk_cell BK248.out 2).trans rfl
       have hcz38_3 : wc.cell? ⟨gb248, 3, none⟩ = some (.slice A1_3 l1_3.length c1_3) := (blk_cell BK248.out 3).trans rfl
       have hcz38_4 : wc.cell? ⟨gb248, 4, none⟩ = some (.slice A1_4 l1_4.length c1_4) := (blk_cell BK248.out 4).trans rfl
       have hfz38_0 := blk_frozen BK248.out 0
       have hfz38_1 := blk_frozen BK248.out 1
       have hfz38_2 := blk_frozen BK248.out 2
       have hfz38_3 := blk_frozen BK248.out 3
       have hfz38_4 := blk_frozen BK248.out 4
       go_wp2
       go_meet
       case rel => exact ⟨_, (true), (by first | rfl | (simp; done) | (simp [*]; done)), H', ⟨by have := HJ3.out; first | omega | exact Nat.le_refl _⟩, ⟨by (with_reducible repeat (first | refine k0_ ?_ _ | refine k1_ ?_ | refine k2_ ?_ _)); exact BK247.out⟩, ⟨by (with_reducible repeat (first | refine k0_ ?_ _ | refine k1_ ?_ | refine k2_ ?_ _)); exact BK248.out⟩, ⟨by (with_reducible repeat (first | refine k0_ ?_ _ | refine k1_ ?_ | refine k2_ ?_ _)); exact BK249.out⟩, ⟨by repeat (first | (with_reducible first | exact HB.out | apply b0_ | apply b1_ | apply b2_ | refine below_set ?_ GE247.out | refine below_set ?_ GE248.out | refine below_set ?_ GE249.out) | exact HB.out)⟩⟩
     ·rw [if_neg c25] at H
      have c25b0 : ((l2_2.length : Int) == (l0_1.length : Int)) = false := beq_eq_false_iff_ne.mpr c25
      have c25b1 : ((l2_2.length : Int) != (l0_1.length : Int)) = true := bne_iff_ne.mpr c25
      have c25b2 : (l2_2.length == l0_1.length) = false := by first | simpa using c25 | (simp at c25 ⊢; omega)
      (first | rw [c25b0] | (simp only [i64_w, i32_w]; rw [c25b0]) | skip)
      have H' := M_ H
      clear H
      have hnb39 := NB249_247.out
      have hnc39 := NB247_249.out
      have hnb40 := NB249_248.out
      have hnc40 := NB248_249.out
      have hcz41_0 : wc.cell? ⟨gb249, 0, none⟩ = some (.int .i64 a2_0) := (blk_cell BK249.out 0).trans rfl
      have hcz41_1 : wc.cell? ⟨gb249, 1, none⟩ = some (.int .i64 a2_1) := (blk_cell BK249.out 1).trans rfl
      have hcz41_2 : wc.cell? ⟨gb249, 2, none⟩ = some (.slice A2_2 l2_2.length c2_2) := (blk_cell BK249.out 2).trans rfl
      have hcz41_3 : wc.cell? ⟨gb249, 3, none⟩ = some (.slice A2_3 l2_3.length c2_3) := (blk_cell BK249.out 3).trans rfl
      have hcz41_4 : wc.cell? ⟨gb249, 4, none⟩ = some (.slice A2_4 l2_4.length c2_4) := (blk_cell BK249.out 4).trans rfl
      have hcz41_5 : wc.cell? ⟨gb249, 5, none⟩ = some (.slice A2_5 l2_5.length c2_5) := (blk_cell BK249.out 5).trans rfl
      have hcz41_6 : wc.cell? ⟨gb249, 6, none⟩ = some (.int .i64 a2_6) := (blk_cell BK249.out 6).trans rfl
      have hfz41_0 := blk_frozen BK249.out 0
      have hfz41_1 := blk_frozen BK249.out 1
      have hfz41_2 := blk_frozen BK249.out 2
      have hfz41_3 := blk_frozen BK249.out 3
      have hfz41_4 := blk_frozen BK249.out 4
      have hfz41_5 := blk_frozen BK249.out 5
      have hfz41_6 := blk_frozen BK249.out 6
      have hnb42 := NB247_248.out
      have hnc42 := NB248_247.out
      have hcz43_0 : wc.cell? ⟨gb247, 0, none⟩ = some (.int .i64 a0_0) := (blk_cell BK247.out 0).trans rfl
      have hcz43_1 : wc.cell? ⟨gb247, 1, none⟩ = some (.slice A0_1 l0_1.length c0_1) := (blk_cell BK247.out 1).trans rfl
      have hcz43_2 : wc.cell? ⟨gb247, 2, none⟩ = some (.slice A0_2 l0_2.length c0_2) := (blk_cell BK247.out 2).trans rfl
      have hcz43_3 : wc.cell? ⟨gb247, 3, none⟩ = some (.slice A0_3 l0_3.length c0_3) := (blk_cell BK247.out 3).trans rfl
      have hcz43_4 : wc.cell? ⟨gb247, 4, none⟩ = some (.slice A0_4 l0_4.length c0_4) := (blk_cell BK247.out 4).trans rfl
      have hfz43_0 := blk_frozen BK247.out 0
      have hfz43_1 := blk_frozen BK247.out 1
      have hfz43_2 := blk_frozen BK247.out 2
      have hfz43_3 := blk_frozen BK247.out 3
      have hfz43_4 := blk_frozen BK247.out 4
      go_wp2
      go_meet
      case rel => exact ⟨_, (true), (by first | rfl | (simp; done) | (simp [*]; done)), H', ⟨by have := HJ3.out; first | omega | exact Nat.le_refl _⟩, ⟨by (with_reducible repeat (first | refine k0_ ?_ _ | refine k1_ ?_ | refine k2_ ?_ _)); exact BK247.out⟩, ⟨by (with_reducible repeat (first | refine k0_ ?_ _ | refine k1_ ?_ | refine k2_ ?_ _)); exact BK248.out⟩, ⟨by (with_reducible repeat (first | refine k0_ ?_ _ | refine k1_ ?_ | refine k2_ ?_ _)); exact BK249.out⟩, ⟨by repeat (first | (with_reducible first | exact HB.out | apply b0_ | apply b1_ | apply b2_ | refine below_set ?_ GE247.out | refine below_set ?_ GE248.out | refine below_set ?_ GE249.out) | exact HB.out)⟩⟩
    ·replace c24 := Bool.eq_false_iff.mpr c24
     subst c24
     have H1 : (lift_fits.j1 kj3 false true a0_0 l0_1 l0_2 l0_3 l0_4 a1_0 l1_1 l1_2 l1_3 l1_4 a2_0 a2_1 l2_2 l2_3 l2_4 l2_5 a2_6) = some r := by rw [if_neg (show ¬ (false = true) by decide)] at H; exact H
     clear H
     have H := H1
     clear H1
     have H' := M_ H
     clear H
     go_wp2
     go_meet
     case rel => exact ⟨_, (true), (by first | rfl | (simp; done) | (simp [*]; done)), H', ⟨by have := HJ3.out; first | omega | exact Nat.le_refl _⟩, ⟨by (with_reducible repeat (first | refine k0_ ?_ _ | refine k1_ ?_ | refine k2_ ?_ _)); exact BK247.out⟩, ⟨by (with_reducible repeat (first | refine k0_ ?_ _ | refine k1_ ?_ | refine k2_ ?_ _)); exact BK248.out⟩, ⟨by (with_reducible repeat (first | refine k0_ ?_ _ | refine k1_ ?_ | refine k2_ ?_ _)); exact BK249.out⟩, ⟨by repeat (first | (with_reducible first | exact HB.out | apply b0_ | apply b1_ | apply b2_ | refine below_set ?_ GE247.out | refine below_set ?_ GE248.out | refine below_set ?_ GE249.out) | exact HB.out)⟩⟩
   case rest =>
    clear HC23
    try clear c1
    try clear c2
    try clear p2
    try clear c3
    try clear c4
    try clear c5
    try clear p6
    try clear c8
    try clear c8b0
    try clear c9
    try clear c9b0
    try clear c10
    try clear c10b0
    try clear c11
    try clear c12
    try clear c14
    try clear c15
    try clear c17
    try clear c18
    try clear c20
    try clear c21
    try clear c24
    try clear c25
    try clear c25b0
    try clear c25b1
    try clear c25b2
    try clear c26
    try clear c26b0
    try clear c26b1
    try clear c26b2
    try clear c27
    try clear c28
    try clear c30
    try clear c33
    try clear c34
    try clear c36
    try clear c39
    try clear c40
    try clear c42
    try clear hcz13_0
    try clear hcz13_1
    try clear hcz13_2
    try clear hcz13_3
    try clear hcz13_4
    try clear hcz13_5
    try clear hcz13_6
    try clear hcz16_0
    try clear hcz16_1
    try clear hcz16_2
    try clear hcz16_3
    try clear hcz16_4
    try clear hcz16_5
    try clear hcz16_6
    try clear hcz19_0
    try clear hcz19_1
    try clear hcz19_2
    try clear hcz19_3
    try clear hcz19_4
    try clear hcz19_5
    try clear hcz19_6
    try clear hcz22_0
    try clear hcz22_1
    try clear hcz22_2
    try clear hcz22_3
    try clear hcz22_4
    try clear hcz22_5
    try clear hcz22_6
    try clear hcz29_0
    try clear hcz29_1
    try clear hcz29_2
    try clear hcz29_3
    try clear hcz29_4
    try clear hcz29_5
    try clear hcz29_6
    try clear hcz31_0
    try clear hcz31_1
    try clear hcz31_2
    try clear hcz31_3
    try clear hcz31_4
    try clear hcz32_0
    try clear hcz32_1
    try clear hcz32_2
    try clear hcz32_3
    try clear hcz32_4
    try clear hcz35_0
    try clear hcz35_1
    try clear hcz35_2
    try clear hcz35_3
    try clear hcz35_4
    try clear hcz35_5
    try clear hcz35_6
    try clear hcz37_0
    try clear hcz37_1
    try clear hcz37_2
    try clear hcz37_3
    try clear hcz37_4
    try clear hcz38_0
    try clear hcz38_1
    try clear hcz38_2
    try clear hcz38_3
    try clear hcz38_4
    try clear hcz41_0
    try clear hcz41_1
    try clear hcz41_2
    try clear hcz41_3
    try clear hcz41_4
    try clear hcz41_5
    try clear hcz41_6
    try clear hcz43_0
    try clear hcz43_1
    try clear hcz43_2
    try clear hcz43_3
    try clear hcz43_4
    try clear hfz13_0
    try clear hfz13_1
    try clear hfz13_2
    try clear hfz13_3
    try clear hfz13_4
    try clear hfz13_5
    try clear hfz13_6
    try clear hfz16_0
    try clear hfz16_1
    try clear hfz16_2
    try clear hfz16_3
    try clear hfz16_4
    try clear hfz16_5
    try clear hfz16_6
    try clear hfz19_0
    try clear hfz19_1
    try clear hfz19_2
    try clear hfz19_3
    try clear hfz19_4
    try clear hfz19_5
    try clear hfz19_6
    try clear hfz22_0
    try clear hfz22_1
    try clear hfz22_2
    try clear hfz22_3
    try clear hfz22_4
    try clear hfz22_5
    try clear hfz22_6
    try clear hfz29_0
    try clear hfz29_1
    try clear hfz29_2
    try clear hfz29_3
    try clear hfz29_4
    try clear hfz29_5
    try clear hfz29_6
    try clear hfz31_0
    try clear hfz31_1
    try clear hfz31_2
    try clear hfz31_3
    try clear hfz31_4
    try clear hfz32_0
    try clear hfz32_1
    try clear hfz32_2
    try clear hfz32_3
    try clear hfz32_4
    try clear hfz35_0
    try clear hfz35_1
    try clear hfz35_2
    try clear hfz35_3
    try clear hfz35_4
    try clear hfz35_5
    try clear hfz35_6
    try clear hfz37_0
    try clear hfz37_1
    try clear hfz37_2
    try clear hfz37_3
    try clear hfz37_4
    try clear hfz38_0
    try clear hfz38_1
    try clear hfz38_2
    try clear hfz38_3
    try clear hfz38_4
    try clear hfz41_0
    try clear hfz41_1
    try clear hfz41_2
    try clear hfz41_3
    try clear hfz41_4
    try clear hfz41_5
    try clear hfz41_6
    try clear hfz43_0
    try clear hfz43_1
    try clear hfz43_2
    try clear hfz43_3
    try clear hfz43_4
    try clear p2
    obtain ⟨kq, x64_22, rfl, HA, HJ22, BK247, BK248, BK249, HB⟩ := hcut
    cases kq with
    | zero => exact absurd HA.out (by simp [lift_fits.j1])
    | succ kj22 =>
     have H := HA.out
     clear HA
     simp only [lift_fits.j1] at H
     by_cases c44 : x64_22 = true
     ·subst c44
      have H1 : (some false) = some r := by rw [if_pos rfl] at H; exact H
      clear H
      have H := H1
      clear H1
      obtain rfl := Option.some.inj H
      go_wp2
      go_ret
      exact ⟨by first | rfl | (simp [errW_none, errW_some] <;> rfl) | (simp [*, errW_none, errW_some] <;> rfl), by repeat (first | (with_reducible first | exact HB.out | apply b0_ | apply b1_ | apply b2_ | refine below_set ?_ GE247.out | refine below_set ?_ GE248.out | refine below_set ?_ GE249.out) | exact HB.out)⟩
     ·replace c44 := Bool.eq_false_iff.mpr c44
      subst c44
      have H1 : (lift_fits.l0 kj22 x7_3 l2_2 (l2_2.length : Int) 0 a0_0 l0_1 l0_2 l0_3 l0_4 a1_0 l1_1 l1_2 l1_3 l1_4 a2_0 a2_1 l2_2 l2_3 l2_4 l2_5 a2_6) = some r := by rw [if_neg (show ¬ (false = true) by decide)] at H; exact H
      clear H
      have H := H1
      clear H1
      have H' := M_ H
      clear H
      have hnb45 := NB249_247.out
      have hnc45 := NB247_249.out
      have hnb46 := NB249_248.out
      have hnc46 := NB248_249.out
      have hcz47_0 : wc.cell? ⟨gb249, 0, none⟩ = some (.int .i64 a2_0) := (blk_cell BK249.out 0).trans rfl
      have hcz47_1 : wc.cell? ⟨gb249, 1, none⟩ = some (.int .i64 a2_1) := (blk_cell BK249.out 1).trans rfl
      have hcz47_2 : wc.cell? ⟨gb249, 2, none⟩ = some (.slice A2_2 l2_2.length c2_2) := (blk_cell BK249.out 2).trans rfl
      have hcz47_3 : wc.cell? ⟨gb249, 3, none⟩ = some (.slice A2_3 l2_3.length c2_3) := (blk_cell BK249.out 3).trans rfl
      have hcz47_4 : wc.cell? ⟨gb249, 4, none⟩ = some (.slice A2_4 l2_4.length c2_4) := (blk_cell BK249.out 4).trans rfl
      have hcz47_5 : wc.cell? ⟨gb249, 5, none⟩ = some (.slice A2_5 l2_5.length c2_5) := (blk_cell BK249.out 5).trans rfl
      have hcz47_6 : wc.cell? ⟨gb249, 6, none⟩ = some (.int .i64 a2_6) := (blk_cell BK249.out 6).trans rfl
      have hfz47_0 := blk_frozen BK249.out 0
      have hfz47_1 := blk_frozen BK249.out 1
      have hfz47_2 := blk_frozen BK249.out 2
      have hfz47_3 := blk_frozen BK249.out 3
      have hfz47_4 := blk_frozen BK249.out 4
      have hfz47_5 := blk_frozen BK249.out 5
      have hfz47_6 := blk_frozen BK249.out 6
      go_wp2
      go_loopg [7, 68] kj22 (fun kq v7 v68 w' => ∃ (x7_3 : Bool) (x68_3 : Int), v7 = .bool x7_3 ∧ v68 = .int .i64 x68_3 ∧ Aside0 (lift_fits.l0 kq x7_3 l2_2 (l2_2.length : Int) x68_3 a0_0 l0_1 l0_2 l0_3 l0_4 a1_0 l1_1 l1_2 l1_3 l1_4 a2_0 a2_1 l2_2 l2_3 l2_4 l2_5 a2_6 = some r) ∧ Aside0 (kq ≤ kj22) ∧ Aside0 (w'.heap[gb247]? = some (.cells #[.int .i64 a0_0, (.slice A0_1 l0_1.length c0_1), (.slice A0_2 l0_2.length c0_2), (.slice A0_3 l0_3.length c0_3), (.slice A0_4 l0_4.length c0_4)] 26 (0, 0))) ∧ Aside0 (w'.heap[gb248]? = some (.cells #[.int .i64 a1_0, (.slice A1_1 l1_1.length c1_1), (.slice A1_2 l1_2.length c1_2), (.slice A1_3 l1_3.length c1_3), (.slice A1_4 l1_4.length c1_4)] 26 (0, 0))) ∧ Aside0 (w'.heap[gb249]? = some (.cells #[.int .i64 a2_0, .int .i64 a2_1, (.slice A2_2 l2_2.length c2_2), (.slice A2_3 l2_3.length c2_3), (.slice A2_4 l2_4.length c2_4), (.slice A2_5 l2_5.length c2_5), .int .i64 a2_6] 53 (0, 0))) ∧ Aside0 (Below w.heap.size w w'))
      case atStart => exact ⟨(x7_3), (0), (by first | rfl | (simp; done) | (simp [*]; done)), (by first | rfl | (simp; done) | (simp [*]; done)), H', ⟨Nat.le_refl _⟩, ⟨by (with_reducible repeat (first | refine k0_ ?_ _ | refine k1_ ?_ | refine k2_ ?_ _)); exact BK247.out⟩, ⟨by (with_reducible repeat (first | refine k0_ ?_ _ | refine k1_ ?_ | refine k2_ ?_ _)); exact BK248.out⟩, ⟨by (with_reducible repeat (first | refine k0_ ?_ _ | refine k1_ ?_ | refine k2_ ?_ _)); exact BK249.out⟩, ⟨by repeat (first | (with_reducible first | exact HB.out | apply b0_ | apply b1_ | apply b2_ | refine below_set ?_ GE247.out | refine below_set ?_ GE248.out | refine below_set ?_ GE249.out) | exact HB.out)⟩⟩
      case round =>
       clear H'
       try clear c1
       try clear c2
       try clear p2
       try clear c3
       try clear c4
       try clear c5
       try clear p6
       try clear c8
       try clear c8b0
       try clear c9
       try clear c9b0
       try clear c10
       try clear c10b0
       try clear c11
       try clear c12
       try clear c14
       try clear c15
       try clear c17
       try clear c18
       try clear c20
       try clear c21
       try clear c24
       try clear c25
       try clear c25b0
       try clear c25b1
       try clear c25b2
       try clear c26
       try clear c26b0
       try clear c26b1
       try clear c26b2
       try clear c27
       try clear c28
       try clear c30
       try clear c33
       try clear c34
       try clear c36
       try clear c39
       try clear c40
       try clear c42
       try clear c44
       try clear c45
       try clear c46
       try clear hcz13_0
       try clear hcz13_1
       try clear hcz13_2
       try clear hcz13_3
       try clear hcz13_4
       try clear hcz13_5
       try clear hcz13_6
       try clear hcz16_0
       try clear hcz16_1
       try clear hcz16_2
       try clear hcz16_3
       try clear hcz16_4
       try clear hcz16_5
       try clear hcz16_6
       try clear hcz19_0
       try clear hcz19_1
       try clear hcz19_2
       try clear hcz19_3
       try clear hcz19_4
       try clear hcz19_5
       try clear hcz19_6
       try clear hcz22_0
       try clear hcz22_1
       try clear hcz22_2
       try clear hcz22_3
       try clear hcz22_4
       try clear hcz22_5
       try clear hcz22_6
       try clear hcz29_0
       try clear hcz29_1
       try clear hcz29_2
       try clear hcz29_3
       try clear hcz29_4
       try clear hcz29_5
       try clear hcz29_6
       try clear hcz31_0
       try clear hcz31_1
       try clear hcz31_2
       try clear hcz31_3
       try clear hcz31_4
       try clear hcz32_0
       try clear hcz32_1
       try clear hcz32_2
       try clear hcz32_3
       try clear hcz32_4
       try clear hcz35_0
       try clear hcz35_1
       try clear hcz35_2
       try clear hcz35_3
       try clear hcz35_4
       try clear hcz35_5
       try clear hcz35_6
       try clear hcz37_0
       try clear hcz37_1
       try clear hcz37_2
       try clear hcz37_3
       try clear hcz37_4
       try clear hcz38_0
       try clear hcz38_1
       try clear hcz38_2
       try clear hcz38_3
       try clear hcz38_4
       try clear hcz41_0
       try clear hcz41_1
       try clear hcz41_2
       try clear hcz41_3
       try clear hcz41_4
       try clear hcz41_5
       try clear hcz41_6
       try clear hcz43_0
       try clear hcz43_1
       try clear hcz43_2
       try clear hcz43_3
       try clear hcz43_4
       try clear hcz47_0
       try clear hcz47_1
       try clear hcz47_2
       try clear hcz47_3
       try clear hcz47_4
       try clear hcz47_5
       try clear hcz47_6
       try clear hfz13_0
       try clear hfz13_1
       try clear hfz13_2
       try clear hfz13_3
       try clear hfz13_4
       try clear hfz13_5
       try clear hfz13_6
       try clear hfz16_0
       try clear hfz16_1
       try clear hfz16_2
       try clear hfz16_3
       try clear hfz16_4
       try clear hfz16_5
       try clear hfz16_6
       try clear hfz19_0
       try clear hfz19_1
       try clear hfz19_2
       try clear hfz19_3
       try clear hfz19_4
       try clear hfz19_5
       try clear hfz19_6
       try clear hfz22_0
       try clear hfz22_1
       try clear hfz22_2
       try clear hfz22_3
       try clear hfz22_4
       try clear hfz22_5
       try clear hfz22_6
       try clear hfz29_0
       try clear hfz29_1
       try clear hfz29_2
       try clear hfz29_3
       try clear hfz29_4
       try clear hfz29_5
       try clear hfz29_6
       try clear hfz31_0
       try clear hfz31_1
       try clear hfz31_2
       try clear hfz31_3
       try clear hfz31_4
       try clear hfz32_0
       try clear hfz32_1
       try clear hfz32_2
       try clear hfz32_3
       try clear hfz32_4
       try clear hfz35_0
       try clear hfz35_1
       try clear hfz35_2
       try clear hfz35_3
       try clear hfz35_4
       try clear hfz35_5
       try clear hfz35_6
       try clear hfz37_0
       try clear hfz37_1
       try clear hfz37_2
       try clear hfz37_3
       try clear hfz37_4
       try clear hfz38_0
       try clear hfz38_1
       try clear hfz38_2
       try clear hfz38_3
       try clear hfz38_4
       try clear hfz41_0
       try clear hfz41_1
       try clear hfz41_2
       try clear hfz41_3
       try clear hfz41_4
       try clear hfz41_5
       try clear hfz41_6
       try clear hfz43_0
       try clear hfz43_1
       try clear hfz43_2
       try clear hfz43_3
       try clear hfz43_4
       try clear hfz47_0
       try clear hfz47_1
       try clear hfz47_2
       try clear hfz47_3
       try clear hfz47_4
       try clear hfz47_5
       try clear hfz47_6
       try clear p2
       try clear p6
       obtain ⟨x7_3, x68_3, rfl, rfl, HA, HK3, BK247, BK248, BK249, HB⟩ := hrel
       cases gk with
       | zero => exact absurd HA.out (by simp [lift_fits.l0])
       | succ k3 =>
        have H := HA.out
        clear HA
        simp only [lift_fits.l0] at H
        by_cases c48 : x68_3 < (l2_2.length : Int)
        ·rw [if_pos c48] at H
         have c48b0 : decide (x68_3 < (l2_2.length : Int)) = true := decide_eq_true c48
         clear c48
         by_cases c49 : 0 ≤ x68_3
         ·rw [if_pos c49] at H
          have c49b0 : decide (0 ≤ x68_3) = true := decide_eq_true c49
          clear c49
          by_cases c50 : x68_3 < (l2_2.length : Int)
          ·rw [if_pos c50] at H
           have c50b0 : decide (x68_3 < (l2_2.length : Int)) = true := decide_eq_true c50
           clear c50
           by_cases c51 : x7_3 = true
           ·subst c51
            have H1 : (if (rd l2_2 x68_3) = 0 then (lift_fits.l0 k3 true l2_2 (l2_2.length : Int) (wrap64 (x68_3 + 1)) a0_0 l0_1 l0_2 l0_3 l0_4 a1_0 l1_1 l1_2 l1_3 l1_4 a2_0 a2_1 l2_2 l2_3 l2_4 l2_5 a2_6) else (if (rd l2_2 x68_3) = 1 then (lift_fits.l0 k3 true l2_2 (l2_2.length : Int) (wrap64 (x68_3 + 1)) a0_0 l0_1 l0_2 l0_3 l0_4 a1_0 l1_1 l1_2 l1_3 l1_4 a2_0 a2_1 l2_2 l2_3 l2_4 l2_5 a2_6) else ((lift_isLatch.f a1_0 l1_1 l1_2 l1_3 l1_4 (rd l2_2 x68_3)).bind fun t251 => (lift_fits.l0 k3 t251 l2_2 (l2_2.length : Int) (wrap64 (x68_3 + 1)) a0_0 l0_1 l0_2 l0_3 l0_4 a1_0 l1_1 l1_2 l1_3 l1_4 a2_0 a2_1 l2_2 l2_3 l2_4 l2_5 a2_6)))) = some r := by rw [if_pos rfl] at H; exact H
            clear H
            have H := H1
            clear H1
            by_cases c52 : (rd l2_2 x68_3) = 0
            ·rw [if_pos c52] at H
             have c52b0 : ((rd l2_2 x68_3) == 0) = true := beq_iff_eq.mpr c52
             have c52b1 : ((rd l2_2 x68_3) != 0) = false := bne_eq_false_iff_eq.mpr c52
             clear c52
             have H' := M_ H
             clear H
             have p250 : 0 ≤ (x68_3 : Int) := of_decide_eq_true (by first | (with_reducible assumption) | assumption)
             have q250 : x68_3 < (l2_2.length : Int) := of_decide_eq_true (by first | (with_reducible assumption) | assumption)
             obtain ⟨ad250, e250, hx250_0⟩ := Kd.at_int HR2_2.out x68_3 p250 q250
             cases e250
             replace hx250_0 := (HB.out.cell (World.block_lt_of_cell? w _ hx250_0)).trans hx250_0
             replace p250 := eq_true p250
             replace q250 := eq_true q250
             go_wp2
             go_roundg k3
             case measure => have := HJ3.out; have := HJ22.out; have := HK3.out; omega
             case rel => exact ⟨(true), (wrap64 (x68_3 + 1)), (by first | rfl | (simp; done) | (simp [*]; done)), (by first | rfl | (simp; done) | (simp [*]; done)), H', ⟨by have := HJ3.out; have := HJ22.out; have := HK3.out; omega⟩, ⟨by (with_reducible repeat (first | refine k0_ ?_ _ | refine k1_ ?_ | refine k2_ ?_ _)); exact BK247.out⟩, ⟨by (with_reducible repeat (first | refine k0_ ?_ _ | refine k1_ ?_ | refine k2_ ?_ _)); exact BK248.out⟩, ⟨by (with_reducible repeat (first | refine k0_ ?_ _ | refine k1_ ?_ | refine k2_ ?_ _)); exact BK249.out⟩, ⟨by repeat (first | (with_reducible first | exact HB.out | apply b0_ | apply b1_ | apply b2_ | refine below_set ?_ GE247.out | refine below_set ?_ GE248.out | refine below_set ?_ GE249.out) | exact HB.out)⟩⟩
            ·rw [if_neg c52] at H
             have c52b0 : ((rd l2_2 x68_3) == 0) = false := beq_eq_false_iff_ne.mpr c52
             have c52b1 : ((rd l2_2 x68_3) != 0) = true := bne_iff_ne.mpr c52
             by_cases c53 : (rd l2_2 x68_3) = 1
             ·rw [if_pos c53] at H
              have c53b0 : ((rd l2_2 x68_3) == 1) = true := beq_iff_eq.mpr c53
              have c53b1 : ((rd l2_2 x68_3) != 1) = false := bne_eq_false_iff_eq.mpr c53
              clear c53
              have H' := M_ H
              clear H
              have p250 : 0 ≤ (x68_3 : Int) := of_decide_eq_true (by first | (with_reducible assumption) | assumption)
              have q250 : x68_3 < (l2_2.length : Int) := of_decide_eq_true (by first | (with_reducible assumption) | assumption)
              obtain ⟨ad250, e250, hx250_0⟩ := Kd.at_int HR2_2.out x68_3 p250 q250
              cases e250
              replace hx250_0 := (HB.out.cell (World.block_lt_of_cell? w _ hx250_0)).trans hx250_0
              replace p250 := eq_true p250
              replace q250 := eq_true q250
              go_wp2
              go_roundg k3
              case measure => have := HJ3.out; have := HJ22.out; have := HK3.out; omega
              case rel => exact ⟨(true), (wrap64 (x68_3 + 1)), (by first | rfl | (simp; done) | (simp [*]; done)), (by first | rfl | (simp; done) | (simp [*]; done)), H', ⟨by have := HJ3.out; have := HJ22.out; have := HK3.out; omega⟩, ⟨by (with_reducible repeat (first | refine k0_ ?_ _ | refine k1_ ?_ | refine k2_ ?_ _)); exact BK247.out⟩, ⟨by (with_reducible repeat (first | refine k0_ ?_ _ | refine k1_ ?_ | refine k2_ ?_ _)); exact BK248.out⟩, ⟨by (with_reducible repeat (first | refine k0_ ?_ _ | refine k1_ ?_ | refine k2_ ?_ _)); exact BK249.out⟩, ⟨by repeat (first | (with_reducible first | exact HB.out | apply b0_ | apply b1_ | apply b2_ | refine below_set ?_ GE247.out | refine below_set ?_ GE248.out | refine below_set ?_ GE249.out) | exact HB.out)⟩⟩
             ·rw [if_neg c53] at H
              have c53b0 : ((rd l2_2 x68_3) == 1) = false := beq_eq_false_iff_ne.mpr c53
              have c53b1 : ((rd l2_2 x68_3) != 1) = true := bne_iff_ne.mpr c53
              replace H := Option.bind_eq_some_iff.mp H
              obtain ⟨t251, A540, H⟩ := H
              replace H : (lift_fits.l0 k3 t251 l2_2 (l2_2.length : Int) (wrap64 (x68_3 + 1)) a0_0 l0_1 l0_2 l0_3 l0_4 a1_0 l1_1 l1_2 l1_3 l1_4 a2_0 a2_1 l2_2 l2_3 l2_4 l2_5 a2_6) = some r := H
              have A54 := M_ A540
              clear A540
              have H' := M_ H
              clear H
              have p250 : 0 ≤ (x68_3 : Int) := of_decide_eq_true (by first | (with_reducible assumption) | assumption)
              have q250 : x68_3 < (l2_2.length : Int) := of_decide_eq_true (by first | (with_reducible assumption) | assumption)
              obtain ⟨ad250, e250, hx250_0⟩ := Kd.at_int HR2_2.out x68_3 p250 q250
              cases e250
              replace hx250_0 := (HB.out.cell (World.block_lt_of_cell? w _ hx250_0)).trans hx250_0
              replace p250 := eq_true p250
              replace q250 := eq_true q250
              have hnb55 := NB248_247.out
              have hnc55 := NB247_248.out
              have hnb56 := NB248_249.out
              have hnc56 := NB249_248.out
              have hcz57_0 : wr.cell? ⟨gb248, 0, none⟩ = some (.int .i64 a1_0) := (blk_cell BK248.out 0).trans rfl
              have hcz57_1 : wr.cell? ⟨gb248, 1, none⟩ = some (.slice A1_1 l1_1.length c1_1) := (blk_cell BK248.out 1).trans rfl
              have hcz57_2 : wr.cell? ⟨gb248, 2, none⟩ = some (.slice A1_2 l1_2.length c1_2) := (blk_cell BK248.out 2).trans rfl
              have hcz57_3 : wr.cell? ⟨gb248, 3, none⟩ = some (.slice A1_3 l1_3.length c1_3) := (blk_cell BK248.out 3).trans rfl
              have hcz57_4 : wr.cell? ⟨gb248, 4, none⟩ = some (.slice A1_4 l1_4.length c1_4) := (blk_cell BK248.out 4).trans rfl
              have hfz57_0 := blk_frozen BK248.out 0
              have hfz57_1 := blk_frozen BK248.out 1
              have hfz57_2 := blk_frozen BK248.out 2
              have hfz57_3 := blk_frozen BK248.out 3
              have hfz57_4 := blk_frozen BK248.out 4
              go_wp2_with (first | (go_at_call 70; (with_reducible refine (lift_isLatch.calls a1_0 _ _ l1_1 _ _ l1_2 _ _ l1_3 _ _ l1_4 (rd l2_2 x68_3) t251 _ ?side1 ?side2 ?side3 ?side4 ?side5 ?side6 ?side7 ?side8 A54.out).mono ?_); (case side1 => repeat (first | exact (Kd.C_below HR1_1.out HB.out) | (with_reducible refine c0_ ?_ _) | (with_reducible refine c1_ ?_ _) | (with_reducible refine c2_ ?_))); (case side2 => exact HC1_1.out); (case side3 => repeat (first | exact (Kd.C_below HR1_2.out HB.out) | (with_reducible refine c0_ ?_ _) | (with_reducible refine c1_ ?_ _) | (with_reducible refine c2_ ?_))); (case side4 => exact HC1_2.out); (case side5 => repeat (first | exact (Kd.C_below HR1_3.out HB.out) | (with_reducible refine c0_ ?_ _) | (with_reducible refine c1_ ?_ _) | (with_reducible refine c2_ ?_))); (case side6 => exact HC1_3.out); (case side7 => repeat (first | exact (Kd.C_below HR1_4.out HB.out) | (with_reducible refine c0_ ?_ _) | (with_reducible refine c1_ ?_ _) | (with_reducible refine c2_ ?_))); (case side8 => exact HC1_4.out); rintro e w58 ⟨rfl, hb⟩; have n0_ := M_ (blk_below (g := gb247) (o := .cells #[.int .i64 a0_0, .slice A0_1 l0_1.length c0_1, .slice A0_2 l0_2.length c0_2, .slice A0_3 l0_3.length c0_3, .slice A0_4 l0_4.length c0_4] 26 (0, 0)) (by (with_reducible repeat (first | refine k0_ ?_ _ | refine k1_ ?_ | refine k2_ ?_ _)); exact BK247.out) hb); have n1_ := M_ (blk_below (g := gb248) (o := .cells #[.int .i64 a1_0, .slice A1_1 l1_1.length c1_1, .slice A1_2 l1_2.length c1_2, .slice A1_3 l1_3.length c1_3, .slice A1_4 l1_4.length c1_4] 26 (0, 0)) (by (with_reducible repeat (first | refine k0_ ?_ _ | refine k1_ ?_ | refine k2_ ?_ _)); exact BK248.out) hb); have n2_ := M_ (blk_below (g := gb249) (o := .cells #[.int .i64 a2_0, .int .i64 a2_1, .slice (some ad250) l2_2.length c2_2, .slice A2_3 l2_3.length c2_3, .slice A2_4 l2_4.length c2_4, .slice A2_5 l2_5.length c2_5, .int .i64 a2_6] 53 (0, 0)) (by (with_reducible repeat (first | refine k0_ ?_ _ | refine k1_ ?_ | refine k2_ ?_ _)); exact BK249.out) hb); have n3_ := M_ (below_step (by repeat (first | (with_reducible first | exact HB.out | apply b0_ | apply b1_ | apply b2_ | refine below_set ?_ GE247.out | refine below_set ?_ GE248.out | refine below_set ?_ GE249.out) | exact HB.out)) hb); clear BK247; clear BK248; clear BK249; clear HB; have BK247 := n0_; have BK248 := n1_; have BK249 := n2_; have HB := n3_; clear n0_ n1_ n2_ n3_; (try clear hb); (try clear hb2); (try clear hk); (try clear hi)))
              go_roundg k3
              case measure => have := HJ3.out; have := HJ22.out; have := HK3.out; omega
              case rel => exact ⟨(t251), (wrap64 (x68_3 + 1)), (by first | rfl | (simp; done) | (simp [*]; done)), (by first | rfl | (simp; done) | (simp [*]; done)), H', ⟨by have := HJ3.out; have := HJ22.out; have := HK3.out; omega⟩, ⟨by (with_reducible repeat (first | refine k0_ ?_ _ | refine k1_ ?_ | refine k2_ ?_ _)); exact BK247.out⟩, ⟨by (with_reducible repeat (first | refine k0_ ?_ _ | refine k1_ ?_ | refine k2_ ?_ _)); exact BK248.out⟩, ⟨by (with_reducible repeat (first | refine k0_ ?_ _ | refine k1_ ?_ | refine k2_ ?_ _)); exact BK249.out⟩, ⟨by repeat (first | (with_reducible first | exact HB.out | apply b0_ | apply b1_ | apply b2_ | refine below_set ?_ GE247.out | refine below_set ?_ GE248.out | refine below_set ?_ GE249.out) | exact HB.out)⟩⟩
           ·replace c51 := Bool.eq_false_iff.mpr c51
            subst c51
            have H1 : (lift_fits.l0 k3 false l2_2 (l2_2.length : Int) (wrap64 (x68_3 + 1)) a0_0 l0_1 l0_2 l0_3 l0_4 a1_0 l1_1 l1_2 l1_3 l1_4 a2_0 a2_1 l2_2 l2_3 l2_4 l2_5 a2_6) = some r := by rw [if_neg (show ¬ (false = true) by decide)] at H; exact H
            clear H
            have H := H1
            clear H1
            have H' := M_ H
            clear H
            have p250 : 0 ≤ (x68_3 : Int) := of_decide_eq_true (by first | (with_reducible assumption) | assumption)
            have q250 : x68_3 < (l2_2.length : Int) := of_decide_eq_true (by first | (with_reducible assumption) | assumption)
            obtain ⟨ad250, e250, hx250_0⟩ := Kd.at_int HR2_2.out x68_3 p250 q250
            cases e250
            replace hx250_0 := (HB.out.cell (World.block_lt_of_cell? w _ hx250_0)).trans hx250_0
            replace p250 := eq_true p250
            replace q250 := eq_true q250
            go_wp2
            go_roundg k3
            case measure => have := HJ3.out; have := HJ22.out; have := HK3.out; omega
            case rel => exact ⟨(false), (wrap64 (x68_3 + 1)), (by first | rfl | (simp; done) | (simp [*]; done)), (by first | rfl | (simp; done) | (simp [*]; done)), H', ⟨by have := HJ3.out; have := HJ22.out; have := HK3.out; omega⟩, ⟨by (with_reducible repeat (first | refine k0_ ?_ _ | refine k1_ ?_ | refine k2_ ?_ _)); exact BK247.out⟩, ⟨by (with_reducible repeat (first | refine k0_ ?_ _ | refine k1_ ?_ | refine k2_ ?_ _)); exact BK248.out⟩, ⟨by (with_reducible repeat (first | refine k0_ ?_ _ | refine k1_ ?_ | refine k2_ ?_ _)); exact BK249.out⟩, ⟨by repeat (first | (with_reducible first | exact HB.out | apply b0_ | apply b1_ | apply b2_ | refine below_set ?_ GE247.out | refine below_set ?_ GE248.out | refine below_set ?_ GE249.out) | exact HB.out)⟩⟩
          ·rw [if_neg c50] at H
           exact absurd H (by simp)
         ·rw [if_neg c49] at H
          exact absurd H (by simp)
        ·rw [if_neg c48] at H
         have c48b0 : decide (x68_3 < (l2_2.length : Int)) = false := decide_eq_false c48
         clear c48
         have H' := M_ H
         clear H
         have hnb59 := NB249_247.out
         have hnc59 := NB247_249.out
         have hnb60 := NB249_248.out
         have hnc60 := NB248_249.out
         have hcz61_0 : wr.cell? ⟨gb249, 0, none⟩ = some (.int .i64 a2_0) := (blk_cell BK249.out 0).trans rfl
         have hcz61_1 : wr.cell? ⟨gb249, 1, none⟩ = some (.int .i64 a2_1) := (blk_cell BK249.out 1).trans rfl
         have hcz61_2 : wr.cell? ⟨gb249, 2, none⟩ = some (.slice A2_2 l2_2.length c2_2) := (blk_cell BK249.out 2).trans rfl
         have hcz61_3 : wr.cell? ⟨gb249, 3, none⟩ = some (.slice A2_3 l2_3.length c2_3) := (blk_cell BK249.out 3).trans rfl
         have hcz61_4 : wr.cell? ⟨gb249, 4, none⟩ = some (.slice A2_4 l2_4.length c2_4) := (blk_cell BK249.out 4).trans rfl
         have hcz61_5 : wr.cell? ⟨gb249, 5, none⟩ = some (.slice A2_5 l2_5.length c2_5) := (blk_cell BK249.out 5).trans rfl
         have hcz61_6 : wr.cell? ⟨gb249, 6, none⟩ = some (.int .i64 a2_6) := (blk_cell BK249.out 6).trans rfl
         have hfz61_0 := blk_frozen BK249.out 0
         have hfz61_1 := blk_frozen BK249.out 1
         have hfz61_2 := blk_frozen BK249.out 2
         have hfz61_3 := blk_frozen BK249.out 3
         have hfz61_4 := blk_frozen BK249.out 4
         have hfz61_5 := blk_frozen BK249.out 5
         have hfz61_6 := blk_frozen BK249.out 6
         go_wp2
         go_loopg [7, 90] k3 (fun kq v7 v90 w' => ∃ (x7_4 : Bool) (x90_4 : Int), v7 = .bool x7_4 ∧ v90 = .int .i64 x90_4 ∧ Aside0 (lift_fits.l1 kq x7_4 l2_3 (l2_3.length : Int) x90_4 a0_0 l0_1 l0_2 l0_3 l0_4 a1_0 l1_1 l1_2 l1_3 l1_4 a2_0 a2_1 l2_2 l2_3 l2_4 l2_5 a2_6 = some r) ∧ Aside0 (kq ≤ k3) ∧ Aside0 (w'.heap[gb247]? = some (.cells #[.int .i64 a0_0, (.slice A0_1 l0_1.length c0_1), (.slice A0_2 l0_2.length c0_2), (.slice A0_3 l0_3.length c0_3), (.slice A0_4 l0_4.length c0_4)] 26 (0, 0))) ∧ Aside0 (w'.heap[gb248]? = some (.cells #[.int .i64 a1_0, (.slice A1_1 l1_1.length c1_1), (.slice A1_2 l1_2.length c1_2), (.slice A1_3 l1_3.length c1_3), (.slice A1_4 l1_4.length c1_4)] 26 (0, 0))) ∧ Aside0 (w'.heap[gb249]? = some (.cells #[.int .i64 a2_0, .int .i64 a2_1, (.slice A2_2 l2_2.length c2_2), (.slice A2_3 l2_3.length c2_3), (.slice A2_4 l2_4.length c2_4), (.slice A2_5 l2_5.length c2_5), .int .i64 a2_6] 53 (0, 0))) ∧ Aside0 (Below w.heap.size w w'))
         case atStart => exact ⟨(x7_3), (0), (by first | rfl | (simp; done) | (simp [*]; done)), (by first | rfl | (simp; done) | (simp [*]; done)), H', ⟨Nat.le_refl _⟩, ⟨by (with_reducible repeat (first | refine k0_ ?_ _ | refine k1_ ?_ | refine k2_ ?_ _)); exact BK247.out⟩, ⟨by (with_reducible repeat (first | refine k0_ ?_ _ | refine k1_ ?_ | refine k2_ ?_ _)); exact BK248.out⟩, ⟨by (with_reducible repeat (first | refine k0_ ?_ _ | refine k1_ ?_ | refine k2_ ?_ _)); exact BK249.out⟩, ⟨by repeat (first | (with_reducible first | exact HB.out | apply b0_ | apply b1_ | apply b2_ | refine below_set ?_ GE247.out | refine below_set ?_ GE248.out | refine below_set ?_ GE249.out) | exact HB.out)⟩⟩
         case round =>
          clear H'
          try clear c1
          try clear c2
          try clear p2
          try clear q2
          try clear hx2
          try clear c3
          try clear c4
          try clear c5
          try clear c6
          try clear p6
          try clear c8
          try clear c8b0
          try clear c9
          try clear c9b0
          try clear c10
          try clear c10b0
          try clear c11
          try clear c12
          try clear c14
          try clear c15
          try clear c17
          try clear c18
          try clear c20
          try clear c21
          try clear c24
          try clear c25
          try clear c25b0
          try clear c25b1
          try clear c25b2
          try clear p25
          try clear q25
          try clear hx25
          try clear c26
          try clear c26b0
          try clear c26b1
          try clear c26b2
          try clear c27
          try clear c28
          try clear c30
          try clear c33
          try clear c34
          try clear c36
          try clear c39
          try clear c40
          try clear c42
          try clear c44
          try clear c45
          try clear c46
          try clear c48
          try clear c48b0
          try clear c49
          try clear c49b0
          try clear c50
          try clear c50b0
          try clear c51
          try clear c52
          try clear c52b0
          try clear c52b1
          try clear c53
          try clear c53b0
          try clear c53b1
          try clear c55
          try clear c56
          try clear c59
          try clear c60
          try clear hcz13_0
          try clear hcz13_1
          try clear hcz13_2
          try clear hcz13_3
          try clear hcz13_4
          try clear hcz13_5
          try clear hcz13_6
          try clear hcz16_0
          try clear hcz16_1
          try clear hcz16_2
          try clear hcz16_3
          try clear hcz16_4
          try clear hcz16_5
          try clear hcz16_6
          try clear hcz19_0
          try clear hcz19_1
          try clear hcz19_2
          try clear hcz19_3
          try clear hcz19_4
          try clear hcz19_5
          try clear hcz19_6
          try clear hcz22_0
          try clear hcz22_1
          try clear hcz22_2
          try clear hcz22_3
          try clear hcz22_4
          try clear hcz22_5
          try clear hcz22_6
          try clear hcz29_0
          try clear hcz29_1
          try clear hcz29_2
          try clear hcz29_3
          try clear hcz29_4
          try clear hcz29_5
          try clear hcz29_6
          try clear hcz31_0
          try clear hcz31_1
          try clear hcz31_2
          try clear hcz31_3
          try clear hcz31_4
          try clear hcz32_0
          try clear hcz32_1
          try clear hcz32_2
          try clear hcz32_3
          try clear hcz32_4
          try clear hcz35_0
          try clear hcz35_1
          try clear hcz35_2
          try clear hcz35_3
          try clear hcz35_4
          try clear hcz35_5
          try clear hcz35_6
          try clear hcz37_0
          try clear hcz37_1
          try clear hcz37_2
          try clear hcz37_3
          try clear hcz37_4
          try clear hcz38_0
          try clear hcz38_1
          try clear hcz38_2
          try clear hcz38_3
          try clear hcz38_4
          try clear hcz41_0
          try clear hcz41_1
          try clear hcz41_2
          try clear hcz41_3
          try clear hcz41_4
          try clear hcz41_5
          try clear hcz41_6
          try clear hcz43_0
          try clear hcz43_1
          try clear hcz43_2
          try clear hcz43_3
          try clear hcz43_4
          try clear hcz47_0
          try clear hcz47_1
          try clear hcz47_2
          try clear hcz47_3
          try clear hcz47_4
          try clear hcz47_5
          try clear hcz47_6
          try clear hcz57_0
          try clear hcz57_1
          try clear hcz57_2
          try clear hcz57_3
          try clear hcz57_4
          try clear hcz61_0
          try clear hcz61_1
          try clear hcz61_2
          try clear hcz61_3
          try clear hcz61_4
          try clear hcz61_5
          try clear hcz61_6
          try clear hfz13_0
          try clear hfz13_1
          try clear hfz13_2
          try clear hfz13_3
          try clear hfz13_4
          try clear hfz13_5
          try clear hfz13_6
          try clear hfz16_0
          try clear hfz16_1
          try clear hfz16_2
          try clear hfz16_3
          try clear hfz16_4
          try clear hfz16_5
          try clear hfz16_6
          try clear hfz19_0
          try clear hfz19_1
          try clear hfz19_2
          try clear hfz19_3
          try clear hfz19_4
          try clear hfz19_5
          try clear hfz19_6
          try clear hfz22_0
          try clear hfz22_1
          try clear hfz22_2
          try clear hfz22_3
          try clear hfz22_4
          try clear hfz22_5
          try clear hfz22_6
          try clear hfz29_0
          try clear hfz29_1
          try clear hfz29_2
          try clear hfz29_3
          try clear hfz29_4
          try clear hfz29_5
          try clear hfz29_6
          try clear hfz31_0
          try clear hfz31_1
          try clear hfz31_2
          try clear hfz31_3
          try clear hfz31_4
          try clear hfz32_0
          try clear hfz32_1
          try clear hfz32_2
          try clear hfz32_3
          try clear hfz32_4
          try clear hfz35_0
          try clear hfz35_1
          try clear hfz35_2
          try clear hfz35_3
          try clear hfz35_4
          try clear hfz35_5
          try clear hfz35_6
          try clear hfz37_0
          try clear hfz37_1
          try clear hfz37_2
          try clear hfz37_3
          try clear hfz37_4
          try clear hfz38_0
          try clear hfz38_1
          try clear hfz38_2
          try clear hfz38_3
          try clear hfz38_4
          try clear hfz41_0
          try clear hfz41_1
          try clear hfz41_2
          try clear hfz41_3
          try clear hfz41_4
          try clear hfz41_5
          try clear hfz41_6
          try clear hfz43_0
          try clear hfz43_1
          try clear hfz43_2
          try clear hfz43_3
          try clear hfz43_4
          try clear hfz47_0
          try clear hfz47_1
          try clear hfz47_2
          try clear hfz47_3
          try clear hfz47_4
          try clear hfz47_5
          try clear hfz47_6
          try clear hfz57_0
          try clear hfz57_1
          try clear hfz57_2
          try clear hfz57_3
          try clear hfz57_4
          try clear hfz61_0
          try clear hfz61_1
          try clear hfz61_2
          try clear hfz61_3
          try clear hfz61_4
          try clear hfz61_5
          try clear hfz61_6
          try clear hx250_0
          try clear p2
          try clear p250
          try clear p6
          try clear q250
          obtain ⟨x7_4, x90_4, rfl, rfl, HA, HK4, BK247, BK248, BK249, HB⟩ := hrel
          cases gk with
          | zero => exact absurd HA.out (by simp [lift_fits.l1])
          | succ k4 =>
           have H := HA.out
           clear HA
           simp only [lift_fits.l1] at H
           by_cases c62 : x90_4 < (l2_3.length : Int)
           ·rw [if_pos c62] at H
            have c62b0 : decide (x90_4 < (l2_3.length : Int)) = true := decide_eq_true c62
            clear c62
            by_cases c63 : 0 ≤ x90_4
            ·rw [if_pos c63] at H
             have c63b0 : decide (0 ≤ x90_4) = true := decide_eq_true c63
             clear c63
             by_cases c64 : x90_4 < (l2_3.length : Int)
             ·rw [if_pos c64] at H
              have c64b0 : decide (x90_4 < (l2_3.length : Int)) = true := decide_eq_true c64
              clear c64
              have HC65 := M_ H
              clear H
              have p252 : 0 ≤ (x90_4 : Int) := of_decide_eq_true (by first | (with_reducible assumption) | assumption)
              have q252 : x90_4 < (l2_3.length : Int) := of_decide_eq_true (by first | (with_reducible assumption) | assumption)
              obtain ⟨ad252, A252_0, c252_0, e252, hx252_0, hl252_0, hi252_0⟩ := at_L4 HR2_3.out x90_4 p252 q252
              cases e252
              replace hx252_0 := (HB.out.cell (World.block_lt_of_cell? w _ hx252_0)).trans hx252_0
              have HR252_0 := M_ hi252_0
              have HC252_0 := M_ hl252_0
              clear hi252_0 hl252_0
              replace p252 := eq_true p252
              replace q252 := eq_true q252
              go_upto_region 12 with (fail)
              go_cut [7] (fun v7 wc => ∃ (kq : Nat) (x7_64 : Bool), v7 = .bool x7_64 ∧ Aside0 (lift_fits.j4 kq x7_64 (rd_L4 l2_3 x90_4) l2_3 (l2_3.length : Int) x90_4 a0_0 l0_1 l0_2 l0_3 l0_4 a1_0 l1_1 l1_2 l1_3 l1_4 a2_0 a2_1 l2_2 l2_3 l2_4 l2_5 a2_6 = some r) ∧ Aside0 (kq ≤ k4) ∧ Aside0 (wc.heap[gb247]? = some (.cells #[.int .i64 a0_0, (.slice A0_1 l0_1.length c0_1), (.slice A0_2 l0_2.length c0_2), (.slice A0_3 l0_3.length c0_3), (.slice A0_4 l0_4.length c0_4)] 26 (0, 0))) ∧ Aside0 (wc.heap[gb248]? = some (.cells #[.int .i64 a1_0, (.slice A1_1 l1_1.length c1_1), (.slice A1_2 l1_2.length c1_2), (.slice A1_3 l1_3.length c1_3), (.slice A1_4 l1_4.length c1_4)] 26 (0, 0))) ∧ Aside0 (wc.heap[gb249]? = some (.cells #[.int .i64 a2_0, .int .i64 a2_1, (.slice A2_2 l2_2.length c2_2), (.slice (some ad252) l2_3.length c2_3), (.slice A2_4 l2_4.length c2_4), (.slice A2_5 l2_5.length c2_5), .int .i64 a2_6] 53 (0, 0))) ∧ Aside0 (Below w.heap.size w wc))
              case first =>
               have H := HC65.out
               clear HC65
               by_cases c66 : x7_4 = true
               ·subst c66
                have H1 : (lift_fits.j4 k4 (((rd_L4 l2_3 x90_4).length : Int) == a0_0) (rd_L4 l2_3 x90_4) l2_3 (l2_3.length : Int) x90_4 a0_0 l0_1 l0_2 l0_3 l0_4 a1_0 l1_1 l1_2 l1_3 l1_4 a2_0 a2_1 l2_2 l2_3 l2_4 l2_5 a2_6) = some r := by rw [if_pos rfl] at H; exact H
                clear H
                have H := H1
                clear H1
                have H' := M_ H
                clear H
                have hnb67 := NB247_248.out
                have hnc67 := NB248_247.out
                have hnb68 := NB247_249.out
                have hnc68 := NB249_247.out
                have hcz69_0 : wr.cell? ⟨gb247, 0, none⟩ = some (.int .i64 a0_0) := (blk_cell BK247.out 0).trans rfl
                have hcz69_1 : wr.cell? ⟨gb247, 1, none⟩ = some (.slice A0_1 l0_1.length c0_1) := (blk_cell BK247.out 1).trans rfl
                have hcz69_2 : wr.cell? ⟨gb247, 2, none⟩ = some (.slice A0_2 l0_2.length c0_2) := (blk_cell BK247.out 2).trans rfl
                have hcz69_3 : wr.cell? ⟨gb247, 3, none⟩ = some (.slice A0_3 l0_3.length c0_3) := (blk_cell BK247.out 3).trans rfl
                have hcz69_4 : wr.cell? ⟨gb247, 4, none⟩ = some (.slice A0_4 l0_4.length c0_4) := (blk_cell BK247.out 4).trans rfl
                have hfz69_0 := blk_frozen BK247.out 0
                have hfz69_1 := blk_frozen BK247.out 1
                have hfz69_2 := blk_frozen BK247.out 2
                have hfz69_3 := blk_frozen BK247.out 3
                have hfz69_4 := blk_frozen BK247.out 4
                go_wp2
                go_meet
                case rel => exact ⟨_, ((((rd_L4 l2_3 x90_4).length : Int) == a0_0)), (by first | rfl | (simp; done) | (simp [*]; done)), H', ⟨by have := HJ3.out; have := HJ22.out; have := HK3.out; have := HK4.out; first | omega | exact Nat.le_refl _⟩, ⟨by (with_reducible repeat (first | refine k0_ ?_ _ | refine k1_ ?_ | refine k2_ ?_ _)); exact BK247.out⟩, ⟨by (with_reducible repeat (first | refine k0_ ?_ _ | refine k1_ ?_ | refine k2_ ?_ _)); exact BK248.out⟩, ⟨by (with_reducible repeat (first | refine k0_ ?_ _ | refine k1_ ?_ | refine k2_ ?_ _)); exact BK249.out⟩, ⟨by repeat (first | (with_reducible first | exact HB.out | apply b0_ | apply b1_ | apply b2_ | refine below_set ?_ GE247.out | refine below_set ?_ GE248.out | refine below_set ?_ GE249.out) | exact HB.out)⟩⟩
               ·replace c66 := Bool.eq_false_iff.mpr c66
                subst c66
                have H1 : (lift_fits.j4 k4 false (rd_L4 l2_3 x90_4) l2_3 (l2_3.length : Int) x90_4 a0_0 l0_1 l0_2 l0_3 l0_4 a1_0 l1_1 l1_2 l1_3 l1_4 a2_0 a2_1 l2_2 l2_3 l2_4 l2_5 a2_6) = some r := by rw [if_neg (show ¬ (false = true) by decide)] at H; exact H
                clear H
                have H := H1
                clear H1
                have H' := M_ H
                clear H
                go_wp2
                go_meet
                case rel => exact ⟨_, (false), (by first | rfl | (simp; done) | (simp [*]; done)), H', ⟨by have := HJ3.out; have := HJ22.out; have := HK3.out; have := HK4.out; first | omega | exact Nat.le_refl _⟩, ⟨by (with_reducible repeat (first | refine k0_ ?_ _ | refine k1_ ?_ | refine k2_ ?_ _)); exact BK247.out⟩, ⟨by (with_reducible repeat (first | refine k0_ ?_ _ | refine k1_ ?_ | refine k2_ ?_ _)); exact BK248.out⟩, ⟨by (with_reducible repeat (first | refine k0_ ?_ _ | refine k1_ ?_ | refine k2_ ?_ _)); exact BK249.out⟩, ⟨by repeat (first | (with_reducible first | exact HB.out | apply b0_ | apply b1_ | apply b2_ | refine below_set ?_ GE247.out | refine below_set ?_ GE248.out | refine below_set ?_ GE249.out) | exact HB.out)⟩⟩
              case rest =>
               clear HC65
               try clear c1
               try clear c2
               try clear p2
               try clear q2
               try clear hx2
               try clear c3
               try clear c4
               try clear c5
               try clear c6
               try clear p6
               try clear c8
               try clear c8b0
               try clear c9
               try clear c9b0
               try clear c10
               try clear c10b0
               try clear c11
               try clear c12
               try clear c14
               try clear c15
               try clear c17
               try clear c18
               try clear c20
               try clear c21
               try clear c24
               try clear c25
               try clear c25b0
               try clear c25b1
               try clear c25b2
               try clear p25
               try clear q25
               try clear hx25
               try clear c26
               try clear c26b0
               try clear c26b1
               try clear c26b2
               try clear c27
               try clear c28
               try clear c30
               try clear c33
               try clear c34
               try clear c36
               try clear c39
               try clear c40
               try clear c42
               try clear c44
               try clear c45
               try clear c46
               try clear c48
               try clear c48b0
               try clear c49
               try clear c49b0
               try clear c50
               try clear c50b0
               try clear c51
               try clear c52
               try clear c52b0
               try clear c52b1
               try clear c53
               try clear c53b0
               try clear c53b1
               try clear c55
               try clear c56
               try clear c59
               try clear c60
               try clear c62
               try clear c62b0
               try clear c63
               try clear c63b0
               try clear c64
               try clear c64b0
               try clear p64
               try clear c66
               try clear c67
               try clear c68
               try clear hcz13_0
               try clear hcz13_1
               try clear hcz13_2
               try clear hcz13_3
               try clear hcz13_4
               try clear hcz13_5
               try clear hcz13_6
               try clear hcz16_0
               try clear hcz16_1
               try clear hcz16_2
               try clear hcz16_3
               try clear hcz16_4
               try clear hcz16_5
               try clear hcz16_6
               try clear hcz19_0
               try clear hcz19_1
               try clear hcz19_2
               try clear hcz19_3
               try clear hcz19_4
               try clear hcz19_5
               try clear hcz19_6
               try clear hcz22_0
               try clear hcz22_1
               try clear hcz22_2
               try clear hcz22_3
               try clear hcz22_4
               try clear hcz22_5
               try clear hcz22_6
               try clear hcz29_0
               try clear hcz29_1
               try clear hcz29_2
               try clear hcz29_3
               try clear hcz29_4
               try clear hcz29_5
               try clear hcz29_6
               try clear hcz31_0
               try clear hcz31_1
               try clear hcz31_2
               try clear hcz31_3
               try clear hcz31_4
               try clear hcz32_0
               try clear hcz32_1
               try clear hcz32_2
               try clear hcz32_3
               try clear hcz32_4
               try clear hcz35_0
               try clear hcz35_1
               try clear hcz35_2
               try clear hcz35_3
               try clear hcz35_4
               try clear hcz35_5
               try clear hcz35_6
               try clear hcz37_0
               try clear hcz37_1
               try clear hcz37_2
               try clear hcz37_3
               try clear hcz37_4
               try clear hcz38_0
               try clear hcz38_1
               try clear hcz38_2
               try clear hcz38_3
               try clear hcz38_4
               try clear hcz41_0
               try clear hcz41_1
               try clear hcz41_2
               try clear hcz41_3
               try clear hcz41_4
               try clear hcz41_5
               try clear hcz41_6
               try clear hcz43_0
               try clear hcz43_1
               try clear hcz43_2
               try clear hcz43_3
               try clear hcz43_4
               try clear hcz47_0
               try clear hcz47_1
               try clear hcz47_2
               try clear hcz47_3
               try clear hcz47_4
               try clear hcz47_5
               try clear hcz47_6
               try clear hcz57_0
               try clear hcz57_1
               try clear hcz57_2
               try clear hcz57_3
               try clear hcz57_4
               try clear hcz61_0
               try clear hcz61_1
               try clear hcz61_2
               try clear hcz61_3
               try clear hcz61_4
               try clear hcz61_5
               try clear hcz61_6
               try clear hcz69_0
               try clear hcz69_1
               try clear hcz69_2
               try clear hcz69_3
               try clear hcz69_4
               try clear hfz13_0
               try clear hfz13_1
               try clear hfz13_2
               try clear hfz13_3
               try clear hfz13_4
               try clear hfz13_5
               try clear hfz13_6
               try clear hfz16_0
               try clear hfz16_1
               try clear hfz16_2
               try clear hfz16_3
               try clear hfz16_4
               try clear hfz16_5
               try clear hfz16_6
               try clear hfz19_0
               try clear hfz19_1
               try clear hfz19_2
               try clear hfz19_3
               try clear hfz19_4
               try clear hfz19_5
               try clear hfz19_6
               try clear hfz22_0
               try clear hfz22_1
               try clear hfz22_2
               try clear hfz22_3
               try clear hfz22_4
               try clear hfz22_5
               try clear hfz22_6
               try clear hfz29_0
               try clear hfz29_1
               try clear hfz29_2
               try clear hfz29_3
               try clear hfz29_4
               try clear hfz29_5
               try clear hfz29_6
               try clear hfz31_0
               try clear hfz31_1
               try clear hfz31_2
               try clear hfz31_3
               try clear hfz31_4
               try clear hfz32_0
               try clear hfz32_1
               try clear hfz32_2
               try clear hfz32_3
               try clear hfz32_4
               try clear hfz35_0
               try clear hfz35_1
               try clear hfz35_2
               try clear hfz35_3
               try clear hfz35_4
               try clear hfz35_5
               try clear hfz35_6
               try clear hfz37_0
               try clear hfz37_1
               try clear hfz37_2
               try clear hfz37_3
               try clear hfz37_4
               try clear hfz38_0
               try clear hfz38_1
               try clear hfz38_2
               try clear hfz38_3
               try clear hfz38_4
               try clear hfz41_0
               try clear hfz41_1
               try clear hfz41_2
               try clear hfz41_3
               try clear hfz41_4
               try clear hfz41_5
               try clear hfz41_6
               try clear hfz43_0
               try clear hfz43_1
               try clear hfz43_2
               try clear hfz43_3
               try clear hfz43_4
               try clear hfz47_0
               try clear hfz47_1
               try clear hfz47_2
               try clear hfz47_3
               try clear hfz47_4
               try clear hfz47_5
               try clear hfz47_6
               try clear hfz57_0
               try clear hfz57_1
               try clear hfz57_2
               try clear hfz57_3
               try clear hfz57_4
               try clear hfz61_0
               try clear hfz61_1
               try clear hfz61_2
               try clear hfz61_3
               try clear hfz61_4
               try clear hfz61_5
               try clear hfz61_6
               try clear hfz69_0
               try clear hfz69_1
               try clear hfz69_2
               try clear hfz69_3
               try clear hfz69_4
               try clear hx250_0
               try clear hx252_0
               try clear p2
               try clear p25
               try clear p250
               try clear p252
               try clear p6
               try clear q2
               try clear q25
               try clear q250
               try clear q252
               obtain ⟨kq, x7_64, rfl, HA, HJ64, BK247, BK248, BK249, HB⟩ := hcut
               cases kq with
               | zero => exact absurd HA.out (by simp [lift_fits.j4])
               | succ kj64 =>
                have H := HA.out
                clear HA
                simp only [lift_fits.j4] at H
                have H' := M_ H
                clear H
                go_wp2
                go_loopg [7, 104] kj64 (fun kq v7 v104 w' => ∃ (x7_6 : Bool) (x104_6 : Int), v7 = .bool x7_6 ∧ v104 = .int .i64 x104_6 ∧ Aside0 (lift_fits.l2 kq x7_6 l2_3 (l2_3.length : Int) x90_4 (rd_L4 l2_3 x90_4) ((rd_L4 l2_3 x90_4).length : Int) x104_6 a0_0 l0_1 l0_2 l0_3 l0_4 a1_0 l1_1 l1_2 l1_3 l1_4 a2_0 a2_1 l2_2 l2_3 l2_4 l2_5 a2_6 = some r) ∧ Aside0 (kq ≤ kj64) ∧ Aside0 (w'.heap[gb247]? = some (.cells #[.int .i64 a0_0, (.slice A0_1 l0_1.length c0_1), (.slice A0_2 l0_2.length c0_2), (.slice A0_3 l0_3.length c0_3), (.slice A0_4 l0_4.length c0_4)] 26 (0, 0))) ∧ Aside0 (w'.heap[gb248]? = some (.cells #[.int .i64 a1_0, (.slice A1_1 l1_1.length c1_1), (.slice A1_2 l1_2.length c1_2), (.slice A1_3 l1_3.length c1_3), (.slice A1_4 l1_4.length c1_4)] 26 (0, 0))) ∧ Aside0 (w'.heap[gb249]? = some (.cells #[.int .i64 a2_0, .int .i64 a2_1, (.slice A2_2 l2_2.length c2_2), (.slice (some ad252) l2_3.length c2_3), (.slice A2_4 l2_4.length c2_4), (.slice A2_5 l2_5.length c2_5), .int .i64 a2_6] 53 (0, 0))) ∧ Aside0 (Below w.heap.size w w'))
                case atStart => exact ⟨(x7_64), (0), (by first | rfl | (simp; done) | (simp [*]; done)), (by first | rfl | (simp; done) | (simp [*]; done)), H', ⟨Nat.le_refl _⟩, ⟨by (with_reducible repeat (first | refine k0_ ?_ _ | refine k1_ ?_ | refine k2_ ?_ _)); exact BK247.out⟩, ⟨by (with_reducible repeat (first | refine k0_ ?_ _ | refine k1_ ?_ | refine k2_ ?_ _)); exact BK248.out⟩, ⟨by (with_reducible repeat (first | refine k0_ ?_ _ | refine k1_ ?_ | refine k2_ ?_ _)); exact BK249.out⟩, ⟨by repeat (first | (with_reducible first | exact HB.out | apply b0_ | apply b1_ | apply b2_ | refine below_set ?_ GE247.out | refine below_set ?_ GE248.out | refine below_set ?_ GE249.out) | exact HB.out)⟩⟩
                case round =>
                 clear H'
                 try clear c1
                 try clear c2
                 try clear p2
                 try clear q2
                 try clear hx2
                 try clear c3
                 try clear c4
                 try clear c5
                 try clear c6
                 try clear p6
                 try clear c8
                 try clear c8b0
                 try clear c9
                 try clear c9b0
                 try clear c10
                 try clear c10b0
                 try clear c11
                 try clear c12
                 try clear c14
                 try clear c15
                 try clear c17
                 try clear c18
                 try clear c20
                 try clear c21
                 try clear c24
                 try clear c25
                 try clear c25b0
                 try clear c25b1
                 try clear c25b2
                 try clear p25
                 try clear q25
                 try clear hx25
                 try clear c26
                 try clear c26b0
                 try clear c26b1
                 try clear c26b2
                 try clear c27
                 try clear c28
                 try clear c30
                 try clear c33
                 try clear c34
                 try clear c36
                 try clear c39
                 try clear c40
                 try clear c42
                 try clear c44
                 try clear c45
                 try clear c46
                 try clear c48
                 try clear c48b0
                 try clear c49
                 try clear c49b0
                 try clear c50
                 try clear c50b0
                 try clear c51
                 try clear c52
                 try clear c52b0
                 try clear c52b1
                 try clear c53
                 try clear c53b0
                 try clear c53b1
                 try clear c55
                 try clear c56
                 try clear c59
                 try clear c60
                 try clear c62
                 try clear c62b0
                 try clear c63
                 try clear c63b0
                 try clear c64
                 try clear c64b0
                 try clear p64
                 try clear c66
                 try clear c67
                 try clear c68
                 try clear hcz13_0
                 try clear hcz13_1
                 try clear hcz13_2
                 try clear hcz13_3
                 try clear hcz13_4
                 try clear hcz13_5
                 try clear hcz13_6
                 try clear hcz16_0
                 try clear hcz16_1
                 try clear hcz16_2
                 try clear hcz16_3
                 try clear hcz16_4
                 try clear hcz16_5
                 try clear hcz16_6
                 try clear hcz19_0
                 try clear hcz19_1
                 try clear hcz19_2
                 try clear hcz19_3
                 try clear hcz19_4
                 try clear hcz19_5
                 try clear hcz19_6
                 try clear hcz22_0
                 try clear hcz22_1
                 try clear hcz22_2
                 try clear hcz22_3
                 try clear hcz22_4
                 try clear hcz22_5
                 try clear hcz22_6
                 try clear hcz29_0
                 try clear hcz29_1
                 try clear hcz29_2
                 try clear hcz29_3
                 try clear hcz29_4
                 try clear hcz29_5
                 try clear hcz29_6
                 try clear hcz31_0
                 try clear hcz31_1
                 try clear hcz31_2
                 try clear hcz31_3
                 try clear hcz31_4
                 try clear hcz32_0
                 try clear hcz32_1
                 try clear hcz32_2
                 try clear hcz32_3
                 try clear hcz32_4
                 try clear hcz35_0
                 try clear hcz35_1
                 try clear hcz35_2
                 try clear hcz35_3
                 try clear hcz35_4
                 try clear hcz35_5
                 try clear hcz35_6
                 try clear hcz37_0
                 try clear hcz37_1
                 try clear hcz37_2
                 try clear hcz37_3
                 try clear hcz37_4
                 try clear hcz38_0
                 try clear hcz38_1
                 try clear hcz38_2
                 try clear hcz38_3
                 try clear hcz38_4
                 try clear hcz41_0
                 try clear hcz41_1
                 try clear hcz41_2
                 try clear hcz41_3
                 try clear hcz41_4
                 try clear hcz41_5
                 try clear hcz41_6
                 try clear hcz43_0
                 try clear hcz43_1
                 try clear hcz43_2
                 try clear hcz43_3
                 try clear hcz43_4
                 try clear hcz47_0
                 try clear hcz47_1
                 try clear hcz47_2
                 try clear hcz47_3
                 try clear hcz47_4
                 try clear hcz47_5
                 try clear hcz47_6
                 try clear hcz57_0
                 try clear hcz57_1
                 try clear hcz57_2
                 try clear hcz57_3
                 try clear hcz57_4
                 try clear hcz61_0
                 try clear hcz61_1
                 try clear hcz61_2
                 try clear hcz61_3
                 try clear hcz61_4
                 try clear hcz61_5
                 try clear hcz61_6
                 try clear hcz69_0
                 try clear hcz69_1
                 try clear hcz69_2
                 try clear hcz69_3
                 try clear hcz69_4
                 try clear hfz13_0
                 try clear hfz13_1
                 try clear hfz13_2
                 try clear hfz13_3
                 try clear hfz13_4
                 try clear hfz13_5
                 try clear hfz13_6
                 try clear hfz16_0
                 try clear hfz16_1
                 try clear hfz16_2
                 try clear hfz16_3
                 try clear hfz16_4
                 try clear hfz16_5
                 try clear hfz16_6
                 try clear hfz19_0
                 try clear hfz19_1
                 try clear hfz19_2
                 try clear hfz19_3
                 try clear hfz19_4
                 try clear hfz19_5
                 try clear hfz19_6
                 try clear hfz22_0
                 try clear hfz22_1
                 try clear hfz22_2
                 try clear hfz22_3
                 try clear hfz22_4
                 try clear hfz22_5
                 try clear hfz22_6
                 try clear hfz29_0
                 try clear hfz29_1
                 try clear hfz29_2
                 try clear hfz29_3
                 try clear hfz29_4
                 try clear hfz29_5
                 try clear hfz29_6
                 try clear hfz31_0
                 try clear hfz31_1
                 try clear hfz31_2
                 try clear hfz31_3
                 try clear hfz31_4
                 try clear hfz32_0
                 try clear hfz32_1
                 try clear hfz32_2
                 try clear hfz32_3
                 try clear hfz32_4
                 try clear hfz35_0
                 try clear hfz35_1
                 try clear hfz35_2
                 try clear hfz35_3
                 try clear hfz35_4
                 try clear hfz35_5
                 try clear hfz35_6
                 try clear hfz37_0
                 try clear hfz37_1
                 try clear hfz37_2
                 try clear hfz37_3
                 try clear hfz37_4
                 try clear hfz38_0
                 try clear hfz38_1
                 try clear hfz38_2
                 try clear hfz38_3
                 try clear hfz38_4
                 try clear hfz41_0
                 try clear hfz41_1
                 try clear hfz41_2
                 try clear hfz41_3
                 try clear hfz41_4
                 try clear hfz41_5
                 try clear hfz41_6
                 try clear hfz43_0
                 try clear hfz43_1
                 try clear hfz43_2
                 try clear hfz43_3
                 try clear hfz43_4
                 try clear hfz47_0
                 try clear hfz47_1
                 try clear hfz47_2
                 try clear hfz47_3
                 try clear hfz47_4
                 try clear hfz47_5
                 try clear hfz47_6
                 try clear hfz57_0
                 try clear hfz57_1
                 try clear hfz57_2
                 try clear hfz57_3
                 try clear hfz57_4
                 try clear hfz61_0
                 try clear hfz61_1
                 try clear hfz61_2
                 try clear hfz61_3
                 try clear hfz61_4
                 try clear hfz61_5
                 try clear hfz61_6
                 try clear hfz69_0
                 try clear hfz69_1
                 try clear hfz69_2
                 try clear hfz69_3
                 try clear hfz69_4
                 try clear hx250_0
                 try clear hx252_0
                 try clear p2
                 try clear p25
                 try clear p250
                 try clear p252
                 try clear p6
                 try clear p64
                 try clear q2
                 try clear q25
                 try clear q250
                 try clear q252
                 obtain ⟨x7_6, x104_6, rfl, rfl, HA, HK6, BK247, BK248, BK249, HB⟩ := hrel
                 cases gk with
                 | zero => exact absurd HA.out (by simp [lift_fits.l2])
                 | succ k6 =>
                  have H := HA.out
                  clear HA
                  simp only [lift_fits.l2] at H
                  by_cases c70 : x104_6 < ((rd_L4 l2_3 x90_4).length : Int)
                  ·rw [if_pos c70] at H
                   have c70b0 : decide (x104_6 < ((rd_L4 l2_3 x90_4).length : Int)) = true := decide_eq_true c70
                   clear c70
                   by_cases c71 : 0 ≤ x104_6
                   ·rw [if_pos c71] at H
                    have c71b0 : decide (0 ≤ x104_6) = true := decide_eq_true c71
                    clear c71
                    by_cases c72 : x104_6 < ((rd_L4 l2_3 x90_4).length : Int)
                    ·rw [if_pos c72] at H
                     have c72b0 : decide (x104_6 < ((rd_L4 l2_3 x90_4).length : Int)) = true := decide_eq_true c72
                     clear c72
                     by_cases c73 : x7_6 = true
                     ·subst c73
                      have H1 : (if (rd (rd_L4 l2_3 x90_4) x104_6) ≥ 0 then (if (Int.tmod (rd (rd_L4 l2_3 x90_4) x104_6) 2) = 0 then (lift_fits.l2 k6 (decide ((rd (rd_L4 l2_3 x90_4) x104_6) ≤ (wrap64 (2 * a1_0)))) l2_3 (l2_3.length : Int) x90_4 (rd_L4 l2_3 x90_4) ((rd_L4 l2_3 x90_4).length : Int) (wrap64 (x104_6 + 1)) a0_0 l0_1 l0_2 l0_3 l0_4 a1_0 l1_1 l1_2 l1_3 l1_4 a2_0 a2_1 l2_2 l2_3 l2_4 l2_5 a2_6) else (lift_fits.l2 k6 false l2_3 (l2_3.length : Int) x90_4 (rd_L4 l2_3 x90_4) ((rd_L4 l2_3 x90_4).length : Int) (wrap64 (x104_6 + 1)) a0_0 l0_1 l0_2 l0_3 l0_4 a1_0 l1_1 l1_2 l1_3 l1_4 a2_0 a2_1 l2_2 l2_3 l2_4 l2_5 a2_6)) else (lift_fits.l2 k6 false l2_3 (l2_3.length : Int) x90_4 (rd_L4 l2_3 x90_4) ((rd_L4 l2_3 x90_4).length : Int) (wrap64 (x104_6 + 1)) a0_0 l0_1 l0_2 l0_3 l0_4 a1_0 l1_1 l1_2 l1_3 l1_4 a2_0 a2_1 l2_2 l2_3 l2_4 l2_5 a2_6)) = some r := by rw [if_pos rfl] at H; exact H
                      clear H
                      have H := H1
                      clear H1
                      by_cases c74 : (rd (rd_L4 l2_3 x90_4) x104_6) ≥ 0
                      ·rw [if_pos c74] at H
                       have c74b0 : decide (0 ≤ (rd (rd_L4 l2_3 x90_4) x104_6)) = true := decide_eq_true c74
                       clear c74
                       by_cases c75 : (Int.tmod (rd (rd_L4 l2_3 x90_4) x104_6) 2) = 0
                       ·rw [if_pos c75] at H
                        have c75b0 : ((Int.tmod (rd (rd_L4 l2_3 x90_4) x104_6) 2) == 0) = true := beq_iff_eq.mpr c75
                        have c75b1 : ((Int.tmod (rd (rd_L4 l2_3 x90_4) x104_6) 2) != 0) = false := bne_eq_false_iff_eq.mpr c75
                        clear c75
                        have H' := M_ H
                        clear H
                        have p253 : 0 ≤ (x104_6 : Int) := of_decide_eq_true (by first | (with_reducible assumption) | assumption)
                        have q253 : x104_6 < ((rd_L4 l2_3 x90_4).length : Int) := of_decide_eq_true (by first | (with_reducible assumption) | assumption)
                        obtain ⟨ad253, e253, hx253_0⟩ := Kd.at_int HR252_0.out x104_6 p253 q253
                        cases e253
                        replace hx253_0 := (HB.out.cell (World.block_lt_of_cell? w _ hx253_0)).trans hx253_0
                        replace p253 := eq_true p253
                        replace q253 := eq_true q253
                        have hnb76 := NB248_247.out
                        have hnc76 := NB247_248.out
                        have hnb77 := NB248_249.out
                        have hnc77 := NB249_248.out
                        have hcz78_0 : wr.cell? ⟨gb248, 0, none⟩ = some (.int .i64 a1_0) := (blk_cell BK248.out 0).trans rfl
                        have hcz78_1 : wr.cell? ⟨gb248, 1, none⟩ = some (.slice A1_1 l1_1.length c1_1) := (blk_cell BK248.out 1).trans rfl
                        have hcz78_2 : wr.cell? ⟨gb248, 2, none⟩ = some (.slice A1_2 l1_2.length c1_2) := (blk_cell BK248.out 2).trans rfl
                        have hcz78_3 : wr.cell? ⟨gb248, 3, none⟩ = some (.slice A1_3 l1_3.length c1_3) := (blk_cell BK248.out 3).trans rfl
                        have hcz78_4 : wr.cell? ⟨gb248, 4, none⟩ = some (.slice A1_4 l1_4.length c1_4) := (blk_cell BK248.out 4).trans rfl
                        have hfz78_0 := blk_frozen BK248.out 0
                        have hfz78_1 := blk_frozen BK248.out 1
                        have hfz78_2 := blk_frozen BK248.out 2
                        have hfz78_3 := blk_frozen BK248.out 3
                        have hfz78_4 := blk_frozen BK248.out 4
                        go_wp2
                        go_roundg k6
                        case measure => have := HJ3.out; have := HJ22.out; have := HK3.out; have := HK4.out; have := HJ64.out; have := HK6.out; omega
                        case rel => exact ⟨(decide ((rd (rd_L4 l2_3 x90_4) x104_6) ≤ (wrap64 (2 * a1_0)))), (wrap64 (x104_6 + 1)), (by first | rfl | (simp; done) | (simp [*]; done)), (by first | rfl | (simp; done) | (simp [*]; done)), H', ⟨by have := HJ3.out; have := HJ22.out; have := HK3.out; have := HK4.out; have := HJ64.out; have := HK6.out; omega⟩, ⟨by (with_reducible repeat (first | refine k0_ ?_ _ | refine k1_ ?_ | refine k2_ ?_ _)); exact BK247.out⟩, ⟨by (with_reducible repeat (first | refine k0_ ?_ _ | refine k1_ ?_ | refine k2_ ?_ _)); exact BK248.out⟩, ⟨by (with_reducible repeat (first | refine k0_ ?_ _ | refine k1_ ?_ | refine k2_ ?_ _)); exact BK249.out⟩, ⟨by repeat (first | (with_reducible first | exact HB.out | apply b0_ | apply b1_ | apply b2_ | refine below_set ?_ GE247.out | refine below_set ?_ GE248.out | refine below_set ?_ GE249.out) | exact HB.out)⟩⟩
                       ·rw [if_neg c75] at H
                        have c75b0 : ((Int.tmod (rd (rd_L4 l2_3 x90_4) x104_6) 2) == 0) = false := beq_eq_false_iff_ne.mpr c75
                        have c75b1 : ((Int.tmod (rd (rd_L4 l2_3 x90_4) x104_6) 2) != 0) = true := bne_iff_ne.mpr c75
                        have H' := M_ H
                        clear H
                        have p253 : 0 ≤ (x104_6 : Int) := of_decide_eq_true (by first | (with_reducible assumption) | assumption)
                        have q253 : x104_6 < ((rd_L4 l2_3 x90_4).length : Int) := of_decide_eq_true (by first | (with_reducible assumption) | assumption)
                        obtain ⟨ad253, e253, hx253_0⟩ := Kd.at_int HR252_0.out x104_6 p253 q253
                        cases e253
                        replace hx253_0 := (HB.out.cell (World.block_lt_of_cell? w _ hx253_0)).trans hx253_0
                        replace p253 := eq_true p253
                        replace q253 := eq_true q253
                        go_wp2
                        go_roundg k6
                        case measure => have := HJ3.out; have := HJ22.out; have := HK3.out; have := HK4.out; have := HJ64.out; have := HK6.out; omega
                        case rel => exact ⟨(false), (wrap64 (x104_6 + 1)), (by first | rfl | (simp; done) | (simp [*]; done)), (by first | rfl | (simp; done) | (simp [*]; done)), H', ⟨by have := HJ3.out; have := HJ22.out; have := HK3.out; have := HK4.out; have := HJ64.out; have := HK6.out; omega⟩, ⟨by (with_reducible repeat (first | refine k0_ ?_ _ | refine k1_ ?_ | refine k2_ ?_ _)); exact BK247.out⟩, ⟨by (with_reducible repeat (first | refine k0_ ?_ _ | refine k1_ ?_ | refine k2_ ?_ _)); exact BK248.out⟩, ⟨by (with_reducible repeat (first | refine k0_ ?_ _ | refine k1_ ?_ | refine k2_ ?_ _)); exact BK249.out⟩, ⟨by repeat (first | (with_reducible first | exact HB.out | apply b0_ | apply b1_ | apply b2_ | refine below_set ?_ GE247.out | refine below_set ?_ GE248.out | refine below_set ?_ GE249.out) | exact HB.out)⟩⟩
                      ·rw [if_neg c74] at H
                       have c74b0 : decide (0 ≤ (rd (rd_L4 l2_3 x90_4) x104_6)) = false := decide_eq_false c74
                       clear c74
                       have H' := M_ H
                       clear H
                       have p253 : 0 ≤ (x104_6 : Int) := of_decide_eq_true (by first | (with_reducible assumption) | assumption)
                       have q253 : x104_6 < ((rd_L4 l2_3 x90_4).length : Int) := of_decide_eq_true (by first | (with_reducible assumption) | assumption)
                       obtain ⟨ad253, e253, hx253_0⟩ := Kd.at_int HR252_0.out x104_6 p253 q253
                       cases e253
                       replace hx253_0 := (HB.out.cell (World.block_lt_of_cell? w _ hx253_0)).trans hx253_0
                       replace p253 := eq_true p253
                       replace q253 := eq_true q253
                       go_wp2
                       go_roundg k6
                       case measure => have := HJ3.out; have := HJ22.out; have := HK3.out; have := HK4.out; have := HJ64.out; have := HK6.out; omega
                       case rel => exact ⟨(false), (wrap64 (x104_6 + 1)), (by first | rfl | (simp; done) | (simp [*]; done)), (by first | rfl | (simp; done) | (simp [*]; done)), H', ⟨by have := HJ3.out; have := HJ22.out; have := HK3.out; have := HK4.out; have := HJ64.out; have := HK6.out; omega⟩, ⟨by (with_reducible repeat (first | refine k0_ ?_ _ | refine k1_ ?_ | refine k2_ ?_ _)); exact BK247.out⟩, ⟨by (with_reducible repeat (first | refine k0_ ?_ _ | refine k1_ ?_ | refine k2_ ?_ _)); exact BK248.out⟩, ⟨by (with_reducible repeat (first | refine k0_ ?_ _ | refine k1_ ?_ | refine k2_ ?_ _)); exact BK249.out⟩, ⟨by repeat (first | (with_reducible first | exact HB.out | apply b0_ | apply b1_ | apply b2_ | refine below_set ?_ GE247.out | refine below_set ?_ GE248.out | refine below_set ?_ GE249.out) | exact HB.out)⟩⟩
                     ·replace c73 := Bool.eq_false_iff.mpr c73
                      subst c73
                      have H1 : (lift_fits.l2 k6 false l2_3 (l2_3.length : Int) x90_4 (rd_L4 l2_3 x90_4) ((rd_L4 l2_3 x90_4).length : Int) (wrap64 (x104_6 + 1)) a0_0 l0_1 l0_2 l0_3 l0_4 a1_0 l1_1 l1_2 l1_3 l1_4 a2_0 a2_1 l2_2 l2_3 l2_4 l2_5 a2_6) = some r := by rw [if_neg (show ¬ (false = true) by decide)] at H; exact H
                      clear H
                      have H := H1
                      clear H1
                      have H' := M_ H
                      clear H
                      have p253 : 0 ≤ (x104_6 : Int) := of_decide_eq_true (by first | (with_reducible assumption) | assumption)
                      have q253 : x104_6 < ((rd_L4 l2_3 x90_4).length : Int) := of_decide_eq_true (by first | (with_reducible assumption) | assumption)
                      obtain ⟨ad253, e253, hx253_0⟩ := Kd.at_int HR252_0.out x104_6 p253 q253
                      cases e253
                      replace hx253_0 := (HB.out.cell (World.block_lt_of_cell? w _ hx253_0)).trans hx253_0
                      replace p253 := eq_true p253
                      replace q253 := eq_true q253
                      go_wp2
                      go_roundg k6
                      case measure => have := HJ3.out; have := HJ22.out; have := HK3.out; have := HK4.out; have := HJ64.out; have := HK6.out; omega
                      case rel => exact ⟨(false), (wrap64 (x104_6 + 1)), (by first | rfl | (simp; done) | (simp [*]; done)), (by first | rfl | (simp; done) | (simp [*]; done)), H', ⟨by have := HJ3.out; have := HJ22.out; have := HK3.out; have := HK4.out; have := HJ64.out; have := HK6.out; omega⟩, ⟨by (with_reducible repeat (first | refine k0_ ?_ _ | refine k1_ ?_ | refine k2_ ?_ _)); exact BK247.out⟩, ⟨by (with_reducible repeat (first | refine k0_ ?_ _ | refine k1_ ?_ | refine k2_ ?_ _)); exact BK248.out⟩, ⟨by (with_reducible repeat (first | refine k0_ ?_ _ | refine k1_ ?_ | refine k2_ ?_ _)); exact BK249.out⟩, ⟨by repeat (first | (with_reducible first | exact HB.out | apply b0_ | apply b1_ | apply b2_ | refine below_set ?_ GE247.out | refine below_set ?_ GE248.out | refine below_set ?_ GE249.out) | exact HB.out)⟩⟩
                    ·rw [if_neg c72] at H
                     exact absurd H (by simp)
                   ·rw [if_neg c71] at H
                    exact absurd H (by simp)
                  ·rw [if_neg c70] at H
                   have c70b0 : decide (x104_6 < ((rd_L4 l2_3 x90_4).length : Int)) = false := decide_eq_false c70
                   clear c70
                   have H' := M_ H
                   clear H
                   go_wp2
                   go_roundg k6
                   case measure => have := HJ3.out; have := HJ22.out; have := HK3.out; have := HK4.out; have := HJ64.out; have := HK6.out; omega
                   case rel => exact ⟨(x7_6), (wrap64 (x90_4 + 1)), (by first | rfl | (simp; done) | (simp [*]; done)), (by first | rfl | (simp; done) | (simp [*]; done)), H', ⟨by have := HJ3.out; have := HJ22.out; have := HK3.out; have := HK4.out; have := HJ64.out; have := HK6.out; omega⟩, ⟨by (with_reducible repeat (first | refine k0_ ?_ _ | refine k1_ ?_ | refine k2_ ?_ _)); exact BK247.out⟩, ⟨by (with_reducible repeat (first | refine k0_ ?_ _ | refine k1_ ?_ | refine k2_ ?_ _)); exact BK248.out⟩, ⟨by (with_reducible repeat (first | refine k0_ ?_ _ | refine k1_ ?_ | refine k2_ ?_ _)); exact BK249.out⟩, ⟨by repeat (first | (with_reducible first | exact HB.out | apply b0_ | apply b1_ | apply b2_ | refine below_set ?_ GE247.out | refine below_set ?_ GE248.out | refine below_set ?_ GE249.out) | exact HB.out)⟩⟩
             ·rw [if_neg c64] at H
              exact absurd H (by simp)
            ·rw [if_neg c63] at H
             exact absurd H (by simp)
           ·rw [if_neg c62] at H
            have c62b0 : decide (x90_4 < (l2_3.length : Int)) = false := decide_eq_false c62
            clear c62
            have H' := M_ H
            clear H
            have hnb79 := NB249_247.out
            have hnc79 := NB247_249.out
            have hnb80 := NB249_248.out
            have hnc80 := NB248_249.out
            have hcz81_0 : wr.cell? ⟨gb249, 0, none⟩ = some (.int .i64 a2_0) := (blk_cell BK249.out 0).trans rfl
            have hcz81_1 : wr.cell? ⟨gb249, 1, none⟩ = some (.int .i64 a2_1) := (blk_cell BK249.out 1).trans rfl
            have hcz81_2 : wr.cell? ⟨gb249, 2, none⟩ = some (.slice A2_2 l2_2.length c2_2) := (blk_cell BK249.out 2).trans rfl
            have hcz81_3 : wr.cell? ⟨gb249, 3, none⟩ = some (.slice A2_3 l2_3.length c2_3) := (blk_cell BK249.out 3).trans rfl
            have hcz81_4 : wr.cell? ⟨gb249, 4, none⟩ = some (.slice A2_4 l2_4.length c2_4) := (blk_cell BK249.out 4).trans rfl
            have hcz81_5 : wr.cell? ⟨gb249, 5, none⟩ = some (.slice A2_5 l2_5.length c2_5) := (blk_cell BK249.out 5).trans rfl
            have hcz81_6 : wr.cell? ⟨gb249, 6, none⟩ = some (.int .i64 a2_6) := (blk_cell BK249.out 6).trans rfl
            have hfz81_0 := blk_frozen BK249.out 0
            have hfz81_1 := blk_frozen BK249.out 1
            have hfz81_2 := blk_frozen BK249.out 2
            have hfz81_3 := blk_frozen BK249.out 3
            have hfz81_4 := blk_frozen BK249.out 4
            have hfz81_5 := blk_frozen BK249.out 5
            have hfz81_6 := blk_frozen BK249.out 6
            go_wp2
            go_loopg [7, 130] k4 (fun kq v7 v130 w' => ∃ (x7_5 : Bool) (x130_5 : Int), v7 = .bool x7_5 ∧ v130 = .int .i64 x130_5 ∧ Aside0 (lift_fits.l3 kq x7_5 l2_4 (l2_4.length : Int) x130_5 a0_0 l0_1 l0_2 l0_3 l0_4 a2_0 a2_1 l2_2 l2_3 l2_4 l2_5 a2_6 = some r) ∧ Aside0 (kq ≤ k4) ∧ Aside0 (w'.heap[gb247]? = some (.cells #[.int .i64 a0_0, (.slice A0_1 l0_1.length c0_1), (.slice A0_2 l0_2.length c0_2), (.slice A0_3 l0_3.length c0_3), (.slice A0_4 l0_4.length c0_4)] 26 (0, 0))) ∧ Aside0 (w'.heap[gb248]? = some (.cells #[.int .i64 a1_0, (.slice A1_1 l1_1.length c1_1), (.slice A1_2 l1_2.length c1_2), (.slice A1_3 l1_3.length c1_3), (.slice A1_4 l1_4.length c1_4)] 26 (0, 0))) ∧ Aside0 (w'.heap[gb249]? = some (.cells #[.int .i64 a2_0, .int .i64 a2_1, (.slice A2_2 l2_2.length c2_2), (.slice A2_3 l2_3.length c2_3), (.slice A2_4 l2_4.length c2_4), (.slice A2_5 l2_5.length c2_5), .int .i64 a2_6] 53 (0, 0))) ∧ Aside0 (Below w.heap.size w w'))
            case atStart => exact ⟨(x7_4), (0), (by first | rfl | (simp; done) | (simp [*]; done)), (by first | rfl | (simp; done) | (simp [*]; done)), H', ⟨Nat.le_refl _⟩, ⟨by (with_reducible repeat (first | refine k0_ ?_ _ | refine k1_ ?_ | refine k2_ ?_ _)); exact BK247.out⟩, ⟨by (with_reducible repeat (first | refine k0_ ?_ _ | refine k1_ ?_ | refine k2_ ?_ _)); exact BK248.out⟩, ⟨by (with_reducible repeat (first | refine k0_ ?_ _ | refine k1_ ?_ | refine k2_ ?_ _)); exact BK249.out⟩, ⟨by repeat (first | (with_reducible first | exact HB.out | apply b0_ | apply b1_ | apply b2_ | refine below_set ?_ GE247.out | refine below_set ?_ GE248.out | refine below_set ?_ GE249.out) | exact HB.out)⟩⟩
            case round =>
             clear H'
             try clear c1
             try clear c2
             try clear p2
             try clear q2
             try clear hx2
             try clear c3
             try clear c4
             try clear c5
             try clear c6
             try clear p6
             try clear c7
             try clear c8
             try clear c8b0
             try clear c9
             try clear c9b0
             try clear c10
             try clear c10b0
             try clear c11
             try clear c12
             try clear c14
             try clear c15
             try clear c17
             try clear c18
             try clear c20
             try clear c21
             try clear c24
             try clear c25
             try clear c25b0
             try clear c25b1
             try clear c25b2
             try clear p25
             try clear q25
             try clear hx25
             try clear c26
             try clear c26b0
             try clear c26b1
             try clear c26b2
             try clear c27
             try clear c28
             try clear c30
             try clear c33
             try clear c34
             try clear c36
             try clear c39
             try clear c40
             try clear c42
             try clear c44
             try clear c45
             try clear c46
             try clear c48
             try clear c48b0
             try clear c49
             try clear c49b0
             try clear c50
             try clear c50b0
             try clear c51
             try clear c52
             try clear c52b0
             try clear c52b1
             try clear c53
             try clear c53b0
             try clear c53b1
             try clear c55
             try clear c56
             try clear c59
             try clear c60
             try clear c62
             try clear c62b0
             try clear c63
             try clear c63b0
             try clear c64
             try clear c64b0
             try clear p64
             try clear c66
             try clear c67
             try clear c68
             try clear c70
             try clear c70b0
             try clear c71
             try clear c71b0
             try clear c72
             try clear c72b0
             try clear c73
             try clear c74
             try clear c74b0
             try clear c75
             try clear c75b0
             try clear c75b1
             try clear c76
             try clear c77
             try clear c79
             try clear c80
             try clear hcz13_0
             try clear hcz13_1
             try clear hcz13_2
             try clear hcz13_3
             try clear hcz13_4
             try clear hcz13_5
             try clear hcz13_6
             try clear hcz16_0
             try clear hcz16_1
             try clear hcz16_2
             try clear hcz16_3
             try clear hcz16_4
             try clear hcz16_5
             try clear hcz16_6
             try clear hcz19_0
             try clear hcz19_1
             try clear hcz19_2
             try clear hcz19_3
             try clear hcz19_4
             try clear hcz19_5
             try clear hcz19_6
             try clear hcz22_0
             try clear hcz22_1
             try clear hcz22_2
             try clear hcz22_3
             try clear hcz22_4
             try clear hcz22_5
             try clear hcz22_6
             try clear hcz29_0
             try clear hcz29_1
             try clear hcz29_2
             try clear hcz29_3
             try clear hcz29_4
             try clear hcz29_5
             try clear hcz29_6
             try clear hcz31_0
             try clear hcz31_1
             try clear hcz31_2
             try clear hcz31_3
             try clear hcz31_4
             try clear hcz32_0
             try clear hcz32_1
             try clear hcz32_2
             try clear hcz32_3
             try clear hcz32_4
             try clear hcz35_0
             try clear hcz35_1
             try clear hcz35_2
             try clear hcz35_3
             try clear hcz35_4
             try clear hcz35_5
             try clear hcz35_6
             try clear hcz37_0
             try clear hcz37_1
             try clear hcz37_2
             try clear hcz37_3
             try clear hcz37_4
             try clear hcz38_0
             try clear hcz38_1
             try clear hcz38_2
             try clear hcz38_3
             try clear hcz38_4
             try clear hcz41_0
             try clear hcz41_1
             try clear hcz41_2
             try clear hcz41_3
             try clear hcz41_4
             try clear hcz41_5
             try clear hcz41_6
             try clear hcz43_0
             try clear hcz43_1
             try clear hcz43_2
             try clear hcz43_3
             try clear hcz43_4
             try clear hcz47_0
             try clear hcz47_1
             try clear hcz47_2
             try clear hcz47_3
             try clear hcz47_4
             try clear hcz47_5
             try clear hcz47_6
             try clear hcz57_0
             try clear hcz57_1
             try clear hcz57_2
             try clear hcz57_3
             try clear hcz57_4
             try clear hcz61_0
             try clear hcz61_1
             try clear hcz61_2
             try clear hcz61_3
             try clear hcz61_4
             try clear hcz61_5
             try clear hcz61_6
             try clear hcz69_0
             try clear hcz69_1
             try clear hcz69_2
             try clear hcz69_3
             try clear hcz69_4
             try clear hcz78_0
             try clear hcz78_1
             try clear hcz78_2
             try clear hcz78_3
             try clear hcz78_4
             try clear hcz81_0
             try clear hcz81_1
             try clear hcz81_2
             try clear hcz81_3
             try clear hcz81_4
             try clear hcz81_5
             try clear hcz81_6
             try clear hfz13_0
             try clear hfz13_1
             try clear hfz13_2
             try clear hfz13_3
             try clear hfz13_4
             try clear hfz13_5
             try clear hfz13_6
             try clear hfz16_0
             try clear hfz16_1
             try clear hfz16_2
             try clear hfz16_3
             try clear hfz16_4
             try clear hfz16_5
             try clear hfz16_6
             try clear hfz19_0
             try clear hfz19_1
             try clear hfz19_2
             try clear hfz19_3
             try clear hfz19_4
             try clear hfz19_5
             try clear hfz19_6
             try clear hfz22_0
             try clear hfz22_1
             try clear hfz22_2
             try clear hfz22_3
             try clear hfz22_4
             try clear hfz22_5
             try clear hfz22_6
             try clear hfz29_0
             try clear hfz29_1
             try clear hfz29_2
             try clear hfz29_3
             try clear hfz29_4
             try clear hfz29_5
             try clear hfz29_6
             try clear hfz31_0
             try clear hfz31_1
             try clear hfz31_2
             try clear hfz31_3
             try clear hfz31_4
             try clear hfz32_0
             try clear hfz32_1
             try clear hfz32_2
             try clear hfz32_3
             try clear hfz32_4
             try clear hfz35_0
             try clear hfz35_1
             try clear hfz35_2
             try clear hfz35_3
             try clear hfz35_4
             try clear hfz35_5
             try clear hfz35_6
             try clear hfz37_0
             try clear hfz37_1
             try clear hfz37_2
             try clear hfz37_3
             try clear hfz37_4
             try clear hfz38_0
             try clear hfz38_1
             try clear hfz38_2
             try clear hfz38_3
             try clear hfz38_4
             try clear hfz41_0
             try clear hfz41_1
             try clear hfz41_2
             try clear hfz41_3
             try clear hfz41_4
             try clear hfz41_5
             try clear hfz41_6
             try clear hfz43_0
             try clear hfz43_1
             try clear hfz43_2
             try clear hfz43_3
             try clear hfz43_4
             try clear hfz47_0
             try clear hfz47_1
             try clear hfz47_2
             try clear hfz47_3
             try clear hfz47_4
             try clear hfz47_5
             try clear hfz47_6
             try clear hfz57_0
             try clear hfz57_1
             try clear hfz57_2
             try clear hfz57_3
             try clear hfz57_4
             try clear hfz61_0
             try clear hfz61_1
             try clear hfz61_2
             try clear hfz61_3
             try clear hfz61_4
             try clear hfz61_5
             try clear hfz61_6
             try clear hfz69_0
             try clear hfz69_1
             try clear hfz69_2
             try clear hfz69_3
             try clear hfz69_4
             try clear hfz78_0
             try clear hfz78_1
             try clear hfz78_2
             try clear hfz78_3
             try clear hfz78_4
             try clear hfz81_0
             try clear hfz81_1
             try clear hfz81_2
             try clear hfz81_3
             try clear hfz81_4
             try clear hfz81_5
             try clear hfz81_6
             try clear hx250_0
             try clear hx252_0
             try clear hx253_0
             try clear p2
             try clear p25
             try clear p250
             try clear p252
             try clear p253
             try clear p6
             try clear p64
             try clear q2
             try clear q25
             try clear q250
             try clear q252
             try clear q253
             obtain ⟨x7_5, x130_5, rfl, rfl, HA, HK5, BK247, BK248, BK249, HB⟩ := hrel
             cases gk with
             | zero => exact absurd HA.out (by simp [lift_fits.l3])
             | succ k5 =>
              have H := HA.out
              clear HA
              simp only [lift_fits.l3] at H
              by_cases c82 : x130_5 < (l2_4.length : Int)
              ·rw [if_pos c82] at H
               have c82b0 : decide (x130_5 < (l2_4.length : Int)) = true := decide_eq_true c82
               clear c82
               by_cases c83 : 0 ≤ x130_5
               ·rw [if_pos c83] at H
                have c83b0 : decide (0 ≤ x130_5) = true := decide_eq_true c83
                clear c83
                by_cases c84 : x130_5 < (l2_4.length : Int)
                ·rw [if_pos c84] at H
                 have c84b0 : decide (x130_5 < (l2_4.length : Int)) = true := decide_eq_true c84
                 clear c84
                 by_cases c85 : x7_5 = true
                 ·subst c85
                  have H1 : (if (rd l2_4 x130_5) = (-1) then (lift_fits.l3 k5 true l2_4 (l2_4.length : Int) (wrap64 (x130_5 + 1)) a0_0 l0_1 l0_2 l0_3 l0_4 a2_0 a2_1 l2_2 l2_3 l2_4 l2_5 a2_6) else ((lift_isLatch.f a0_0 l0_1 l0_2 l0_3 l0_4 (rd l2_4 x130_5)).bind fun t255 => (lift_fits.l3 k5 t255 l2_4 (l2_4.length : Int) (wrap64 (x130_5 + 1)) a0_0 l0_1 l0_2 l0_3 l0_4 a2_0 a2_1 l2_2 l2_3 l2_4 l2_5 a2_6))) = some r := by rw [if_pos rfl] at H; exact H
                  clear H
                  have H := H1
                  clear H1
                  by_cases c86 : (rd l2_4 x130_5) = (-1)
                  ·rw [if_pos c86] at H
                   have c86b0 : ((rd l2_4 x130_5) == (-1)) = true := beq_iff_eq.mpr c86
                   have c86b1 : ((rd l2_4 x130_5) != (-1)) = false := bne_eq_false_iff_eq.mpr c86
                   clear c86
                   have H' := M_ H
                   clear H
                   have p254 : 0 ≤ (x130_5 : Int) := of_decide_eq_true (by first | (with_reducible assumption) | assumption)
                   have q254 : x130_5 < (l2_4.length : Int) := of_decide_eq_true (by first | (with_reducible assumption) | assumption)
                   obtain ⟨ad254, e254, hx254_0⟩ := Kd.at_int HR2_4.out x130_5 p254 q254
                   cases e254
                   replace hx254_0 := (HB.out.cell (World.block_lt_of_cell? w _ hx254_0)).trans hx254_0
                   replace p254 := eq_true p254
                   replace q254 := eq_true q254
                   go_wp2
                   go_roundg k5
                   case measure => have := HJ3.out; have := HJ22.out; have := HK3.out; have := HK4.out; have := HK5.out; omega
                   case rel => exact ⟨(true), (wrap64 (x130_5 + 1)), (by first | rfl | (simp; done) | (simp [*]; done)), (by first | rfl | (simp; done) | (simp [*]; done)), H', ⟨by have := HJ3.out; have := HJ22.out; have := HK3.out; have := HK4.out; have := HK5.out; omega⟩, ⟨by (with_reducible repeat (first | refine k0_ ?_ _ | refine k1_ ?_ | refine k2_ ?_ _)); exact BK247.out⟩, ⟨by (with_reducible repeat (first | refine k0_ ?_ _ | refine k1_ ?_ | refine k2_ ?_ _)); exact BK248.out⟩, ⟨by (with_reducible repeat (first | refine k0_ ?_ _ | refine k1_ ?_ | refine k2_ ?_ _)); exact BK249.out⟩, ⟨by repeat (first | (with_reducible first | exact HB.out | apply b0_ | apply b1_ | apply b2_ | refine below_set ?_ GE247.out | refine below_set ?_ GE248.out | refine below_set ?_ GE249.out) | exact HB.out)⟩⟩
                  ·rw [if_neg c86] at H
                   have c86b0 : ((rd l2_4 x130_5) == (-1)) = false := beq_eq_false_iff_ne.mpr c86
                   have c86b1 : ((rd l2_4 x130_5) != (-1)) = true := bne_iff_ne.mpr c86
                   replace H := Option.bind_eq_some_iff.mp H
                   obtain ⟨t255, A870, H⟩ := H
                   replace H : (lift_fits.l3 k5 t255 l2_4 (l2_4.length : Int) (wrap64 (x130_5 + 1)) a0_0 l0_1 l0_2 l0_3 l0_4 a2_0 a2_1 l2_2 l2_3 l2_4 l2_5 a2_6) = some r := H
                   have A87 := M_ A870
                   clear A870
                   have H' := M_ H
                   clear H
                   have p254 : 0 ≤ (x130_5 : Int) := of_decide_eq_true (by first | (with_reducible assumption) | assumption)
                   have q254 : x130_5 < (l2_4.length : Int) := of_decide_eq_true (by first | (with_reducible assumption) | assumption)
                   obtain ⟨ad254, e254, hx254_0⟩ := Kd.at_int HR2_4.out x130_5 p254 q254
                   cases e254
                   replace hx254_0 := (HB.out.cell (World.block_lt_of_cell? w _ hx254_0)).trans hx254_0
                   replace p254 := eq_true p254
                   replace q254 := eq_true q254
                   have hnb88 := NB247_248.out
                   have hnc88 := NB248_247.out
                   have hnb89 := NB247_249.out
                   have hnc89 := NB249_247.out
                   have hcz90_0 : wr.cell? ⟨gb247, 0, none⟩ = some (.int .i64 a0_0) := (blk_cell BK247.out 0).trans rfl
                   have hcz90_1 : wr.cell? ⟨gb247, 1, none⟩ = some (.slice A0_1 l0_1.length c0_1) := (blk_cell BK247.out 1).trans rfl
                   have hcz90_2 : wr.cell? ⟨gb247, 2, none⟩ = some (.slice A0_2 l0_2.length c0_2) := (blk_cell BK247.out 2).trans rfl
                   have hcz90_3 : wr.cell? ⟨gb247, 3, none⟩ = some (.slice A0_3 l0_3.length c0_3) := (blk_cell BK247.out 3).trans rfl
                   have hcz90_4 : wr.cell? ⟨gb247, 4, none⟩ = some (.slice A0_4 l0_4.length c0_4) := (blk_cell BK247.out 4).trans rfl
                   have hfz90_0 := blk_frozen BK247.out 0
                   have hfz90_1 := blk_frozen BK247.out 1
                   have hfz90_2 := blk_frozen BK247.out 2
                   have hfz90_3 := blk_frozen BK247.out 3
                   have hfz90_4 := blk_frozen BK247.out 4
                   go_wp2_with (first | (go_at_call 70; (with_reducible refine (lift_isLatch.calls a0_0 _ _ l0_1 _ _ l0_2 _ _ l0_3 _ _ l0_4 (rd l2_4 x130_5) t255 _ ?side1 ?side2 ?side3 ?side4 ?side5 ?side6 ?side7 ?side8 A87.out).mono ?_); (case side1 => repeat (first | exact (Kd.C_below HR0_1.out HB.out) | (with_reducible refine c0_ ?_ _) | (with_reducible refine c1_ ?_ _) | (with_reducible refine c2_ ?_))); (case side2 => exact HC0_1.out); (case side3 => repeat (first | exact (Kd.C_below HR0_2.out HB.out) | (with_reducible refine c0_ ?_ _) | (with_reducible refine c1_ ?_ _) | (with_reducible refine c2_ ?_))); (case side4 => exact HC0_2.out); (case side5 => repeat (first | exact (Kd.C_below HR0_3.out HB.out) | (with_reducible refine c0_ ?_ _) | (with_reducible refine c1_ ?_ _) | (with_reducible refine c2_ ?_))); (case side6 => exact HC0_3.out); (case side7 => repeat (first | exact (Kd.C_below HR0_4.out HB.out) | (with_reducible refine c0_ ?_ _) | (with_reducible refine c1_ ?_ _) | (with_reducible refine c2_ ?_))); (case side8 => exact HC0_4.out); rintro e w91 ⟨rfl, hb⟩; have n0_ := M_ (blk_below (g := gb247) (o := .cells #[.int .i64 a0_0, .slice A0_1 l0_1.length c0_1, .slice A0_2 l0_2.length c0_2, .slice A0_3 l0_3.length c0_3, .slice A0_4 l0_4.length c0_4] 26 (0, 0)) (by (with_reducible repeat (first | refine k0_ ?_ _ | refine k1_ ?_ | refine k2_ ?_ _)); exact BK247.out) hb); have n1_ := M_ (blk_below (g := gb248) (o := .cells #[.int .i64 a1_0, .slice A1_1 l1_1.length c1_1, .slice A1_2 l1_2.length c1_2, .slice A1_3 l1_3.length c1_3, .slice A1_4 l1_4.length c1_4] 26 (0, 0)) (by (with_reducible repeat (first | refine k0_ ?_ _ | refine k1_ ?_ | refine k2_ ?_ _)); exact BK248.out) hb); have n2_ := M_ (blk_below (g := gb249) (o := .cells #[.int .i64 a2_0, .int .i64 a2_1, .slice A2_2 l2_2.length c2_2, .slice A2_3 l2_3.length c2_3, .slice (some ad254) l2_4.length c2_4, .slice A2_5 l2_5.length c2_5, .int .i64 a2_6] 53 (0, 0)) (by (with_reducible repeat (first | refine k0_ ?_ _ | refine k1_ ?_ | refine k2_ ?_ _)); exact BK249.out) hb); have n3_ := M_ (below_step (by repeat (first | (with_reducible first | exact HB.out | apply b0_ | apply b1_ | apply b2_ | refine below_set ?_ GE247.out | refine below_set ?_ GE248.out | refine below_set ?_ GE249.out) | exact HB.out)) hb); clear BK247; clear BK248; clear BK249; clear HB; have BK247 := n0_; have BK248 := n1_; have BK249 := n2_; have HB := n3_; clear n0_ n1_ n2_ n3_; (try clear hb); (try clear hb2); (try clear hk); (try clear hi)))
                   go_roundg k5
                   case measure => have := HJ3.out; have := HJ22.out; have := HK3.out; have := HK4.out; have := HK5.out; omega
                   case rel => exact ⟨(t255), (wrap64 (x130_5 + 1)), (by first | rfl | (simp; done) | (simp [*]; done)), (by first | rfl | (simp; done) | (simp [*]; done)), H', ⟨by have := HJ3.out; have := HJ22.out; have := HK3.out; have := HK4.out; have := HK5.out; omega⟩, ⟨by (with_reducible repeat (first | refine k0_ ?_ _ | refine k1_ ?_ | refine k2_ ?_ _)); exact BK247.out⟩, ⟨by (with_reducible repeat (first | refine k0_ ?_ _ | refine k1_ ?_ | refine k2_ ?_ _)); exact BK248.out⟩, ⟨by (with_reducible repeat (first | refine k0_ ?_ _ | refine k1_ ?_ | refine k2_ ?_ _)); exact BK249.out⟩, ⟨by repeat (first | (with_reducible first | exact HB.out | apply b0_ | apply b1_ | apply b2_ | refine below_set ?_ GE247.out | refine below_set ?_ GE248.out | refine below_set ?_ GE249.out) | exact HB.out)⟩⟩
                 ·replace c85 := Bool.eq_false_iff.mpr c85
                  subst c85
                  have H1 : (lift_fits.l3 k5 false l2_4 (l2_4.length : Int) (wrap64 (x130_5 + 1)) a0_0 l0_1 l0_2 l0_3 l0_4 a2_0 a2_1 l2_2 l2_3 l2_4 l2_5 a2_6) = some r := by rw [if_neg (show ¬ (false = true) by decide)] at H; exact H
                  clear H
                  have H := H1
                  clear H1
                  have H' := M_ H
                  clear H
                  have p254 : 0 ≤ (x130_5 : Int) := of_decide_eq_true (by first | (with_reducible assumption) | assumption)
                  have q254 : x130_5 < (l2_4.length : Int) := of_decide_eq_true (by first | (with_reducible assumption) | assumption)
                  obtain ⟨ad254, e254, hx254_0⟩ := Kd.at_int HR2_4.out x130_5 p254 q254
                  cases e254
                  replace hx254_0 := (HB.out.cell (World.block_lt_of_cell? w _ hx254_0)).trans hx254_0
                  replace p254 := eq_true p254
                  replace q254 := eq_true q254
                  go_wp2
                  go_roundg k5
                  case measure => have := HJ3.out; have := HJ22.out; have := HK3.out; have := HK4.out; have := HK5.out; omega
                  case rel => exact ⟨(false), (wrap64 (x130_5 + 1)), (by first | rfl | (simp; done) | (simp [*]; done)), (by first | rfl | (simp; done) | (simp [*]; done)), H', ⟨by have := HJ3.out; have := HJ22.out; have := HK3.out; have := HK4.out; have := HK5.out; omega⟩, ⟨by (with_reducible repeat (first | refine k0_ ?_ _ | refine k1_ ?_ | refine k2_ ?_ _)); exact BK247.out⟩, ⟨by (with_reducible repeat (first | refine k0_ ?_ _ | refine k1_ ?_ | refine k2_ ?_ _)); exact BK248.out⟩, ⟨by (with_reducible repeat (first | refine k0_ ?_ _ | refine k1_ ?_ | refine k2_ ?_ _)); exact BK249.out⟩, ⟨by repeat (first | (with_reducible first | exact HB.out | apply b0_ | apply b1_ | apply b2_ | refine below_set ?_ GE247.out | refine below_set ?_ GE248.out | refine below_set ?_ GE249.out) | exact HB.out)⟩⟩
                ·rw [if_neg c84] at H
                 exact absurd H (by simp)
               ·rw [if_neg c83] at H
                exact absurd H (by simp)
              ·rw [if_neg c82] at H
               have c82b0 : decide (x130_5 < (l2_4.length : Int)) = false := decide_eq_false c82
               clear c82
               by_cases c92 : x7_5 = true
               ·subst c92
                have H1 : ((preds_Check.f k5 (l0_1.length : Int) l2_5 a2_6).bind fun t256 => (some (t256 == 0))) = some r := by rw [if_pos rfl] at H; exact H
                clear H
                have H := H1
                clear H1
                replace H := Option.bind_eq_some_iff.mp H
                obtain ⟨t256, A930, H⟩ := H
                replace H : (some (t256 == 0)) = some r := H
                have A93 := M_ A930
                clear A930
                obtain rfl := Option.some.inj H
                have hnb94 := NB247_248.out
                have hnc94 := NB248_247.out
                have hnb95 := NB247_249.out
                have hnc95 := NB249_247.out
                have hcz96_0 : wr.cell? ⟨gb247, 0, none⟩ = some (.int .i64 a0_0) := (blk_cell BK247.out 0).trans rfl
                have hcz96_1 : wr.cell? ⟨gb247, 1, none⟩ = some (.slice A0_1 l0_1.length c0_1) := (blk_cell BK247.out 1).trans rfl
                have hcz96_2 : wr.cell? ⟨gb247, 2, none⟩ = some (.slice A0_2 l0_2.length c0_2) := (blk_cell BK247.out 2).trans rfl
                have hcz96_3 : wr.cell? ⟨gb247, 3, none⟩ = some (.slice A0_3 l0_3.length c0_3) := (blk_cell BK247.out 3).trans rfl
                have hcz96_4 : wr.cell? ⟨gb247, 4, none⟩ = some (.slice A0_4 l0_4.length c0_4) := (blk_cell BK247.out 4).trans rfl
                have hfz96_0 := blk_frozen BK247.out 0
                have hfz96_1 := blk_frozen BK247.out 1
                have hfz96_2 := blk_frozen BK247.out 2
                have hfz96_3 := blk_frozen BK247.out 3
                have hfz96_4 := blk_frozen BK247.out 4
                have hnb97 := NB249_248.out
                have hnc97 := NB248_249.out
                have hcz98_0 : wr.cell? ⟨gb249, 0, none⟩ = some (.int .i64 a2_0) := (blk_cell BK249.out 0).trans rfl
                have hcz98_1 : wr.cell? ⟨gb249, 1, none⟩ = some (.int .i64 a2_1) := (blk_cell BK249.out 1).trans rfl
                have hcz98_2 : wr.cell? ⟨gb249, 2, none⟩ = some (.slice A2_2 l2_2.length c2_2) := (blk_cell BK249.out 2).trans rfl
                have hcz98_3 : wr.cell? ⟨gb249, 3, none⟩ = some (.slice A2_3 l2_3.length c2_3) := (blk_cell BK249.out 3).trans rfl
                have hcz98_4 : wr.cell? ⟨gb249, 4, none⟩ = some (.slice A2_4 l2_4.length c2_4) := (blk_cell BK249.out 4).trans rfl
                have hcz98_5 : wr.cell? ⟨gb249, 5, none⟩ = some (.slice A2_5 l2_5.length c2_5) := (blk_cell BK249.out 5).trans rfl
                have hcz98_6 : wr.cell? ⟨gb249, 6, none⟩ = some (.int .i64 a2_6) := (blk_cell BK249.out 6).trans rfl
                have hfz98_0 := blk_frozen BK249.out 0
                have hfz98_1 := blk_frozen BK249.out 1
                have hfz98_2 := blk_frozen BK249.out 2
                have hfz98_3 := blk_frozen BK249.out 3
                have hfz98_4 := blk_frozen BK249.out 4
                have hfz98_5 := blk_frozen BK249.out 5
                have hfz98_6 := blk_frozen BK249.out 6
                go_wp2_with (first | (go_at_call 71; (with_reducible refine (preds_Check.calls k5 (l0_1.length : Int) _ _ l2_5 a2_6 t256 _ ?side1 ?side2 A93.out).mono ?_); (case side1 => repeat (first | exact (Kd.C_below HR2_5.out HB.out) | (with_reducible refine c0_ ?_ _) | (with_reducible refine c1_ ?_ _) | (with_reducible refine c2_ ?_))); (case side2 => exact HC2_5.out); rintro e w99 ⟨rfl, hb⟩; have n0_ := M_ (blk_below (g := gb247) (o := .cells #[.int .i64 a0_0, .slice A0_1 l0_1.length c0_1, .slice A0_2 l0_2.length c0_2, .slice A0_3 l0_3.length c0_3, .slice A0_4 l0_4.length c0_4] 26 (0, 0)) (by (with_reducible repeat (first | refine k0_ ?_ _ | refine k1_ ?_ | refine k2_ ?_ _)); exact BK247.out) hb); have n1_ := M_ (blk_below (g := gb248) (o := .cells #[.int .i64 a1_0, .slice A1_1 l1_1.length c1_1, .slice A1_2 l1_2.length c1_2, .slice A1_3 l1_3.length c1_3, .slice A1_4 l1_4.length c1_4] 26 (0, 0)) (by (with_reducible repeat (first | refine k0_ ?_ _ | refine k1_ ?_ | refine k2_ ?_ _)); exact BK248.out) hb); have n2_ := M_ (blk_below (g := gb249) (o := .cells #[.int .i64 a2_0, .int .i64 a2_1, .slice A2_2 l2_2.length c2_2, .slice A2_3 l2_3.length c2_3, .slice A2_4 l2_4.length c2_4, .slice A2_5 l2_5.length c2_5, .int .i64 a2_6] 53 (0, 0)) (by (with_reducible repeat (first | refine k0_ ?_ _ | refine k1_ ?_ | refine k2_ ?_ _)); exact BK249.out) hb); have n3_ := M_ (below_step (by repeat (first | (with_reducible first | exact HB.out | apply b0_ | apply b1_ | apply b2_ | refine below_set ?_ GE247.out | refine below_set ?_ GE248.out | refine below_set ?_ GE249.out) | exact HB.out)) hb); clear BK247; clear BK248; clear BK249; clear HB; have BK247 := n0_; have BK248 := n1_; have BK249 := n2_; have HB := n3_; clear n0_ n1_ n2_ n3_; (try clear hb); (try clear hb2); (try clear hk); (try clear hi)))
                go_ret
                exact ⟨by first | rfl | (simp [errW_none, errW_some] <;> rfl) | (simp [*, errW_none, errW_some] <;> rfl), by repeat (first | (with_reducible first | exact HB.out | apply b0_ | apply b1_ | apply b2_ | refine below_set ?_ GE247.out | refine below_set ?_ GE248.out | refine below_set ?_ GE249.out) | exact HB.out)⟩
               ·replace c92 := Bool.eq_false_iff.mpr c92
                subst c92
                have H1 : (some false) = some r := by rw [if_neg (show ¬ (false = true) by decide)] at H; exact H
                clear H
                have H := H1
                clear H1
                obtain rfl := Option.some.inj H
                go_wp2
                go_ret
                exact ⟨by first | rfl | (simp [errW_none, errW_some] <;> rfl) | (simp [*, errW_none, errW_some] <;> rfl), by repeat (first | (with_reducible first | exact HB.out | apply b0_ | apply b1_ | apply b2_ | refine below_set ?_ GE247.out | refine below_set ?_ GE248.out | refine below_set ?_ GE249.out) | exact HB.out)⟩

end Go.Proofs.Ytnbccfecmpocaaa.QHashValues
