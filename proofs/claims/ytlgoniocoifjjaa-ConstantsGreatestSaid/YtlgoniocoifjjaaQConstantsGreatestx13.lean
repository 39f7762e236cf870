-- Made by wip/myprint.sh (a patched print): a text of this session's own.
import Derived.Test.YtlgoniocoifjjaaQConstantsGreatestx0
import Derived.Test.YtlgoniocoifjjaaQConstantsGreatestx5
import Derived.Test.YtlgoniocoifjjaaQConstantsGreatestx6
import Derived.Test.YtlgoniocoifjjaaQConstantsGreatestx10
import Derived.Test.YtlgoniocoifjjaaQConstantsGreatestx11
import Derived.Test.YtlgoniocoifjjaaQConstantsGreatestx12
namespace Go.Proofs.Ytlgoniocoifjjaa.QConstantsGreatest
open Go.RowKit Go.Proofs.YtlgoniocoifjjaaW.PrintWords Go.Proofs.YtlgoniocoifjjaaW.PrintLast Go.Proofs.YtlgoniocoifjjaaW.PrintMore
attribute [local go_sem] max2_int min2_int max_two min_two max_three min_three max_four min_four   -- for this text's walks alone
set_option linter.unusedVariables false
set_option linter.unusedSimpArgs false

/-! ### spiritlevellaw27_ConstantsGreatest: function 6 -/
mutual
def spiritlevellaw27_ConstantsGreatest.j0 : Nat → List Int → Bool → Bool → Int → List (S45) → List (S55) → List Int → List Int → Option (Bool)
 | 0, _, _, _, _, _, _, _, _ => none
 | k + 1, x1, x5, x33, x266000, x266001, x266002, x266003, x266004 => if x33 = true then (some x5) else ((spiritlevelref26_None.f k x266000 x266001 x266002 x266003 x266004).bind fun t269 => (spiritlevellaw27_ConstantsGreatest.l0 k x1 x5 t269 0 x266000 x266001 x266002 x266003 x266004))
def spiritlevellaw27_ConstantsGreatest.l0 : Nat → List Int → Bool → List Int → Int → Int → List (S45) → List (S55) → List Int → List Int → Option (Bool)
 | 0, _, _, _, _, _, _, _, _, _ => none
 | k + 1, x1, x5, x6, x7, x266000, x266001, x266002, x266003, x266004 => if x7 < (x1.length : Int) then (if 0 ≤ x7 then (if (rd x1 x7) < 0 then (some x5) else (if (rd x1 x7) ≥ (x266001.length : Int) then (some x5) else (if 0 ≤ (rd x1 x7) then (if (rd x1 x7) < (x266001.length : Int) then (if ((rd_T45 x266001 (rd x1 x7)).f1) = 2 then (some x5) else (if 0 ≤ (wrap64 ((wrap64 (x266000 + 1)) + (rd x1 x7))) then (if (wrap64 ((wrap64 (x266000 + 1)) + (rd x1 x7))) < (x6.length : Int) then (spiritlevellaw27_ConstantsGreatest.l0 k x1 x5 (x6.set ((wrap64 ((wrap64 (x266000 + 1)) + (rd x1 x7))) : Int).toNat ((rd_T45 x266001 (rd x1 x7)).f1)) (wrap64 (x7 + 1)) x266000 x266001 x266002 x266003 x266004) else (none)) else (none))) else (none)) else (none)))) else (none)) else ((hash_Build.f x266000 x266001 x266002 x266003 x266004 x6).bind fun bt280 => ((constants_Stay.f k x266000 x266001 x266002 x266003 x266004).bind fun bt298 => (if bt280.2.2.2.2.2.2 = 0 then (if bt298.2 = 0 then (spiritlevellaw27_ConstantsGreatest.j2 k x1 x5 bt298.1 ((bt280.2.1.length : Int) != (x266001.length : Int)) x266000 x266001 x266002 x266003 x266004 bt280.1 bt280.2.1 bt280.2.2.1 bt280.2.2.2.1 bt280.2.2.2.2.1) else (spiritlevellaw27_ConstantsGreatest.j2 k x1 x5 bt298.1 true x266000 x266001 x266002 x266003 x266004 bt280.1 bt280.2.1 bt280.2.2.1 bt280.2.2.2.1 bt280.2.2.2.2.1)) else (spiritlevellaw27_ConstantsGreatest.j2 k x1 x5 bt298.1 true x266000 x266001 x266002 x266003 x266004 bt280.1 bt280.2.1 bt280.2.2.1 bt280.2.2.2.1 bt280.2.2.2.2.1))))
def spiritlevellaw27_ConstantsGreatest.j2 : Nat → List Int → Bool → List Int → Bool → Int → List (S45) → List (S55) → List Int → List Int → Int → List (S45) → List (S55) → List Int → List Int → Option (Bool)
 | 0, _, _, _, _, _, _, _, _, _, _, _, _, _, _ => none
 | k + 1, x1, x5, x11, x116, x266000, x266001, x266002, x266003, x266004, x298000, x298001, x298002, x298003, x298004 => if x116 = true then (some false) else (spiritlevellaw27_ConstantsGreatest.l1 k x1 x5 x11 0 x266000 x266001 x266002 x266003 x266004 x298000 x298001 x298002 x298003 x298004)
def spiritlevellaw27_ConstantsGreatest.l1 : Nat → List Int → Bool → List Int → Int → Int → List (S45) → List (S55) → List Int → List Int → Int → List (S45) → List (S55) → List Int → List Int → Option (Bool)
 | 0, _, _, _, _, _, _, _, _, _, _, _, _, _, _ => none
 | k + 1, x1, x5, x11, x13, x266000, x266001, x266002, x266003, x266004, x298000, x298001, x298002, x298003, x298004 => if x13 < (x1.length : Int) then (if 0 ≤ x13 then (if 0 ≤ (rd x1 x13) then (if (rd x1 x13) < (x298001.length : Int) then (if (rd x1 x13) < (x266001.length : Int) then (if ((rd_T45 x298001 (rd x1 x13)).f0) = ((rd_T45 x266001 (rd x1 x13)).f1) then (spiritlevellaw27_ConstantsGreatest.l1 k x1 x5 x11 (wrap64 (x13 + 1)) x266000 x266001 x266002 x266003 x266004 x298000 x298001 x298002 x298003 x298004) else (some x5)) else (none)) else (none)) else (none)) else (none)) else (spiritlevellaw27_ConstantsGreatest.l2 k x1 x5 x11 0)
def spiritlevellaw27_ConstantsGreatest.l2 : Nat → List Int → Bool → List Int → Int → Option (Bool)
 | 0, _, _, _, _ => none
 | k + 1, x1, x5, x11, x14 => if x14 < (x1.length : Int) then (spiritlevellaw27_ConstantsGreatest.l3 k x1 x5 x11 x14 false 0) else (some x5)
def spiritlevellaw27_ConstantsGreatest.l3 : Nat → List Int → Bool → List Int → Int → Bool → Int → Option (Bool)
 | 0, _, _, _, _, _, _ => none
 | k + 1, x1, x5, x11, x14, x15, x16 => if x16 < (x11.length : Int) then (if x15 = true then (spiritlevellaw27_ConstantsGreatest.l3 k x1 x5 x11 x14 true (wrap64 (x16 + 1))) else (if 0 ≤ x16 then (if 0 ≤ x14 then (if x14 < (x1.length : Int) then (spiritlevellaw27_ConstantsGreatest.l3 k x1 x5 x11 x14 ((rd x11 x16) == (rd x1 x14)) (wrap64 (x16 + 1))) else (none)) else (none)) else (none))) else (if x15 = true then (spiritlevellaw27_ConstantsGreatest.l2 k x1 x5 x11 (wrap64 (x14 + 1))) else (some false))
end
def spiritlevellaw27_ConstantsGreatest.f (k : Nat) (a0_0 : Int) (l0_1 : List (S45)) (l0_2 : List (S55)) (l0_3 : List Int) (l0_4 : List Int) (l1 : List Int) : Option (Bool) := (spiritlevellaw27_alive.f k).bind fun t266 => ((spiritlevelref02_Great.f a0_0 l0_1 l0_2 l0_3 l0_4).bind fun t267 => (if t267 = true then (spiritlevellaw27_ConstantsGreatest.j0 k l1 t266 true a0_0 l0_1 l0_2 l0_3 l0_4) else ((spiritlevelref02_Check.f k a0_0 l0_1 l0_2 l0_3 l0_4).bind fun t268 => (if t268 = 0 then (if (l1.length : Int) > 20 then (spiritlevellaw27_ConstantsGreatest.j0 k l1 t266 true a0_0 l0_1 l0_2 l0_3 l0_4) else (spiritlevellaw27_ConstantsGreatest.j0 k l1 t266 (!t266) a0_0 l0_1 l0_2 l0_3 l0_4)) else (spiritlevellaw27_ConstantsGreatest.j0 k l1 t266 true a0_0 l0_1 l0_2 l0_3 l0_4)))))
theorem spiritlevellaw27_ConstantsGreatest.mono_l : ∀ k, (∀ y0 y1 y2 y3 y4 y5 y6 y7, LeO (spiritlevellaw27_ConstantsGreatest.j0 k y0 y1 y2 y3 y4 y5 y6 y7) (spiritlevellaw27_ConstantsGreatest.j0 (k + 1) y0 y1 y2 y3 y4 y5 y6 y7)) ∧ (∀ y0 y1 y2 y3 y4 y5 y6 y7 y8, LeO (spiritlevellaw27_ConstantsGreatest.l0 k y0 y1 y2 y3 y4 y5 y6 y7 y8) (spiritlevellaw27_ConstantsGreatest.l0 (k + 1) y0 y1 y2 y3 y4 y5 y6 y7 y8)) ∧ (∀ y0 y1 y2 y3 y4 y5 y6 y7 y8 y9 y10 y11 y12 y13, LeO (spiritlevellaw27_ConstantsGreatest.j2 k y0 y1 y2 y3 y4 y5 y6 y7 y8 y9 y10 y11 y12 y13) (spiritlevellaw27_ConstantsGreatest.j2 (k + 1) y0 y1 y2 y3 y4 y5 y6 y7 y8 y9 y10 y11 y12 y13)) ∧ (∀ y0 y1 y2 y3 y4 y5 y6 y7 y8 y9 y10 y11 y12 y13, LeO (spiritlevellaw27_ConstantsGreatest.l1 k y0 y1 y2 y3 y4 y5 y6 y7 y8 y9 y10 y11 y12 y13) (spiritlevellaw27_ConstantsGreatest.l1 (k + 1) y0 y1 y2 y3 y4 y5 y6 y7 y8 y9 y10 y11 y12 y13)) ∧ (∀ y0 y1 y2 y3, LeO (spiritlevellaw27_ConstantsGreatest.l2 k y0 y1 y2 y3) (spiritlevellaw27_ConstantsGreatest.l2 (k + 1) y0 y1 y2 y3)) ∧ (∀ y0 y1 y2 y3 y4 y5, LeO (spiritlevellaw27_ConstantsGreatest.l3 k y0 y1 y2 y3 y4 y5) (spiritlevellaw27_ConstantsGreatest.l3 (k + 1) y0 y1 y2 y3 y4 y5))
 | 0 => ⟨fun _ _ _ _ _ _ _ _ r h => by simp [spiritlevellaw27_ConstantsGreatest.j0] at h, fun _ _ _ _ _ _ _ _ _ r h => by simp [spiritlevellaw27_ConstantsGreatest.l0] at h, fun _ _ _ _ _ _ _ _ _ _ _ _ _ _ r h => by simp [spiritlevellaw27_ConstantsGreatest.j2] at h, fun _ _ _ _ _ _ _ _ _ _ _ _ _ _ r h => by simp [spiritlevellaw27_ConstantsGreatest.l1] at h, fun _ _ _ _ r h => by simp [spiritlevellaw27_ConstantsGreatest.l2] at h, fun _ _ _ _ _ _ r h => by simp [spiritlevellaw27_ConstantsGreatest.l3] at h⟩
 | k + 1 => by
  obtain ⟨ih0, ih1, ih2, ih3, ih4, ih5⟩ := spiritlevellaw27_ConstantsGreatest.mono_l k
  refine ⟨?_, ?_, ?_, ?_, ?_, ?_⟩
  ·intro y0 y1 y2 y3 y4 y5 y6 y7
   unfold spiritlevellaw27_ConstantsGreatest.j0
   repeat' first
   | (with_reducible exact ih0 _ _ _ _ _ _ _ _)
   | (with_reducible exact ih1 _ _ _ _ _ _ _ _ _)
   | (with_reducible exact ih2 _ _ _ _ _ _ _ _ _ _ _ _ _ _)
   | (with_reducible exact ih3 _ _ _ _ _ _ _ _ _ _ _ _ _ _)
   | (with_reducible exact ih4 _ _ _ _)
   | (with_reducible exact ih5 _ _ _ _ _ _)
   | (with_reducible exact constants_Stay.mono _ _ _ _ _ _)
   | (with_reducible exact spiritlevellaw27_alive.mono _)
   | (with_reducible exact spiritlevelref02_Check.mono _ _ _ _ _ _)
   | (with_reducible exact spiritlevelref26_None.mono _ _ _ _ _ _)
   | (with_reducible exact LeO.refl _)
   | (with_reducible exact LeO.none _)
   | (with_reducible refine LeO.ite ?_ ?_)
   | (with_reducible refine LeO.bind ?_ (fun _ => ?_))
   | exact ih0 _ _ _ _ _ _ _ _
   | exact ih1 _ _ _ _ _ _ _ _ _
   | exact ih2 _ _ _ _ _ _ _ _ _ _ _ _ _ _
   | exact ih3 _ _ _ _ _ _ _ _ _ _ _ _ _ _
   | exact ih4 _ _ _ _
   | exact ih5 _ _ _ _ _ _
   | exact constants_Stay.mono _ _ _ _ _ _
   | exact spiritlevellaw27_alive.mono _
   | exact spiritlevelref02_Check.mono _ _ _ _ _ _
   | exact spiritlevelref26_None.mono _ _ _ _ _ _
   | exact LeO.none _
   | refine LeO.ite ?_ ?_
   | refine LeO.bind ?_ (fun _ => ?_)
  ·intro y0 y1 y2 y3 y4 y5 y6 y7 y8
   unfold spiritlevellaw27_ConstantsGreatest.l0
   repeat' first
   | (with_reducible exact ih0 _ _ _ _ _ _ _ _)
   | (with_reducible exact ih1 _ _ _ _ _ _ _ _ _)
   | (with_reducible exact ih2 _ _ _ _ _ _ _ _ _ _ _ _ _ _)
   | (with_reducible exact ih3 _ _ _ _ _ _ _ _ _ _ _ _ _ _)
   | (with_reducible exact ih4 _ _ _ _)
   | (with_reducible exact ih5 _ _ _ _ _ _)
   | (with_reducible exact constants_Stay.mono _ _ _ _ _ _)
   | (with_reducible exact spiritlevellaw27_alive.mono _)
   | (with_reducible exact spiritlevelref02_Check.mono _ _ _ _ _ _)
   | (with_reducible exact spiritlevelref26_None.mono _ _ _ _ _ _)
   | (with_reducible exact LeO.refl _)
   | (with_reducible exact LeO.none _)
   | (with_reducible refine LeO.ite ?_ ?_)
   | (with_reducible refine LeO.bind ?_ (fun _ => ?_))
   | exact ih0 _ _ _ _ _ _ _ _
   | exact ih1 _ _ _ _ _ _ _ _ _
   | exact ih2 _ _ _ _ _ _ _ _ _ _ _ _ _ _
   | exact ih3 _ _ _ _ _ _ _ _ _ _ _ _ _ _
   | exact ih4 _ _ _ _
   | exact ih5 _ _ _ _ _ _
   | exact constants_Stay.mono _ _ _ _ _ _
   | exact spiritlevellaw27_alive.mono _
   | exact spiritlevelref02_Check.mono _ _ _ _ _ _
   | exact spiritlevelref26_None.mono _ _ _ _ _ _
   | exact LeO.none _
   | refine LeO.ite ?_ ?_
   | refine LeO.bind ?_ (fun _ => ?_)
  ·intro y0 y1 y2 y3 y4 y5 y6 y7 y8 y9 y10 y11 y12 y13
   unfold spiritlevellaw27_ConstantsGreatest.j2
   repeat' first
   | (with_reducible exact ih0 _ _ _ _ _ _ _ _)
   | (with_reducible exact ih1 _ _ _ _ _ _ _ _ _)
   | (with_reducible exact ih2 _ _ _ _ _ _ _ _ _ _ _ _ _ _)
   | (with_reducible exact ih3 _ _ _ _ _ _ _ _ _ _ _ _ _ _)
   | (with_reducible exact ih4 _ _ _ _)
   | (with_reducible exact ih5 _ _ _ _ _ _)
   | (with_reducible exact constants_Stay.mono _ _ _ _ _ _)
   | (with_reducible exact spiritlevellaw27_alive.mono _)
   | (with_reducible exact spiritlevelref02_Check.mono _ _ _ _ _ _)
   | (with_reducible exact spiritlevelref26_None.mono _ _ _ _ _ _)
   | (with_reducible exact LeO.refl _)
   | (with_reducible exact LeO.none _)
   | (with_reducible refine LeO.ite ?_ ?_)
   | (with_reducible refine LeO.bind ?_ (fun _ => ?_))
   | exact ih0 _ _ _ _ _ _ _ _
   | exact ih1 _ _ _ _ _ _ _ _ _
   | exact ih2 _ _ _ _ _ _ _ _ _ _ _ _ _ _
   | exact ih3 _ _ _ _ _ _ _ _ _ _ _ _ _ _
   | exact ih4 _ _ _ _
   | exact ih5 _ _ _ _ _ _
   | exact constants_Stay.mono _ _ _ _ _ _
   | exact spiritlevellaw27_alive.mono _
   | exact spiritlevelref02_Check.mono _ _ _ _ _ _
   | exact spiritlevelref26_None.mono _ _ _ _ _ _
   | exact LeO.none _
   | refine LeO.ite ?_ ?_
   | refine LeO.bind ?_ (fun _ => ?_)
  ·intro y0 y1 y2 y3 y4 y5 y6 y7 y8 y9 y10 y11 y12 y13
   unfold spiritlevellaw27_ConstantsGreatest.l1
   repeat' first
   | (with_reducible exact ih0 _ _ _ _ _ _ _ _)
   | (with_reducible exact ih1 _ _ _ _ _ _ _ _ _)
   | (with_reducible exact ih2 _ _ _ _ _ _ _ _ _ _ _ _ _ _)
   | (with_reducible exact ih3 _ _ _ _ _ _ _ _ _ _ _ _ _ _)
   | (with_reducible exact ih4 _ _ _ _)
   | (with_reducible exact ih5 _ _ _ _ _ _)
   | (with_reducible exact constants_Stay.mono _ _ _ _ _ _)
   | (with_reducible exact spiritlevellaw27_alive.mono _)
   | (with_reducible exact spiritlevelref02_Check.mono _ _ _ _ _ _)
   | (with_reducible exact spiritlevelref26_None.mono _ _ _ _ _ _)
   | (with_reducible exact LeO.refl _)
   | (with_reducible exact LeO.none _)
   | (with_reducible refine LeO.ite ?_ ?_)
   | (with_reducible refine LeO.bind ?_ (fun _ => ?_))
   | exact ih0 _ _ _ _ _ _ _ _
   | exact ih1 _ _ _ _ _ _ _ _ _
   | exact ih2 _ _ _ _ _ _ _ _ _ _ _ _ _ _
   | exact ih3 _ _ _ _ _ _ _ _ _ _ _ _ _ _
   | exact ih4 _ _ _ _
   | exact ih5 _ _ _ _ _ _
   | exact constants_Stay.mono _ _ _ _ _ _
   | exact spiritlevellaw27_alive.mono _
   | exact spiritlevelref02_Check.mono _ _ _ _ _ _
   | exact spiritlevelref26_None.mono _ _ _ _ _ _
   | exact LeO.none _
   | refine LeO.ite ?_ ?_
   | refine LeO.bind ?_ (fun _ => ?_)
  ·intro y0 y1 y2 y3
   unfold spiritlevellaw27_ConstantsGreatest.l2
   repeat' first
   | (with_reducible exact ih0 _ _ _ _ _ _ _ _)
   | (with_reducible exact ih1 _ _ _ _ _ _ _ _ _)
   | (with_reducible exact ih2 _ _ _ _ _ _ _ _ _ _ _ _ _ _)
   | (with_reducible exact ih3 _ _ _ _ _ _ _ _ _ _ _ _ _ _)
   | (with_reducible exact ih4 _ _ _ _)
   | (with_reducible exact ih5 _ _ _ _ _ _)
   | (with_reducible exact constants_Stay.mono _ _ _ _ _ _)
   | (with_reducible exact spiritlevellaw27_alive.mono _)
   | (with_reducible exact spiritlevelref02_Check.mono _ _ _ _ _ _)
   | (with_reducible exact spiritlevelref26_None.mono _ _ _ _ _ _)
   | (with_reducible exact LeO.refl _)
   | (with_reducible exact LeO.none _)
   | (with_reducible refine LeO.ite ?_ ?_)
   | (with_reducible refine LeO.bind ?_ (fun _ => ?_))
   | exact ih0 _ _ _ _ _ _ _ _
   | exact ih1 _ _ _ _ _ _ _ _ _
   | exact ih2 _ _ _ _ _ _ _ _ _ _ _ _ _ _
   | exact ih3 _ _ _ _ _ _ _ _ _ _ _ _ _ _
   | exact ih4 _ _ _ _
   | exact ih5 _ _ _ _ _ _
   | exact constants_Stay.mono _ _ _ _ _ _
   | exact spiritlevellaw27_alive.mono _
   | exact spiritlevelref02_Check.mono _ _ _ _ _ _
   | exact spiritlevelref26_None.mono _ _ _ _ _ _
   | exact LeO.none _
   | refine LeO.ite ?_ ?_
   | refine LeO.bind ?_ (fun _ => ?_)
  ·intro y0 y1 y2 y3 y4 y5
   unfold spiritlevellaw27_ConstantsGreatest.l3
   repeat' first
   | (with_reducible exact ih0 _ _ _ _ _ _ _ _)
   | (with_reducible exact ih1 _ _ _ _ _ _ _ _ _)
   | (with_reducible exact ih2 _ _ _ _ _ _ _ _ _ _ _ _ _ _)
   | (with_reducible exact ih3 _ _ _ _ _ _ _ _ _ _ _ _ _ _)
   | (with_reducible exact ih4 _ _ _ _)
   | (with_reducible exact ih5 _ _ _ _ _ _)
   | (with_reducible exact constants_Stay.mono _ _ _ _ _ _)
   | (with_reducible exact spiritlevellaw27_alive.mono _)
   | (with_reducible exact spiritlevelref02_Check.mono _ _ _ _ _ _)
   | (with_reducible exact spiritlevelref26_None.mono _ _ _ _ _ _)
   | (with_reducible exact LeO.refl _)
   | (with_reducible exact LeO.none _)
   | (with_reducible refine LeO.ite ?_ ?_)
   | (with_reducible refine LeO.bind ?_ (fun _ => ?_))
   | exact ih0 _ _ _ _ _ _ _ _
   | exact ih1 _ _ _ _ _ _ _ _ _
   | exact ih2 _ _ _ _ _ _ _ _ _ _ _ _ _ _
   | exact ih3 _ _ _ _ _ _ _ _ _ _ _ _ _ _
   | exact ih4 _ _ _ _
   | exact ih5 _ _ _ _ _ _
   | exact constants_Stay.mono _ _ _ _ _ _
   | exact spiritlevellaw27_alive.mono _
   | exact spiritlevelref02_Check.mono _ _ _ _ _ _
   | exact spiritlevelref26_None.mono _ _ _ _ _ _
   | exact LeO.none _
   | refine LeO.ite ?_ ?_
   | refine LeO.bind ?_ (fun _ => ?_)
theorem spiritlevellaw27_ConstantsGreatest.mono : ∀ a0 a1 a2 a3 a4 a5 k, LeO (spiritlevellaw27_ConstantsGreatest.f k a0 a1 a2 a3 a4 a5) (spiritlevellaw27_ConstantsGreatest.f (k + 1) a0 a1 a2 a3 a4 a5) := by
 intro a0 a1 a2 a3 a4 a5 k
 obtain ⟨ih0, ih1, ih2, ih3, ih4, ih5⟩ := spiritlevellaw27_ConstantsGreatest.mono_l k
 unfold spiritlevellaw27_ConstantsGreatest.f
 repeat' first
   | (with_reducible exact ih0 _ _ _ _ _ _ _ _)
   | (with_reducible exact ih1 _ _ _ _ _ _ _ _ _)
   | (with_reducible exact ih2 _ _ _ _ _ _ _ _ _ _ _ _ _ _)
   | (with_reducible exact ih3 _ _ _ _ _ _ _ _ _ _ _ _ _ _)
   | (with_reducible exact ih4 _ _ _ _)
   | (with_reducible exact ih5 _ _ _ _ _ _)
   | (with_reducible exact constants_Stay.mono _ _ _ _ _ _)
   | (with_reducible exact spiritlevellaw27_alive.mono _)
   | (with_reducible exact spiritlevelref02_Check.mono _ _ _ _ _ _)
   | (with_reducible exact spiritlevelref26_None.mono _ _ _ _ _ _)
   | (with_reducible exact LeO.refl _)
   | (with_reducible exact LeO.none _)
   | (with_reducible refine LeO.ite ?_ ?_)
   | (with_reducible refine LeO.bind ?_ (fun _ => ?_))
   | exact ih0 _ _ _ _ _ _ _ _
   | exact ih1 _ _ _ _ _ _ _ _ _
   | exact ih2 _ _ _ _ _ _ _ _ _ _ _ _ _ _
   | exact ih3 _ _ _ _ _ _ _ _ _ _ _ _ _ _
   | exact ih4 _ _ _ _
   | exact ih5 _ _ _ _ _ _
   | exact constants_Stay.mono _ _ _ _ _ _
   | exact spiritlevellaw27_alive.mono _
   | exact spiritlevelref02_Check.mono _ _ _ _ _ _
   | exact spiritlevelref26_None.mono _ _ _ _ _ _
   | exact LeO.none _
   | refine LeO.ite ?_ ?_
   | refine LeO.bind ?_ (fun _ => ?_)
def spiritlevellaw27_ConstantsGreatest.T8 : Bool × List (List Nat × List Nat) := (true, [([], []), ([], []), ([0, 1], [0, 1]), ([2], [2]), ([3], [3]), ([4], [4]), ([5], [5]), ([5], [5]), ([6, 7, 5], [5, 6, 7]), ([8, 5], [5, 8]), ([5], [5]), ([10, 5], [5, 10]), ([11, 5], [5, 11]), ([9, 12, 5], [5, 9, 12]), ([5, 13], [5, 13]), ([14, 5], [14]), ([15], [15]), ([16, 15], [15, 16]), ([15], [15]), ([15], [15]), ([18, 19, 15], [15, 18, 19]), ([20, 15], [15, 20]), ([17, 21, 15], [15, 17, 21]), ([22, 15], [15, 22]), ([23, 15], [15, 23]), ([24, 15], [15, 24]), ([15, 25], [15, 25])])
def spiritlevellaw27_ConstantsGreatest.B8 : List Nat := [0, 0, 3, 7, 15, 31, 63, 63, 255, 511, 63, 1087, 3135, 8191, 16383, 32767, 65535, 131071, 65535, 65535, 851967, 1900543, 4194303, 8388607, 16777215, 33554431, 67108863]
theorem spiritlevellaw27_ConstantsGreatest.tab8 : rtab .any (opsOf Try.f6 8) = spiritlevellaw27_ConstantsGreatest.T8 := by kernel_rfl
theorem spiritlevellaw27_ConstantsGreatest.bits8 : waitsOk spiritlevellaw27_ConstantsGreatest.T8.2 spiritlevellaw27_ConstantsGreatest.B8 = true := by kernel_rfl
def spiritlevellaw27_ConstantsGreatest.T10 : Bool × List (List Nat × List Nat) := (true, [([], []), ([], []), ([1], [1]), ([2], [2]), ([], []), ([], []), ([4, 5], [4, 5]), ([6], [6]), ([3, 7], [3, 7]), ([], []), ([9], [9]), ([], []), ([], []), ([11, 12], [11, 12]), ([13], [13]), ([10, 14], [10, 14]), ([15], [15]), ([16], [16]), ([0, 8, 0, 1, 2, 3, 4, 5, 6, 7, 8, 9, 10, 11, 12, 13, 14, 15, 16, 17], [0, 8]), ([18, 17, 0, 1, 2, 3, 4, 5, 6, 7, 8, 9, 10, 11, 12, 13, 14, 15, 16, 17], [17, 18])])
def spiritlevellaw27_ConstantsGreatest.B10 : List Nat := [0, 0, 2, 6, 0, 0, 48, 112, 254, 0, 512, 0, 0, 6144, 14336, 32256, 65024, 130560, 262143, 524287]
theorem spiritlevellaw27_ConstantsGreatest.tab10 : rtab .any (opsOf Try.f6 10) = spiritlevellaw27_ConstantsGreatest.T10 := by kernel_rfl
theorem spiritlevellaw27_ConstantsGreatest.bits10 : waitsOk spiritlevellaw27_ConstantsGreatest.T10.2 spiritlevellaw27_ConstantsGreatest.B10 = true := by kernel_rfl
def spiritlevellaw27_ConstantsGreatest.T18 : Bool × List (List Nat × List Nat) := (true, [([], []), ([0], [0]), ([], []), ([], []), ([2, 3], [2, 3]), ([4], [4]), ([1, 5], [1, 5]), ([6], [6]), ([7], [7]), ([], []), ([9], [9]), ([], []), ([], []), ([11, 12], [11, 12]), ([13], [13]), ([10, 14], [10, 14]), ([15], [15]), ([16], [16]), ([8, 17], [8, 17])])
def spiritlevellaw27_ConstantsGreatest.B18 : List Nat := [0, 1, 0, 0, 12, 28, 63, 127, 255, 0, 512, 0, 0, 6144, 14336, 32256, 65024, 130560, 262143]
theorem spiritlevellaw27_ConstantsGreatest.tab18 : rtab .any (opsOf Try.f6 18) = spiritlevellaw27_ConstantsGreatest.T18 := by kernel_rfl
theorem spiritlevellaw27_ConstantsGreatest.bits18 : waitsOk spiritlevellaw27_ConstantsGreatest.T18.2 spiritlevellaw27_ConstantsGreatest.B18 = true := by kernel_rfl
def spiritlevellaw27_ConstantsGreatest.T27 : Bool × List (List Nat × List Nat) := (true, [([], []), ([0], [0]), ([1], [1]), ([1], [1]), ([2, 3, 1], [1, 2, 3]), ([4, 1], [1, 4]), ([1], [1]), ([1], [1]), ([6, 7, 1], [1, 6, 7]), ([8, 1], [1, 8]), ([5, 9, 1], [1, 5, 9]), ([1, 10], [1, 10]), ([11, 1, 0, 1, 2, 3, 4, 5, 6, 7, 8, 9, 10, 11], [0, 11])])
def spiritlevellaw27_ConstantsGreatest.B27 : List Nat := [0, 1, 3, 3, 15, 31, 3, 3, 195, 451, 1023, 2047, 4095]
theorem spiritlevellaw27_ConstantsGreatest.tab27 : rtab .any (opsOf Try.f6 27) = spiritlevellaw27_ConstantsGreatest.T27 := by kernel_rfl
theorem spiritlevellaw27_ConstantsGreatest.bits27 : waitsOk spiritlevellaw27_ConstantsGreatest.T27.2 spiritlevellaw27_ConstantsGreatest.B27 = true := by kernel_rfl
set_option maxHeartbeats 8000000 in
set_option maxRecDepth 100000 in
theorem spiritlevellaw27_ConstantsGreatest.calls (k : Nat) (a0_0 : Int) (A0_1 : Option Addr) (c0_1 : Nat) (l0_1 : List (S45)) (A0_2 : Option Addr) (c0_2 : Nat) (l0_2 : List (S55)) (A0_3 : Option Addr) (c0_3 : Nat) (l0_3 : List Int) (A0_4 : Option Addr) (c0_4 : Nat) (l0_4 : List Int) (A1 : Option Addr) (c1 : Nat) (l1 : List Int) (r : Bool) (w : World) (hr0_1 : Kd.C k45 w A0_1 l0_1.length l0_1) (hc0_1 : l0_1.length ≤ c0_1) (hr0_2 : Kd.C k55 w A0_2 l0_2.length l0_2) (hc0_2 : l0_2.length ≤ c0_2) (hr0_3 : Kd.C (Kd.int .i64) w A0_3 l0_3.length l0_3) (hc0_3 : l0_3.length ≤ c0_3) (hr0_4 : Kd.C (Kd.int .i64) w A0_4 l0_4.length l0_4) (hc0_4 : l0_4.length ≤ c0_4) (hr1 : Kd.C (Kd.int .i64) w A1 l1.length l1) (hc1 : l1.length ≤ c1) (ht_ : r = true) (h : spiritlevellaw27_ConstantsGreatest.f k a0_0 l0_1 l0_2 l0_3 l0_4 l1 = some r) :
  Calls Try.prog 6 #[.agg #[.int .i64 a0_0, .slice A0_1 l0_1.length c0_1, .slice A0_2 l0_2.length c0_2, .slice A0_3 l0_3.length c0_3, .slice A0_4 l0_4.length c0_4], .slice A1 l1.length c1] w fun e w' => e = .returned (.bool r) ∧ Below w.heap.size w w' := by
 have HTR_ := M_ ht_
 clear ht_
 have hu26 := Try.underlying26
 have HR0_1 := M_ hr0_1
 have HC0_1 := M_ hc0_1
 clear hr0_1 hc0_1
 have HR0_2 := M_ hr0_2
 have HC0_2 := M_ hc0_2
 clear hr0_2 hc0_2
 have HR0_3 := M_ hr0_3
 have HC0_3 := M_ hc0_3
 clear hr0_3 hc0_3
 have HR0_4 := M_ hr0_4
 have HC0_4 := M_ hc0_4
 clear hr0_4 hc0_4
 have HR1 := M_ hr1
 have HC1 := M_ hc1
 clear hr1 hc1
 have HB := M_ (Below.refl w.heap.size w)
 have H : ((spiritlevellaw27_alive.f k).bind fun t266 => ((spiritlevelref02_Great.f a0_0 l0_1 l0_2 l0_3 l0_4).bind fun t267 => (if t267 = true then (spiritlevellaw27_ConstantsGreatest.j0 k l1 t266 true a0_0 l0_1 l0_2 l0_3 l0_4) else ((spiritlevelref02_Check.f k a0_0 l0_1 l0_2 l0_3 l0_4).bind fun t268 => (if t268 = 0 then (if (l1.length : Int) > 20 then (spiritlevellaw27_ConstantsGreatest.j0 k l1 t266 true a0_0 l0_1 l0_2 l0_3 l0_4) else (spiritlevellaw27_ConstantsGreatest.j0 k l1 t266 (!t266) a0_0 l0_1 l0_2 l0_3 l0_4)) else (spiritlevellaw27_ConstantsGreatest.j0 k l1 t266 true a0_0 l0_1 l0_2 l0_3 l0_4)))))) = some r := h
 clear h
 replace H := Option.bind_eq_some_iff.mp H
 obtain ⟨t266, A30, H⟩ := H
 replace H : ((spiritlevelref02_Great.f a0_0 l0_1 l0_2 l0_3 l0_4).bind fun t267 => (if t267 = true then (spiritlevellaw27_ConstantsGreatest.j0 k l1 t266 true a0_0 l0_1 l0_2 l0_3 l0_4) else ((spiritlevelref02_Check.f k a0_0 l0_1 l0_2 l0_3 l0_4).bind fun t268 => (if t268 = 0 then (if (l1.length : Int) > 20 then (spiritlevellaw27_ConstantsGreatest.j0 k l1 t266 true a0_0 l0_1 l0_2 l0_3 l0_4) else (spiritlevellaw27_ConstantsGreatest.j0 k l1 t266 (!t266) a0_0 l0_1 l0_2 l0_3 l0_4)) else (spiritlevellaw27_ConstantsGreatest.j0 k l1 t266 true a0_0 l0_1 l0_2 l0_3 l0_4))))) = some r := H
 have A3 := M_ A30
 clear A30
 have HC4 := M_ H
 clear H
 go_enter Try.func6, Try.ntmps6
 go_upto_region 2 with (first | ((with_reducible refine gate_dst (N := 2) rfl ?_); (try (refine gate_guard (by rfl) ?_; dsimp only)); refine box_event ?hg (N := 2) ?hd (cs := #[.int .i64 a0_0, .slice A0_1 l0_1.length c0_1, .slice A0_2 l0_2.length c0_2, .slice A0_3 l0_3.length c0_3, .slice A0_4 l0_4.length c0_4]) (t := 26) ?hr ?_; (case hd => rfl); (case hg => rfl); (case hr => first | (go_simp; done) | (go_simp; rfl)); intro gb265 hg w5 hbox hb; have n0_ := M_ (below_step (by repeat (first | (with_reducible first | exact HB.out | apply b0_ | apply b1_ | apply b2_) | exact HB.out)) hb); have n1_ := M_ (hbox); have n2_ := M_ ((by rw [hg]; exact (below_size (by repeat (first | (with_reducible first | exact HB.out | apply b0_ | apply b1_ | apply b2_) | exact HB.out))) : w.heap.size ≤ gb265)); have n3_ := M_ ((by rw [hg]; exact (below_size (by repeat (first | (with_reducible first | exact HB.out | apply b0_ | apply b1_ | apply b2_) | exact HB.out))) : w.heap.size ≤ gb265)); clear HB; have HB := n0_; have BK265 := n1_; have GW265 := n2_; have GE265 := n3_; clear n0_ n1_ n2_ n3_; clear hb hbox hg) | ((with_reducible refine gate_callee (f := 8) rfl ?_); refine goesL_ (some 17) rfl rfl Try.func8 (by kernel_rfl) rfl #[] rfl (by (try simp only [List.map_toArray, List.map_cons, List.map_nil]); first | done | rfl | (simp only [List.length_drop, List.length_take]; rfl)) ?_; (with_reducible refine (spiritlevellaw27_alive.calls k  t266 _ A3.out).mono ?_); rintro e w6 ⟨rfl, hb⟩; refine ⟨_, rfl, ?_⟩; have n0_ := M_ (blk_below (g := gb265) (o := .cells #[.int .i64 a0_0, .slice A0_1 l0_1.length c0_1, .slice A0_2 l0_2.length c0_2, .slice A0_3 l0_3.length c0_3, .slice A0_4 l0_4.length c0_4] 26 (0, 0)) (by (with_reducible repeat (first | refine blk_drewN ?_ _ | refine blk_drew ?_ | refine blk_alloc ?_ _)); exact BK265.out) hb); have n1_ := M_ (below_step (by repeat (first | (with_reducible first | exact HB.out | apply b0_ | apply b1_ | apply b2_ | refine below_set ?_ GE265.out) | exact HB.out)) hb); clear BK265; clear HB; have BK265 := n0_; have HB := n1_; clear n0_ n1_; (try clear hb); (try clear hb2); (try clear hk); (try clear hi)))
 (try simp only [Act.put, e1_, e2_, e3_])
 go_cut [33] (fun v33 wc => ∃ (kq : Nat) (x33_3 : Bool), v33 = .bool x33_3 ∧ Aside0 (spiritlevellaw27_ConstantsGreatest.j0 kq l1 t266 x33_3 a0_0 l0_1 l0_2 l0_3 l0_4 = some r) ∧ Aside0 (kq ≤ k) ∧ Aside0 (wc.heap[gb265]? = some (.cells #[.int .i64 a0_0, (.slice A0_1 l0_1.length c0_1), (.slice A0_2 l0_2.length c0_2), (.slice A0_3 l0_3.length c0_3), (.slice A0_4 l0_4.length c0_4)] 26 (0, 0))) ∧ Aside0 (Below w.heap.size w wc))
 case first =>
  have H := HC4.out
  clear HC4
  replace H := Option.bind_eq_some_iff.mp H
  obtain ⟨t267, A70, H⟩ := H
  replace H : (if t267 = true then (spiritlevellaw27_ConstantsGreatest.j0 k l1 t266 true a0_0 l0_1 l0_2 l0_3 l0_4) else ((spiritlevelref02_Check.f k a0_0 l0_1 l0_2 l0_3 l0_4).bind fun t268 => (if t268 = 0 then (if (l1.length : Int) > 20 then (spiritlevellaw27_ConstantsGreatest.j0 k l1 t266 true a0_0 l0_1 l0_2 l0_3 l0_4) else (spiritlevellaw27_ConstantsGreatest.j0 k l1 t266 (!t266) a0_0 l0_1 l0_2 l0_3 l0_4)) else (spiritlevellaw27_ConstantsGreatest.j0 k l1 t266 true a0_0 l0_1 l0_2 l0_3 l0_4)))) = some r := H
  have A7 := M_ A70
  clear A70
  by_cases c8 : t267 = true
  ·subst c8
   have H1 : (spiritlevellaw27_ConstantsGreatest.j0 k l1 t266 true a0_0 l0_1 l0_2 l0_3 l0_4) = some r := by rw [if_pos rfl] at H; exact H
   clear H
   have H := H1
   clear H1
   have H' := M_ H
   clear H
   have hcz9_0 : w6.cell? ⟨gb265, 0, none⟩ = some (.int .i64 a0_0) := (blk_cell BK265.out 0).trans rfl
   have hcz9_1 : w6.cell? ⟨gb265, 1, none⟩ = some (.slice A0_1 l0_1.length c0_1) := (blk_cell BK265.out 1).trans rfl
   have hcz9_2 : w6.cell? ⟨gb265, 2, none⟩ = some (.slice A0_2 l0_2.length c0_2) := (blk_cell BK265.out 2).trans rfl
   have hcz9_3 : w6.cell? ⟨gb265, 3, none⟩ = some (.slice A0_3 l0_3.length c0_3) := (blk_cell BK265.out 3).trans rfl
   have hcz9_4 : w6.cell? ⟨gb265, 4, none⟩ = some (.slice A0_4 l0_4.length c0_4) := (blk_cell BK265.out 4).trans rfl
   have hfz9_0 := blk_frozen BK265.out 0
   have hfz9_1 := blk_frozen BK265.out 1
   have hfz9_2 := blk_frozen BK265.out 2
   have hfz9_3 := blk_frozen BK265.out 3
   have hfz9_4 := blk_frozen BK265.out 4
   go_wp2_with (first | ((with_reducible refine gate_callee (f := 9) rfl ?_); refine goesL_ (some 19) rfl rfl Try.func9 (by kernel_rfl) rfl #[.agg #[.int .i64 a0_0, .slice A0_1 l0_1.length c0_1, .slice A0_2 l0_2.length c0_2, .slice A0_3 l0_3.length c0_3, .slice A0_4 l0_4.length c0_4]] rfl (by (try simp only [List.map_toArray, List.map_cons, List.map_nil]); first | done | rfl | (simp only [List.length_drop, List.length_take]; rfl)) ?_; (with_reducible refine (spiritlevelref02_Great.calls a0_0 _ _ l0_1 _ _ l0_2 _ _ l0_3 _ _ l0_4 true _ ?side1 ?side2 ?side3 ?side4 ?side5 ?side6 ?side7 ?side8 A7.out).mono ?_); (case side1 => repeat (first | exact (Kd.C_below HR0_1.out HB.out) | (with_reducible refine c0_ ?_ _) | (with_reducible refine c1_ ?_ _) | (with_reducible refine c2_ ?_))); (case side2 => exact HC0_1.out); (case side3 => repeat (first | exact (Kd.C_below HR0_2.out HB.out) | (with_reducible refine c0_ ?_ _) | (with_reducible refine c1_ ?_ _) | (with_reducible refine c2_ ?_))); (case side4 => exact HC0_2.out); (case side5 => repeat (first | exact (Kd.C_below HR0_3.out HB.out) | (with_reducible refine c0_ ?_ _) | (with_reducible refine c1_ ?_ _) | (with_reducible refine c2_ ?_))); (case side6 => exact HC0_3.out); (case side7 => repeat (first | exact (Kd.C_below HR0_4.out HB.out) | (with_reducible refine c0_ ?_ _) | (with_reducible refine c1_ ?_ _) | (with_reducible refine c2_ ?_))); (case side8 => exact HC0_4.out); rintro e w10 ⟨rfl, hb⟩; refine ⟨_, rfl, ?_⟩; have n0_ := M_ (blk_below (g := gb265) (o := .cells #[.int .i64 a0_0, .slice A0_1 l0_1.length c0_1, .slice A0_2 l0_2.length c0_2, .slice A0_3 l0_3.length c0_3, .slice A0_4 l0_4.length c0_4] 26 (0, 0)) (by (with_reducible repeat (first | refine blk_drewN ?_ _ | refine blk_drew ?_ | refine blk_alloc ?_ _)); exact BK265.out) hb); have n1_ := M_ (below_step (by repeat (first | (with_reducible first | exact HB.out | apply b0_ | apply b1_ | apply b2_ | refine below_set ?_ GE265.out) | exact HB.out)) hb); clear BK265; clear HB; have BK265 := n0_; have HB := n1_; clear n0_ n1_; (try clear hb); (try clear hb2); (try clear hk); (try clear hi)))
   go_meet
   case rel => exact ⟨_, (true), (by first | rfl | (simp; done) | (simp [*]; done)), H', ⟨by first | omega | exact Nat.le_refl _⟩, ⟨by (with_reducible repeat (first | refine blk_drewN ?_ _ | refine blk_drew ?_ | refine blk_alloc ?_ _)); exact BK265.out⟩, ⟨by repeat (first | (with_reducible first | exact HB.out | apply b0_ | apply b1_ | apply b2_ | refine below_set ?_ GE265.out) | exact HB.out)⟩⟩
  ·replace c8 := Bool.eq_false_iff.mpr c8
   subst c8
   have H1 : ((spiritlevelref02_Check.f k a0_0 l0_1 l0_2 l0_3 l0_4).bind fun t268 => (if t268 = 0 then (if (l1.length : Int) > 20 then (spiritlevellaw27_ConstantsGreatest.j0 k l1 t266 true a0_0 l0_1 l0_2 l0_3 l0_4) else (spiritlevellaw27_ConstantsGreatest.j0 k l1 t266 (!t266) a0_0 l0_1 l0_2 l0_3 l0_4)) else (spiritlevellaw27_ConstantsGreatest.j0 k l1 t266 true a0_0 l0_1 l0_2 l0_3 l0_4))) = some r := by rw [if_neg (show ¬ (false = true) by decide)] at H; exact H
   clear H
   have H := H1
   clear H1
   replace H := Option.bind_eq_some_iff.mp H
   obtain ⟨t268, A110, H⟩ := H
   replace H : (if t268 = 0 then (if (l1.length : Int) > 20 then (spiritlevellaw27_ConstantsGreatest.j0 k l1 t266 true a0_0 l0_1 l0_2 l0_3 l0_4) else (spiritlevellaw27_ConstantsGreatest.j0 k l1 t266 (!t266) a0_0 l0_1 l0_2 l0_3 l0_4)) else (spiritlevellaw27_ConstantsGreatest.j0 k l1 t266 true a0_0 l0_1 l0_2 l0_3 l0_4)) = some r := H
   have A11 := M_ A110
   clear A110
   by_cases c12 : t268 = 0
   ·rw [if_pos c12] at H
    have c12b0 : (t268 == 0) = true := beq_iff_eq.mpr c12
    have c12b1 : (t268 != 0) = false := bne_eq_false_iff_eq.mpr c12
    clear c12
    (first | rw [c12b0] | (simp only [i64_w, i32_w]; rw [c12b0]) | skip)
    by_cases c13 : (l1.length : Int) > 20
    ·rw [if_pos c13] at H
     have c13b0 : decide (20 < (l1.length : Int)) = true := decide_eq_true c13
     have c13b1 : decide (20 < l1.length) = true := decide_eq_true (by omega)
     clear c13
     have H' := M_ H
     clear H
     have hcz14_0 : w6.cell? ⟨gb265, 0, none⟩ = some (.int .i64 a0_0) := (blk_cell BK265.out 0).trans rfl
     have hcz14_1 : w6.cell? ⟨gb265, 1, none⟩ = some (.slice A0_1 l0_1.length c0_1) := (blk_cell BK265.out 1).trans rfl
     have hcz14_2 : w6.cell? ⟨gb265, 2, none⟩ = some (.slice A0_2 l0_2.length c0_2) := (blk_cell BK265.out 2).trans rfl
     have hcz14_3 : w6.cell? ⟨gb265, 3, none⟩ = some (.slice A0_3 l0_3.length c0_3) := (blk_cell BK265.out 3).trans rfl
     have hcz14_4 : w6.cell? ⟨gb265, 4, none⟩ = some (.slice A0_4 l0_4.length c0_4) := (blk_cell BK265.out 4).trans rfl
     have hfz14_0 := blk_frozen BK265.out 0
     have hfz14_1 := blk_frozen BK265.out 1
     have hfz14_2 := blk_frozen BK265.out 2
     have hfz14_3 := blk_frozen BK265.out 3
     have hfz14_4 := blk_frozen BK265.out 4
     go_wp2_with (first | ((with_reducible refine gate_callee (f := 9) rfl ?_); refine goesL_ (some 19) rfl rfl Try.func9 (by kernel_rfl) rfl #[.agg #[.int .i64 a0_0, .slice A0_1 l0_1.length c0_1, .slice A0_2 l0_2.length c0_2, .slice A0_3 l0_3.length c0_3, .slice A0_4 l0_4.length c0_4]] rfl (by (try simp only [List.map_toArray, List.map_cons, List.map_nil]); first | done | rfl | (simp only [List.length_drop, List.length_take]; rfl)) ?_; (with_reducible refine (spiritlevelref02_Great.calls a0_0 _ _ l0_1 _ _ l0_2 _ _ l0_3 _ _ l0_4 false _ ?side1 ?side2 ?side3 ?side4 ?side5 ?side6 ?side7 ?side8 A7.out).mono ?_); (case side1 => repeat (first | exact (Kd.C_below HR0_1.out HB.out) | (with_reducible refine c0_ ?_ _) | (with_reducible refine c1_ ?_ _) | (with_reducible refine c2_ ?_))); (case side2 => exact HC0_1.out); (case side3 => repeat (first | exact (Kd.C_below HR0_2.out HB.out) | (with_reducible refine c0_ ?_ _) | (with_reducible refine c1_ ?_ _) | (with_reducible refine c2_ ?_))); (case side4 => exact HC0_2.out); (case side5 => repeat (first | exact (Kd.C_below HR0_3.out HB.out) | (with_reducible refine c0_ ?_ _) | (with_reducible refine c1_ ?_ _) | (with_reducible refine c2_ ?_))); (case side6 => exact HC0_3.out); (case side7 => repeat (first | exact (Kd.C_below HR0_4.out HB.out) | (with_reducible refine c0_ ?_ _) | (with_reducible refine c1_ ?_ _) | (with_reducible refine c2_ ?_))); (case side8 => exact HC0_4.out); rintro e w15 ⟨rfl, hb⟩; refine ⟨_, rfl, ?_⟩; have n0_ := M_ (blk_below (g := gb265) (o := .cells #[.int .i64 a0_0, .slice A0_1 l0_1.length c0_1, .slice A0_2 l0_2.length c0_2, .slice A0_3 l0_3.length c0_3, .slice A0_4 l0_4.length c0_4] 26 (0, 0)) (by (with_reducible repeat (first | refine blk_drewN ?_ _ | refine blk_drew ?_ | refine blk_alloc ?_ _)); exact BK265.out) hb); have n1_ := M_ (below_step (by repeat (first | (with_reducible first | exact HB.out | apply b0_ | apply b1_ | apply b2_ | refine below_set ?_ GE265.out) | exact HB.out)) hb); clear BK265; clear HB; have BK265 := n0_; have HB := n1_; clear n0_ n1_; (try clear hb); (try clear hb2); (try clear hk); (try clear hi); have hcz16_0 : w15.cell? ⟨gb265, 0, none⟩ = some (.int .i64 a0_0) := (blk_cell BK265.out 0).trans rfl; have hcz16_1 : w15.cell? ⟨gb265, 1, none⟩ = some (.slice A0_1 l0_1.length c0_1) := (blk_cell BK265.out 1).trans rfl; have hcz16_2 : w15.cell? ⟨gb265, 2, none⟩ = some (.slice A0_2 l0_2.length c0_2) := (blk_cell BK265.out 2).trans rfl; have hcz16_3 : w15.cell? ⟨gb265, 3, none⟩ = some (.slice A0_3 l0_3.length c0_3) := (blk_cell BK265.out 3).trans rfl; have hcz16_4 : w15.cell? ⟨gb265, 4, none⟩ = some (.slice A0_4 l0_4.length c0_4) := (blk_cell BK265.out 4).trans rfl; have hfz16_0 := blk_frozen BK265.out 0; have hfz16_1 := blk_frozen BK265.out 1; have hfz16_2 := blk_frozen BK265.out 2; have hfz16_3 := blk_frozen BK265.out 3; have hfz16_4 := blk_frozen BK265.out 4) | (go_at_call 10; (with_reducible refine (spiritlevelref02_Check.calls k a0_0 _ _ l0_1 _ _ l0_2 _ _ l0_3 _ _ l0_4 t268 _ ?side1 ?side2 ?side3 ?side4 ?side5 ?side6 ?side7 ?side8 A11.out).mono ?_); (case side1 => repeat (first | exact (Kd.C_below HR0_1.out HB.out) | (with_reducible refine c0_ ?_ _) | (with_reducible refine c1_ ?_ _) | (with_reducible refine c2_ ?_))); (case side2 => exact HC0_1.out); (case side3 => repeat (first | exact (Kd.C_below HR0_2.out HB.out) | (with_reducible refine c0_ ?_ _) | (with_reducible refine c1_ ?_ _) | (with_reducible refine c2_ ?_))); (case side4 => exact HC0_2.out); (case side5 => repeat (first | exact (Kd.C_below HR0_3.out HB.out) | (with_reducible refine c0_ ?_ _) | (with_reducible refine c1_ ?_ _) | (with_reducible refine c2_ ?_))); (case side6 => exact HC0_3.out); (case side7 => repeat (first | exact (Kd.C_below HR0_4.out HB.out) | (with_reducible refine c0_ ?_ _) | (with_reducible refine c1_ ?_ _) | (with_reducible refine c2_ ?_))); (case side8 => exact HC0_4.out); rintro e w17 ⟨rfl, hb⟩; have n0_ := M_ (blk_below (g := gb265) (o := .cells #[.int .i64 a0_0, .slice A0_1 l0_1.length c0_1, .slice A0_2 l0_2.length c0_2, .slice A0_3 l0_3.length c0_3, .slice A0_4 l0_4.length c0_4] 26 (0, 0)) (by (with_reducible repeat (first | refine blk_drewN ?_ _ | refine blk_drew ?_ | refine blk_alloc ?_ _)); exact BK265.out) hb); have n1_ := M_ (below_step (by repeat (first | (with_reducible first | exact HB.out | apply b0_ | apply b1_ | apply b2_ | refine below_set ?_ GE265.out) | exact HB.out)) hb); clear BK265; clear HB; have BK265 := n0_; have HB := n1_; clear n0_ n1_; (try clear hb); (try clear hb2); (try clear hk); (try clear hi)))
     go_meet
     case rel => exact ⟨_, (true), (by first | rfl | (simp; done) | (simp [*]; done)), H', ⟨by first | omega | exact Nat.le_refl _⟩, ⟨by (with_reducible repeat (first | refine blk_drewN ?_ _ | refine blk_drew ?_ | refine blk_alloc ?_ _)); exact BK265.out⟩, ⟨by repeat (first | (with_reducible first | exact HB.out | apply b0_ | apply b1_ | apply b2_ | refine below_set ?_ GE265.out) | exact HB.out)⟩⟩
    ·rw [if_neg c13] at H
     have c13b0 : decide (20 < (l1.length : Int)) = false := decide_eq_false c13
     have c13b1 : decide (20 < l1.length) = false := decide_eq_false (by omega)
     clear c13
     have H' := M_ H
     clear H
     have hcz18_0 : w6.cell? ⟨gb265, 0, none⟩ = some (.int .i64 a0_0) := (blk_cell BK265.out 0).trans rfl
     have hcz18_1 : w6.cell? ⟨gb265, 1, none⟩ = some (.slice A0_1 l0_1.length c0_1) := (blk_cell BK265.out 1).trans rfl
     have hcz18_2 : w6.cell? ⟨gb265, 2, none⟩ = some (.slice A0_2 l0_2.length c0_2) := (blk_cell BK265.out 2).trans rfl
     have hcz18_3 : w6.cell? ⟨gb265, 3, none⟩ = some (.slice A0_3 l0_3.length c0_3) := (blk_cell BK265.out 3).trans rfl
     have hcz18_4 : w6.cell? ⟨gb265, 4, none⟩ = some (.slice A0_4 l0_4.length c0_4) := (blk_cell BK265.out 4).trans rfl
     have hfz18_0 := blk_frozen BK265.out 0
     have hfz18_1 := blk_frozen BK265.out 1
     have hfz18_2 := blk_frozen BK265.out 2
     have hfz18_3 := blk_frozen BK265.out 3
     have hfz18_4 := blk_frozen BK265.out 4
     go_wp2_with (first | ((with_reducible refine gate_callee (f := 9) rfl ?_); refine goesL_ (some 19) rfl rfl Try.func9 (by kernel_rfl) rfl #[.agg #[.int .i64 a0_0, .slice A0_1 l0_1.length c0_1, .slice A0_2 l0_2.length c0_2, .slice A0_3 l0_3.length c0_3, .slice A0_4 l0_4.length c0_4]] rfl (by (try simp only [List.map_toArray, List.map_cons, List.map_nil]); first | done | rfl | (simp only [List.length_drop, List.length_take]; rfl)) ?_; (with_reducible refine (spiritlevelref02_Great.calls a0_0 _ _ l0_1 _ _ l0_2 _ _ l0_3 _ _ l0_4 false _ ?side1 ?side2 ?side3 ?side4 ?side5 ?side6 ?side7 ?side8 A7.out).mono ?_); (case side1 => repeat (first | exact (Kd.C_below HR0_1.out HB.out) | (with_reducible refine c0_ ?_ _) | (with_reducible refine c1_ ?_ _) | (with_reducible refine c2_ ?_))); (case side2 => exact HC0_1.out); (case side3 => repeat (first | exact (Kd.C_below HR0_2.out HB.out) | (with_reducible refine c0_ ?_ _) | (with_reducible refine c1_ ?_ _) | (with_reducible refine c2_ ?_))); (case side4 => exact HC0_2.out); (case side5 => repeat (first | exact (Kd.C_below HR0_3.out HB.out) | (with_reducible refine c0_ ?_ _) | (with_reducible refine c1_ ?_ _) | (with_reducible refine c2_ ?_))); (case side6 => exact HC0_3.out); (case side7 => repeat (first | exact (Kd.C_below HR0_4.out HB.out) | (with_reducible refine c0_ ?_ _) | (with_reducible refine c1_ ?_ _) | (with_reducible refine c2_ ?_))); (case side8 => exact HC0_4.out); rintro e w19 ⟨rfl, hb⟩; refine ⟨_, rfl, ?_⟩; have n0_ := M_ (blk_below (g := gb265) (o := .cells #[.int .i64 a0_0, .slice A0_1 l0_1.length c0_1, .slice A0_2 l0_2.length c0_2, .slice A0_3 l0_3.length c0_3, .slice A0_4 l0_4.length c0_4] 26 (0, 0)) (by (with_reducible repeat (first | refine blk_drewN ?_ _ | refine blk_drew ?_ | refine blk_alloc ?_ _)); exact BK265.out) hb); have n1_ := M_ (below_step (by repeat (first | (with_reducible first | exact HB.out | apply b0_ | apply b1_ | apply b2_ | refine below_set ?_ GE265.out) | exact HB.out)) hb); clear BK265; clear HB; have BK265 := n0_; have HB := n1_; clear n0_ n1_; (try clear hb); (try clear hb2); (try clear hk); (try clear hi); have hcz20_0 : w19.cell? ⟨gb265, 0, none⟩ = some (.int .i64 a0_0) := (blk_cell BK265.out 0).trans rfl; have hcz20_1 : w19.cell? ⟨gb265, 1, none⟩ = some (.slice A0_1 l0_1.length c0_1) := (blk_cell BK265.out 1).trans rfl; have hcz20_2 : w19.cell? ⟨gb265, 2, none⟩ = some (.slice A0_2 l0_2.length c0_2) := (blk_cell BK265.out 2).trans rfl; have hcz20_3 : w19.cell? ⟨gb265, 3, none⟩ = some (.slice A0_3 l0_3.length c0_3) := (blk_cell BK265.out 3).trans rfl; have hcz20_4 : w19.cell? ⟨gb265, 4, none⟩ = some (.slice A0_4 l0_4.length c0_4) := (blk_cell BK265.out 4).trans rfl; have hfz20_0 := blk_frozen BK265.out 0; have hfz20_1 := blk_frozen BK265.out 1; have hfz20_2 := blk_frozen BK265.out 2; have hfz20_3 := blk_frozen BK265.out 3; have hfz20_4 := blk_frozen BK265.out 4) | (go_at_call 10; (with_reducible refine (spiritlevelref02_Check.calls k a0_0 _ _ l0_1 _ _ l0_2 _ _ l0_3 _ _ l0_4 t268 _ ?side1 ?side2 ?side3 ?side4 ?side5 ?side6 ?side7 ?side8 A11.out).mono ?_); (case side1 => repeat (first | exact (Kd.C_below HR0_1.out HB.out) | (with_reducible refine c0_ ?_ _) | (with_reducible refine c1_ ?_ _) | (with_reducible refine c2_ ?_))); (case side2 => exact HC0_1.out); (case side3 => repeat (first | exact (Kd.C_below HR0_2.out HB.out) | (with_reducible refine c0_ ?_ _) | (with_reducible refine c1_ ?_ _) | (with_reducible refine c2_ ?_))); (case side4 => exact HC0_2.out); (case side5 => repeat (first | exact (Kd.C_below HR0_3.out HB.out) | (with_reducible refine c0_ ?_ _) | (with_reducible refine c1_ ?_ _) | (with_reducible refine c2_ ?_))); (case side6 => exact HC0_3.out); (case side7 => repeat (first | exact (Kd.C_below HR0_4.out HB.out) | (with_reducible refine c0_ ?_ _) | (with_reducible refine c1_ ?_ _) | (with_reducible refine c2_ ?_))); (case side8 => exact HC0_4.out); rintro e w21 ⟨rfl, hb⟩; have n0_ := M_ (blk_below (g := gb265) (o := .cells #[.int .i64 a0_0, .slice A0_1 l0_1.length c0_1, .slice A0_2 l0_2.length c0_2, .slice A0_3 l0_3.length c0_3, .slice A0_4 l0_4.length c0_4] 26 (0, 0)) (by (with_reducible repeat (first | refine blk_drewN ?_ _ | refine blk_drew ?_ | refine blk_alloc ?_ _)); exact BK265.out) hb); have n1_ := M_ (below_step (by repeat (first | (with_reducible first | exact HB.out | apply b0_ | apply b1_ | apply b2_ | refine below_set ?_ GE265.out) | exact HB.out)) hb); clear BK265; clear HB; have BK265 := n0_; have HB := n1_; clear n0_ n1_; (try clear hb); (try clear hb2); (try clear hk); (try clear hi)))
     go_meet
     case rel => exact ⟨_, (!t266), (by first | rfl | (simp; done) | (simp [*]; done)), H', ⟨by first | omega | exact Nat.le_refl _⟩, ⟨by (with_reducible repeat (first | refine blk_drewN ?_ _ | refine blk_drew ?_ | refine blk_alloc ?_ _)); exact BK265.out⟩, ⟨by repeat (first | (with_reducible first | exact HB.out | apply b0_ | apply b1_ | apply b2_ | refine below_set ?_ GE265.out) | exact HB.out)⟩⟩
   ·rw [if_neg c12] at H
    have c12b0 : (t268 == 0) = false := beq_eq_false_iff_ne.mpr c12
    have c12b1 : (t268 != 0) = true := bne_iff_ne.mpr c12
    (first | rw [c12b0] | (simp only [i64_w, i32_w]; rw [c12b0]) | skip)
    have H' := M_ H
    clear H
    have hcz22_0 : w6.cell? ⟨gb265, 0, none⟩ = some (.int .i64 a0_0) := (blk_cell BK265.out 0).trans rfl
    have hcz22_1 : w6.cell? ⟨gb265, 1, none⟩ = some (.slice A0_1 l0_1.length c0_1) := (blk_cell BK265.out 1).trans rfl
    have hcz22_2 : w6.cell? ⟨gb265, 2, none⟩ = some (.slice A0_2 l0_2.length c0_2) := (blk_cell BK265.out 2).trans rfl
    have hcz22_3 : w6.cell? ⟨gb265, 3, none⟩ = some (.slice A0_3 l0_3.length c0_3) := (blk_cell BK265.out 3).trans rfl
    have hcz22_4 : w6.cell? ⟨gb265, 4, none⟩ = some (.slice A0_4 l0_4.length c0_4) := (blk_cell BK265.out 4).trans rfl
    have hfz22_0 := blk_frozen BK265.out 0
    have hfz22_1 := blk_frozen BK265.out 1
    have hfz22_2 := blk_frozen BK265.out 2
    have hfz22_3 := blk_frozen BK265.out 3
    have hfz22_4 := blk_frozen BK265.out 4
    go_wp2_with (first | ((with_reducible refine gate_callee (f := 9) rfl ?_); refine goesL_ (some 19) rfl rfl Try.func9 (by kernel_rfl) rfl #[.agg #[.int .i64 a0_0, .slice A0_1 l0_1.length c0_1, .slice A0_2 l0_2.length c0_2, .slice A0_3 l0_3.length c0_3, .slice A0_4 l0_4.length c0_4]] rfl (by (try simp only [List.map_toArray, List.map_cons, List.map_nil]); first | done | rfl | (simp only [List.length_drop, List.length_take]; rfl)) ?_; (with_reducible refine (spiritlevelref02_Great.calls a0_0 _ _ l0_1 _ _ l0_2 _ _ l0_3 _ _ l0_4 false _ ?side1 ?side2 ?side3 ?side4 ?side5 ?side6 ?side7 ?side8 A7.out).mono ?_); (case side1 => repeat (first | exact (Kd.C_below HR0_1.out HB.out) | (with_reducible refine c0_ ?_ _) | (with_reducible refine c1_ ?_ _) | (with_reducible refine c2_ ?_))); (case side2 => exact HC0_1.out); (case side3 => repeat (first | exact (Kd.C_below HR0_2.out HB.out) | (with_reducible refine c0_ ?_ _) | (with_reducible refine c1_ ?_ _) | (with_reducible refine c2_ ?_))); (case side4 => exact HC0_2.out); (case side5 => repeat (first | exact (Kd.C_below HR0_3.out HB.out) | (with_reducible refine c0_ ?_ _) | (with_reducible refine c1_ ?_ _) | (with_reducible refine c2_ ?_))); (case side6 => exact HC0_3.out); (case side7 => repeat (first | exact (Kd.C_below HR0_4.out HB.out) | (with_reducible refine c0_ ?_ _) | (with_reducible refine c1_ ?_ _) | (with_reducible refine c2_ ?_))); (case side8 => exact HC0_4.out); rintro e w23 ⟨rfl, hb⟩; refine ⟨_, rfl, ?_⟩; have n0_ := M_ (blk_below (g := gb265) (o := .cells #[.int .i64 a0_0, .slice A0_1 l0_1.length c0_1, .slice A0_2 l0_2.length c0_2, .slice A0_3 l0_3.length c0_3, .slice A0_4 l0_4.length c0_4] 26 (0, 0)) (by (with_reducible repeat (first | refine blk_drewN ?_ _ | refine blk_drew ?_ | refine blk_alloc ?_ _)); exact BK265.out) hb); have n1_ := M_ (below_step (by repeat (first | (with_reducible first | exact HB.out | apply b0_ | apply b1_ | apply b2_ | refine below_set ?_ GE265.out) | exact HB.out)) hb); clear BK265; clear HB; have BK265 := n0_; have HB := n1_; clear n0_ n1_; (try clear hb); (try clear hb2); (try clear hk); (try clear hi); have hcz24_0 : w23.cell? ⟨gb265, 0, none⟩ = some (.int .i64 a0_0) := (blk_cell BK265.out 0).trans rfl; have hcz24_1 : w23.cell? ⟨gb265, 1, none⟩ = some (.slice A0_1 l0_1.length c0_1) := (blk_cell BK265.out 1).trans rfl; have hcz24_2 : w23.cell? ⟨gb265, 2, none⟩ = some (.slice A0_2 l0_2.length c0_2) := (blk_cell BK265.out 2).trans rfl; have hcz24_3 : w23.cell? ⟨gb265, 3, none⟩ = some (.slice A0_3 l0_3.length c0_3) := (blk_cell BK265.out 3).trans rfl; have hcz24_4 : w23.cell? ⟨gb265, 4, none⟩ = some (.slice A0_4 l0_4.length c0_4) := (blk_cell BK265.out 4).trans rfl; have hfz24_0 := blk_frozen BK265.out 0; have hfz24_1 := blk_frozen BK265.out 1; have hfz24_2 := blk_frozen BK265.out 2; have hfz24_3 := blk_frozen BK265.out 3; have hfz24_4 := blk_frozen BK265.out 4) | (go_at_call 10; (with_reducible refine (spiritlevelref02_Check.calls k a0_0 _ _ l0_1 _ _ l0_2 _ _ l0_3 _ _ l0_4 t268 _ ?side1 ?side2 ?side3 ?side4 ?side5 ?side6 ?side7 ?side8 A11.out).mono ?_); (case side1 => repeat (first | exact (Kd.C_below HR0_1.out HB.out) | (with_reducible refine c0_ ?_ _) | (with_reducible refine c1_ ?_ _) | (with_reducible refine c2_ ?_))); (case side2 => exact HC0_1.out); (case side3 => repeat (first | exact (Kd.C_below HR0_2.out HB.out) | (with_reducible refine c0_ ?_ _) | (with_reducible refine c1_ ?_ _) | (with_reducible refine c2_ ?_))); (case side4 => exact HC0_2.out); (case side5 => repeat (first | exact (Kd.C_below HR0_3.out HB.out) | (with_reducible refine c0_ ?_ _) | (with_reducible refine c1_ ?_ _) | (with_reducible refine c2_ ?_))); (case side6 => exact HC0_3.out); (case side7 => repeat (first | exact (Kd.C_below HR0_4.out HB.out) | (with_reducible refine c0_ ?_ _) | (with_reducible refine c1_ ?_ _) | (with_reducible refine c2_ ?_))); (case side8 => exact HC0_4.out); rintro e w25 ⟨rfl, hb⟩; have n0_ := M_ (blk_below (g := gb265) (o := .cells #[.int .i64 a0_0, .slice A0_1 l0_1.length c0_1, .slice A0_2 l0_2.length c0_2, .slice A0_3 l0_3.length c0_3, .slice A0_4 l0_4.length c0_4] 26 (0, 0)) (by (with_reducible repeat (first | refine blk_drewN ?_ _ | refine blk_drew ?_ | refine blk_alloc ?_ _)); exact BK265.out) hb); have n1_ := M_ (below_step (by repeat (first | (with_reducible first | exact HB.out | apply b0_ | apply b1_ | apply b2_ | refine below_set ?_ GE265.out) | exact HB.out)) hb); clear BK265; clear HB; have BK265 := n0_; have HB := n1_; clear n0_ n1_; (try clear hb); (try clear hb2); (try clear hk); (try clear hi)))
    go_meet
    case rel => exact ⟨_, (true), (by first | rfl | (simp; done) | (simp [*]; done)), H', ⟨by first | omega | exact Nat.le_refl _⟩, ⟨by (with_reducible repeat (first | refine blk_drewN ?_ _ | refine blk_drew ?_ | refine blk_alloc ?_ _)); exact BK265.out⟩, ⟨by repeat (first | (with_reducible first | exact HB.out | apply b0_ | apply b1_ | apply b2_ | refine below_set ?_ GE265.out) | exact HB.out)⟩⟩
 case rest =>
  clear HC4
  try clear c1
  try clear p2
  try clear c6
  try clear c8
  try clear c9
  try clear c12
  try clear c12b0
  try clear c12b1
  try clear c13
  try clear c13b0
  try clear c13b1
  try clear hcz14_0
  try clear hcz14_1
  try clear hcz14_2
  try clear hcz14_3
  try clear hcz14_4
  try clear hcz16_0
  try clear hcz16_1
  try clear hcz16_2
  try clear hcz16_3
  try clear hcz16_4
  try clear hcz18_0
  try clear hcz18_1
  try clear hcz18_2
  try clear hcz18_3
  try clear hcz18_4
  try clear hcz20_0
  try clear hcz20_1
  try clear hcz20_2
  try clear hcz20_3
  try clear hcz20_4
  try clear hcz22_0
  try clear hcz22_1
  try clear hcz22_2
  try clear hcz22_3
  try clear hcz22_4
  try clear hcz24_0
  try clear hcz24_1
  try clear hcz24_2
  try clear hcz24_3
  try clear hcz24_4
  try clear hcz9_0
  try clear hcz9_1
  try clear hcz9_2
  try clear hcz9_3
  try clear hcz9_4
  try clear hfz14_0
  try clear hfz14_1
  try clear hfz14_2
  try clear hfz14_3
  try clear hfz14_4
  try clear hfz16_0
  try clear hfz16_1
  try clear hfz16_2
  try clear hfz16_3
  try clear hfz16_4
  try clear hfz18_0
  try clear hfz18_1
  try clear hfz18_2
  try clear hfz18_3
  try clear hfz18_4
  try clear hfz20_0
  try clear hfz20_1
  try clear hfz20_2
  try clear hfz20_3
  try clear hfz20_4
  try clear hfz22_0
  try clear hfz22_1
  try clear hfz22_2
  try clear hfz22_3
  try clear hfz22_4
  try clear hfz24_0
  try clear hfz24_1
  try clear hfz24_2
  try clear hfz24_3
  try clear hfz24_4
  try clear hfz9_0
  try clear hfz9_1
  try clear hfz9_2
  try clear hfz9_3
  try clear hfz9_4
  obtain ⟨kq, x33_3, rfl, HA, HJ3, BK265, HB⟩ := hcut
  cases kq with
  | zero => exact absurd HA.out (by simp [spiritlevellaw27_ConstantsGreatest.j0])
  | succ kj3 =>
   have H := HA.out
   clear HA
   simp only [spiritlevellaw27_ConstantsGreatest.j0] at H
   by_cases c26 : x33_3 = true
   ·subst c26
    have H1 : (some t266) = some r := by rw [if_pos rfl] at H; exact H
    clear H
    have H := H1
    clear H1
    obtain rfl := Option.some.inj H
    go_wp2
    go_ret
    exact ⟨by first | rfl | (simp [errW_none, errW_some] <;> rfl) | (simp [*, errW_none, errW_some] <;> rfl), by repeat (first | (with_reducible first | exact HB.out | apply b0_ | apply b1_ | apply b2_ | refine below_set ?_ GE265.out) | exact HB.out)⟩
   ·replace c26 := Bool.eq_false_iff.mpr c26
    subst c26
    have H1 : ((spiritlevelref26_None.f kj3 a0_0 l0_1 l0_2 l0_3 l0_4).bind fun t269 => (spiritlevellaw27_ConstantsGreatest.l0 kj3 l1 t266 t269 0 a0_0 l0_1 l0_2 l0_3 l0_4)) = some r := by rw [if_neg (show ¬ (false = true) by decide)] at H; exact H
    clear H
    have H := H1
    clear H1
    replace H := Option.bind_eq_some_iff.mp H
    obtain ⟨t269, A270, H⟩ := H
    replace H : (spiritlevellaw27_ConstantsGreatest.l0 kj3 l1 t266 t269 0 a0_0 l0_1 l0_2 l0_3 l0_4) = some r := H
    have A27 := M_ A270
    clear A270
    have H' := M_ H
    clear H
    have hcz28_0 : wc.cell? ⟨gb265, 0, none⟩ = some (.int .i64 a0_0) := (blk_cell BK265.out 0).trans rfl
    have hcz28_1 : wc.cell? ⟨gb265, 1, none⟩ = some (.slice A0_1 l0_1.length c0_1) := (blk_cell BK265.out 1).trans rfl
    have hcz28_2 : wc.cell? ⟨gb265, 2, none⟩ = some (.slice A0_2 l0_2.length c0_2) := (blk_cell BK265.out 2).trans rfl
    have hcz28_3 : wc.cell? ⟨gb265, 3, none⟩ = some (.slice A0_3 l0_3.length c0_3) := (blk_cell BK265.out 3).trans rfl
    have hcz28_4 : wc.cell? ⟨gb265, 4, none⟩ = some (.slice A0_4 l0_4.length c0_4) := (blk_cell BK265.out 4).trans rfl
    have hfz28_0 := blk_frozen BK265.out 0
    have hfz28_1 := blk_frozen BK265.out 1
    have hfz28_2 := blk_frozen BK265.out 2
    have hfz28_3 := blk_frozen BK265.out 3
    have hfz28_4 := blk_frozen BK265.out 4
    go_wp2_with (first | ((with_reducible refine gate_callee (f := 23) rfl ?_); refine goesL_ (some 36) rfl rfl Try.func23 (by kernel_rfl) rfl #[.agg #[.int .i64 a0_0, .slice A0_1 l0_1.length c0_1, .slice A0_2 l0_2.length c0_2, .slice A0_3 l0_3.length c0_3, .slice A0_4 l0_4.length c0_4]] rfl (by (try simp only [List.map_toArray, List.map_cons, List.map_nil]); first | done | rfl | (simp only [List.length_drop, List.length_take]; rfl)) ?_; (with_reducible refine (spiritlevelref26_None.calls kj3 a0_0 _ _ l0_1 _ _ l0_2 _ _ l0_3 _ _ l0_4 t269 _ ?side1 ?side2 ?side3 ?side4 ?side5 ?side6 ?side7 ?side8 A27.out).mono ?_); (case side1 => repeat (first | exact (Kd.C_below HR0_1.out HB.out) | (with_reducible refine c0_ ?_ _) | (with_reducible refine c1_ ?_ _) | (with_reducible refine c2_ ?_))); (case side2 => exact HC0_1.out); (case side3 => repeat (first | exact (Kd.C_below HR0_2.out HB.out) | (with_reducible refine c0_ ?_ _) | (with_reducible refine c1_ ?_ _) | (with_reducible refine c2_ ?_))); (case side4 => exact HC0_2.out); (case side5 => repeat (first | exact (Kd.C_below HR0_3.out HB.out) | (with_reducible refine c0_ ?_ _) | (with_reducible refine c1_ ?_ _) | (with_reducible refine c2_ ?_))); (case side6 => exact HC0_3.out); (case side7 => repeat (first | exact (Kd.C_below HR0_4.out HB.out) | (with_reducible refine c0_ ?_ _) | (with_reducible refine c1_ ?_ _) | (with_reducible refine c2_ ?_))); (case side8 => exact HC0_4.out); rintro e w29 ⟨v270, rfl, ho0, hb⟩; refine ⟨_, rfl, ?_⟩; have n0_ := M_ (Kd.R_lower ho0 (below_size (by repeat (first | (with_reducible first | exact HB.out | apply b0_ | apply b1_ | apply b2_ | refine below_set ?_ GE265.out) | exact HB.out)))); have n1_ := M_ (blk_below (g := gb265) (o := .cells #[.int .i64 a0_0, .slice A0_1 l0_1.length c0_1, .slice A0_2 l0_2.length c0_2, .slice A0_3 l0_3.length c0_3, .slice A0_4 l0_4.length c0_4] 26 (0, 0)) (by (with_reducible repeat (first | refine blk_drewN ?_ _ | refine blk_drew ?_ | refine blk_alloc ?_ _)); exact BK265.out) hb); have n2_ := M_ (below_step (by repeat (first | (with_reducible first | exact HB.out | apply b0_ | apply b1_ | apply b2_ | refine below_set ?_ GE265.out) | exact HB.out)) hb); clear BK265; clear HB; have HO271 := n0_; have BK265 := n1_; have HB := n2_; clear n0_ n1_ n2_; (try clear hb); (try clear hb2); (try clear hk); (try clear hi); (try clear ho0)))
    go_loopg [7] kj3 (fun kq v7 w' => ∃ (x6_2 : List Int) (x7_2 : Int), v7 = .int .i64 x7_2 ∧ Aside0 (spiritlevellaw27_ConstantsGreatest.l0 kq l1 t266 x6_2 x7_2 a0_0 l0_1 l0_2 l0_3 l0_4 = some r) ∧ Aside0 (kq ≤ kj3) ∧ Aside0 (Kd.R (Kd.int .i64) 3 w' w.heap.size (fun _ => True) v270 x6_2) ∧ Aside0 (w'.heap[gb265]? = some (.cells #[.int .i64 a0_0, (.slice A0_1 l0_1.length c0_1), (.slice A0_2 l0_2.length c0_2), (.slice A0_3 l0_3.length c0_3), (.slice A0_4 l0_4.length c0_4)] 26 (0, 0))) ∧ Aside0 (Below w.heap.size w w'))
    case atStart => exact ⟨(t269), (0), (by first | rfl | (simp; done) | (simp [*]; done)), H', ⟨Nat.le_refl _⟩, ⟨by (with_reducible repeat (first | apply a0_ | apply a1_ | apply a2_)); exact HO271.out⟩, ⟨by (with_reducible repeat (first | refine blk_drewN ?_ _ | refine blk_drew ?_ | refine blk_alloc ?_ _)); exact BK265.out⟩, ⟨by repeat (first | (with_reducible first | exact HB.out | apply b0_ | apply b1_ | apply b2_ | refine below_set ?_ GE265.out) | exact HB.out)⟩⟩
    case round =>
     clear H'
     try clear c1
     try clear c2
     try clear p2
     try clear c6
     try clear c8
     try clear c9
     try clear c12
     try clear c12b0
     try clear c12b1
     try clear c13
     try clear c13b0
     try clear c13b1
     try clear c23
     try clear c26
     try clear hcz14_0
     try clear hcz14_1
     try clear hcz14_2
     try clear hcz14_3
     try clear hcz14_4
     try clear hcz16_0
     try clear hcz16_1
     try clear hcz16_2
     try clear hcz16_3
     try clear hcz16_4
     try clear hcz18_0
     try clear hcz18_1
     try clear hcz18_2
     try clear hcz18_3
     try clear hcz18_4
     try clear hcz20_0
     try clear hcz20_1
     try clear hcz20_2
     try clear hcz20_3
     try clear hcz20_4
     try clear hcz22_0
     try clear hcz22_1
     try clear hcz22_2
     try clear hcz22_3
     try clear hcz22_4
     try clear hcz24_0
     try clear hcz24_1
     try clear hcz24_2
     try clear hcz24_3
     try clear hcz24_4
     try clear hcz28_0
     try clear hcz28_1
     try clear hcz28_2
     try clear hcz28_3
     try clear hcz28_4
     try clear hcz9_0
     try clear hcz9_1
     try clear hcz9_2
     try clear hcz9_3
     try clear hcz9_4
     try clear hfz14_0
     try clear hfz14_1
     try clear hfz14_2
     try clear hfz14_3
     try clear hfz14_4
     try clear hfz16_0
     try clear hfz16_1
     try clear hfz16_2
     try clear hfz16_3
     try clear hfz16_4
     try clear hfz18_0
     try clear hfz18_1
     try clear hfz18_2
     try clear hfz18_3
     try clear hfz18_4
     try clear hfz20_0
     try clear hfz20_1
     try clear hfz20_2
     try clear hfz20_3
     try clear hfz20_4
     try clear hfz22_0
     try clear hfz22_1
     try clear hfz22_2
     try clear hfz22_3
     try clear hfz22_4
     try clear hfz24_0
     try clear hfz24_1
     try clear hfz24_2
     try clear hfz24_3
     try clear hfz24_4
     try clear hfz28_0
     try clear hfz28_1
     try clear hfz28_2
     try clear hfz28_3
     try clear hfz28_4
     try clear hfz9_0
     try clear hfz9_1
     try clear hfz9_2
     try clear hfz9_3
     try clear hfz9_4
     try clear p2
     obtain ⟨x6_2, x7_2, rfl, HA, HK2, HO_6, BK265, HB⟩ := hrel
     cases gk with
     | zero => exact absurd HA.out (by simp [spiritlevellaw27_ConstantsGreatest.l0])
     | succ k2 =>
      have H := HA.out
      clear HA
      simp only [spiritlevellaw27_ConstantsGreatest.l0] at H
      by_cases c30 : x7_2 < (l1.length : Int)
      ·rw [if_pos c30] at H
       have c30b0 : decide (x7_2 < (l1.length : Int)) = true := decide_eq_true c30
       clear c30
       by_cases c31 : 0 ≤ x7_2
       ·rw [if_pos c31] at H
        have c31b0 : decide (0 ≤ x7_2) = true := decide_eq_true c31
        clear c31
        by_cases c32 : (rd l1 x7_2) < 0
        ·rw [if_pos c32] at H
         have c32b0 : decide ((rd l1 x7_2) < 0) = true := decide_eq_true c32
         clear c32
         obtain rfl := Option.some.inj H
         try go_wp2
         have n0_ := M_ (Kd.R_drew HO_6.out)
         have n1_ := M_ (blk_drew BK265.out)
         have n2_ := M_ (below_drew1 HB.out)
         clear HO_6
         clear BK265
         clear HB
         have HO_6 := n0_
         have BK265 := n1_
         have HB := n2_
         clear n0_ n1_ n2_
         have p272 : 0 ≤ (x7_2 : Int) := of_decide_eq_true (by first | (with_reducible assumption) | assumption)
         have q272 : x7_2 < (l1.length : Int) := of_decide_eq_true (by first | (with_reducible assumption) | assumption)
         obtain ⟨ad272, e272, hx272_0⟩ := Kd.at_int HR1.out x7_2 p272 q272
         have hw272_0 := hx272_0
         cases e272
         replace hx272_0 := (HB.out.cell (World.block_lt_of_cell? w _ hx272_0)).trans hx272_0
         replace p272 := eq_true p272
         replace q272 := eq_true q272
         refine start_ (n := 27) (S := fun w' => w'.cell? (ad272.add (x7_2).toNat) = some (.int .i64 (rd l1 x7_2))) (ds := []) z13_ (by kernel_rfl) rfl rfl (((HB.out.cell (World.block_lt_of_cell? w _ hw272_0)).trans hw272_0)) (fun hHeld => ?_); refine with_tabW spiritlevellaw27_ConstantsGreatest.tab8 spiritlevellaw27_ConstantsGreatest.bits8 (fun HT_ HW_ => ?_)
         generalize wr.drew = w33 at HO_6 BK265 HB hx272_0 hHeld ⊢
         refine pure_ (i := 0) (N := some 43) (v := ?_) (a' := ?_) z14_ rfl rfl (any_of HT_.out (by kernel_rfl)) (fun _ _ _ h => h) (Or.inl ⟨by rfl, ?_⟩) ?_ ?_
         rotate_left
         ·intro w'
          go_simp
          with_reducible rfl
         rotate_left
         ·simp only [Act.put, e1_, e2_, e3_, i64_w, i32_w]
          rfl
         refine pure_ (i := 1) (N := some 44) (v := ?_) (a' := ?_) z15_ rfl rfl (any_of HT_.out (by kernel_rfl)) (fun _ _ _ h => h) (Or.inl ⟨by rfl, ?_⟩) ?_ ?_
         rotate_left
         ·intro w'
          go_simp
          with_reducible rfl
         rotate_left
         ·simp only [Act.put, e1_, e2_, e3_, i64_w, i32_w]
          rfl
         refine pure_ (i := 2) (N := some 45) (v := ?_) (a' := ?_) z16_ rfl rfl (any_of HT_.out (by kernel_rfl)) (fun _ _ _ h => h) (Or.inl ⟨by rfl, ?_⟩) ?_ ?_
         rotate_left
         ·intro w'
          go_simp
          with_reducible rfl
         rotate_left
         ·simp only [Act.put, e1_, e2_, e3_, i64_w, i32_w]
          rfl
         refine take_ (i := 3) (N := some 46) (v := ?_) (a' := ?_) z17_ rfl rfl (take_ofW HT_.out HW_.out (by kernel_rfl)) (fun _ _ _ h => h) (Or.inl ⟨by rfl, ?_⟩) hHeld ?_ ?_
         rotate_left
         ·intro w' s0
          go_simp
          with_reducible rfl
         rotate_left
         ·simp only [Act.put, e1_, e2_, e3_, i64_w, i32_w]
          rfl
         refine pure_ (i := 4) (N := some 47) (v := ?_) (a' := ?_) z18_ rfl rfl (any_of HT_.out (by kernel_rfl)) (fun _ _ _ h => h) (Or.inl ⟨by rfl, ?_⟩) ?_ ?_
         rotate_left
         ·intro w'
          go_simp
          with_reducible rfl
         rotate_left
         ·simp only [Act.put, e1_, e2_, e3_, i64_w, i32_w]
          rfl
         refine pure_ (i := 5) (N := some 48) (v := ?_) (a' := ?_) z19_ rfl rfl (any_of HT_.out (by kernel_rfl)) (fun _ _ _ h => h) (Or.inl ⟨by rfl, ?_⟩) ?_ ?_
         rotate_left
         ·intro w'
          go_simp
          with_reducible rfl
         rotate_left
         ·simp only [Act.put, e1_, e2_, e3_, i64_w, i32_w]
          rfl
         refine pure_ (i := 6) (N := some 49) (v := undef) (a' := ?_) z20_ rfl rfl (any_of HT_.out (by kernel_rfl)) (fun _ _ _ h => h) (Or.inr ⟨by rfl, rfl⟩) ?_ ?_
         rotate_left
         ·simp only [Act.put, e1_, e2_, e3_, i64_w, i32_w]
          rfl
         refine pure_ (i := 7) (N := some 50) (v := undef) (a' := ?_) z21_ rfl rfl (any_of HT_.out (by kernel_rfl)) (fun _ _ _ h => h) (Or.inr ⟨by rfl, rfl⟩) ?_ ?_
         rotate_left
         ·simp only [Act.put, e1_, e2_, e3_, i64_w, i32_w]
          rfl
         refine pure_ (i := 8) (N := some 51) (v := undef) (a' := ?_) z22_ rfl rfl (any_of HT_.out (by kernel_rfl)) (fun _ _ _ h => h) (Or.inr ⟨by rfl, rfl⟩) ?_ ?_
         rotate_left
         ·simp only [Act.put, e1_, e2_, e3_, i64_w, i32_w]
          rfl
         refine pure_ (i := 9) (N := some 52) (v := undef) (a' := ?_) z23_ rfl rfl (any_of HT_.out (by kernel_rfl)) (fun _ _ _ h => h) (Or.inr ⟨by rfl, rfl⟩) ?_ ?_
         rotate_left
         ·simp only [Act.put, e1_, e2_, e3_, i64_w, i32_w]
          rfl
         refine pure_ (i := 10) (N := some 53) (v := undef) (a' := ?_) z24_ rfl rfl (any_of HT_.out (by kernel_rfl)) (fun _ _ _ h => h) (Or.inr ⟨by rfl, rfl⟩) ?_ ?_
         rotate_left
         ·simp only [Act.put, e1_, e2_, e3_, i64_w, i32_w]
          rfl
         refine pure_ (i := 11) (N := some 54) (v := undef) (a' := ?_) z25_ rfl rfl (any_of HT_.out (by kernel_rfl)) (fun _ _ _ h => h) (Or.inr ⟨by rfl, rfl⟩) ?_ ?_
         rotate_left
         ·simp only [Act.put, e1_, e2_, e3_, i64_w, i32_w]
          rfl
         refine pure_ (i := 12) (N := some 55) (v := undef) (a' := ?_) z26_ rfl rfl (any_of HT_.out (by kernel_rfl)) (fun _ _ _ h => h) (Or.inr ⟨by rfl, rfl⟩) ?_ ?_
         rotate_left
         ·simp only [Act.put, e1_, e2_, e3_, i64_w, i32_w]
          rfl
         refine pure_ (i := 13) (N := some 56) (v := undef) (a' := ?_) z27_ rfl rfl (any_of HT_.out (by kernel_rfl)) (fun _ _ _ h => h) (Or.inr ⟨by rfl, rfl⟩) ?_ ?_
         rotate_left
         ·simp only [Act.put, e1_, e2_, e3_, i64_w, i32_w]
          rfl
         refine pure_ (i := 14) (N := some 57) (v := ?_) (a' := ?_) z28_ rfl rfl (any_of HT_.out (by kernel_rfl)) (fun _ _ _ h => h) (Or.inl ⟨by rfl, ?_⟩) ?_ ?_
         rotate_left
         ·intro w'
          go_simp
          with_reducible rfl
         rotate_left
         ·simp only [Act.put, e1_, e2_, e3_, i64_w, i32_w]
          rfl
         refine pure_ (i := 15) (N := some 58) (v := ?_) (a' := ?_) z29_ rfl rfl (any_of HT_.out (by kernel_rfl)) (fun _ _ _ h => h) (Or.inl ⟨by rfl, ?_⟩) ?_ ?_
         rotate_left
         ·intro w'
          go_simp
          with_reducible rfl
         rotate_left
         ·simp only [Act.put, e1_, e2_, e3_, i64_w, i32_w]
          rfl
         refine pure_ (i := 16) (N := some 59) (v := undef) (a' := ?_) z30_ rfl rfl (any_of HT_.out (by kernel_rfl)) (fun _ _ _ h => h) (Or.inr ⟨by rfl, rfl⟩) ?_ ?_
         rotate_left
         ·simp only [Act.put, e1_, e2_, e3_, i64_w, i32_w]
          rfl
         refine pure_ (i := 17) (N := some 60) (v := undef) (a' := ?_) z31_ rfl rfl (any_of HT_.out (by kernel_rfl)) (fun _ _ _ h => h) (Or.inr ⟨by rfl, rfl⟩) ?_ ?_
         rotate_left
         ·simp only [Act.put, e1_, e2_, e3_, i64_w, i32_w]
          rfl
         refine pure_ (i := 18) (N := some 61) (v := undef) (a' := ?_) z32_ rfl rfl (any_of HT_.out (by kernel_rfl)) (fun _ _ _ h => h) (Or.inr ⟨by rfl, rfl⟩) ?_ ?_
         rotate_left
         ·simp only [Act.put, e1_, e2_, e3_, i64_w, i32_w]
          rfl
         refine pure_ (i := 19) (N := some 62) (v := undef) (a' := ?_) z33_ rfl rfl (any_of HT_.out (by kernel_rfl)) (fun _ _ _ h => h) (Or.inr ⟨by rfl, rfl⟩) ?_ ?_
         rotate_left
         ·simp only [Act.put, e1_, e2_, e3_, i64_w, i32_w]
          rfl
         refine pure_ (i := 20) (N := some 63) (v := undef) (a' := ?_) z34_ rfl rfl (any_of HT_.out (by kernel_rfl)) (fun _ _ _ h => h) (Or.inr ⟨by rfl, rfl⟩) ?_ ?_
         rotate_left
         ·simp only [Act.put, e1_, e2_, e3_, i64_w, i32_w]
          rfl
         refine pure_ (i := 21) (N := some 64) (v := undef) (a' := ?_) z35_ rfl rfl (any_of HT_.out (by kernel_rfl)) (fun _ _ _ h => h) (Or.inr ⟨by rfl, rfl⟩) ?_ ?_
         rotate_left
         ·simp only [Act.put, e1_, e2_, e3_, i64_w, i32_w]
          rfl
         refine pure_ (i := 22) (N := some 65) (v := undef) (a' := ?_) z36_ rfl rfl (any_of HT_.out (by kernel_rfl)) (fun _ _ _ h => h) (Or.inr ⟨by rfl, rfl⟩) ?_ ?_
         rotate_left
         ·simp only [Act.put, e1_, e2_, e3_, i64_w, i32_w]
          rfl
         refine pure_ (i := 23) (N := some 66) (v := undef) (a' := ?_) z37_ rfl rfl (any_of HT_.out (by kernel_rfl)) (fun _ _ _ h => h) (Or.inr ⟨by rfl, rfl⟩) ?_ ?_
         rotate_left
         ·simp only [Act.put, e1_, e2_, e3_, i64_w, i32_w]
          rfl
         refine pure_ (i := 24) (N := some 67) (v := undef) (a' := ?_) z38_ rfl rfl (any_of HT_.out (by kernel_rfl)) (fun _ _ _ h => h) (Or.inr ⟨by rfl, rfl⟩) ?_ ?_
         rotate_left
         ·simp only [Act.put, e1_, e2_, e3_, i64_w, i32_w]
          rfl
         refine pure_ (i := 25) (N := some 68) (v := undef) (a' := ?_) z39_ rfl rfl (any_of HT_.out (by kernel_rfl)) (fun _ _ _ h => h) (Or.inr ⟨by rfl, rfl⟩) ?_ ?_
         rotate_left
         ·simp only [Act.put, e1_, e2_, e3_, i64_w, i32_w]
          rfl
         refine pure_ (i := 26) (N := some 69) (v := ?_) (a' := ?_) z40_ rfl rfl (any_of HT_.out (by kernel_rfl)) (fun _ _ _ h => h) (Or.inl ⟨by rfl, ?_⟩) ?_ ?_
         rotate_left
         ·intro w'
          go_simp
          with_reducible rfl
         rotate_left
         ·simp only [Act.put, e1_, e2_, e3_, i64_w, i32_w]
          rfl
         refine done_ (done_of HT_.out (by kernel_rfl)) ?_
         try go_wp2
         go_ret
         exact ⟨by first | rfl | (simp [errW_none, errW_some] <;> rfl) | (simp [*, errW_none, errW_some] <;> rfl), by repeat (first | (with_reducible first | exact HB.out | apply b0_ | apply b1_ | apply b2_ | refine below_set ?_ GE265.out) | exact HB.out)⟩
        ·rw [if_neg c32] at H
         have c32b0 : decide ((rd l1 x7_2) < 0) = false := decide_eq_false c32
         clear c32
         by_cases c34 : (rd l1 x7_2) ≥ (l0_1.length : Int)
         ·rw [if_pos c34] at H
          have c34b0 : decide ((l0_1.length : Int) ≤ (rd l1 x7_2)) = true := decide_eq_true c34
          clear c34
          obtain rfl := Option.some.inj H
          try go_wp2
          have n0_ := M_ (Kd.R_drew HO_6.out)
          have n1_ := M_ (blk_drew BK265.out)
          have n2_ := M_ (below_drew1 HB.out)
          clear HO_6
          clear BK265
          clear HB
          have HO_6 := n0_
          have BK265 := n1_
          have HB := n2_
          clear n0_ n1_ n2_
          have p272 : 0 ≤ (x7_2 : Int) := of_decide_eq_true (by first | (with_reducible assumption) | assumption)
          have q272 : x7_2 < (l1.length : Int) := of_decide_eq_true (by first | (with_reducible assumption) | assumption)
          obtain ⟨ad272, e272, hx272_0⟩ := Kd.at_int HR1.out x7_2 p272 q272
          have hw272_0 := hx272_0
          cases e272
          replace hx272_0 := (HB.out.cell (World.block_lt_of_cell? w _ hx272_0)).trans hx272_0
          replace p272 := eq_true p272
          replace q272 := eq_true q272
          have p273 : 0 ≤ (x7_2 : Int) := of_decide_eq_true (by first | (with_reducible assumption) | assumption)
          have q273 : x7_2 < (l1.length : Int) := of_decide_eq_true (by first | (with_reducible assumption) | assumption)
          obtain ⟨ad273, e273, hx273_0⟩ := Kd.at_int HR1.out x7_2 p273 q273
          have hw273_0 := hx273_0
          obtain rfl : ad272 = ad273 := (by injection e273)
          replace hx273_0 := (HB.out.cell (World.block_lt_of_cell? w _ hx273_0)).trans hx273_0
          replace p273 := eq_true p273
          replace q273 := eq_true q273
          refine start_ (n := 27) (S := fun w' => w'.cell? ⟨gb265, 0, none⟩ = some (.int .i64 a0_0) ∧ w'.cell? ⟨gb265, 1, none⟩ = some (.slice A0_1 l0_1.length c0_1) ∧ w'.cell? ⟨gb265, 2, none⟩ = some (.slice A0_2 l0_2.length c0_2) ∧ w'.cell? ⟨gb265, 3, none⟩ = some (.slice A0_3 l0_3.length c0_3) ∧ w'.cell? ⟨gb265, 4, none⟩ = some (.slice A0_4 l0_4.length c0_4) ∧ w'.cell? (ad272.add (x7_2).toNat) = some (.int .i64 (rd l1 x7_2)) ∧ w'.cell? (ad272.add (x7_2).toNat) = some (.int .i64 (rd l1 x7_2))) (ds := []) z13_ (by kernel_rfl) rfl rfl ⟨(blk_cell BK265.out 0).trans rfl, (blk_cell BK265.out 1).trans rfl, (blk_cell BK265.out 2).trans rfl, (blk_cell BK265.out 3).trans rfl, (blk_cell BK265.out 4).trans rfl, ((HB.out.cell (World.block_lt_of_cell? w _ hw272_0)).trans hw272_0), ((HB.out.cell (World.block_lt_of_cell? w _ hw273_0)).trans hw273_0)⟩ (fun hHeld => ?_); refine with_tabW spiritlevellaw27_ConstantsGreatest.tab8 spiritlevellaw27_ConstantsGreatest.bits8 (fun HT_ HW_ => ?_)
          generalize wr.drew = w35 at HO_6 BK265 HB hx272_0 hx273_0 hHeld ⊢
          refine pure_ (i := 0) (N := some 43) (v := ?_) (a' := ?_) z14_ rfl rfl (any_of HT_.out (by kernel_rfl)) (fun _ _ _ h => h) (Or.inl ⟨by rfl, ?_⟩) ?_ ?_
          rotate_left
          ·intro w'
           go_simp
           with_reducible rfl
          rotate_left
          ·simp only [Act.put, e1_, e2_, e3_, i64_w, i32_w]
           rfl
          refine pure_ (i := 1) (N := some 44) (v := ?_) (a' := ?_) z15_ rfl rfl (any_of HT_.out (by kernel_rfl)) (fun _ _ _ h => h) (Or.inl ⟨by rfl, ?_⟩) ?_ ?_
          rotate_left
          ·intro w'
           go_simp
           with_reducible rfl
          rotate_left
          ·simp only [Act.put, e1_, e2_, e3_, i64_w, i32_w]
           rfl
          refine pure_ (i := 2) (N := some 45) (v := ?_) (a' := ?_) z16_ rfl rfl (any_of HT_.out (by kernel_rfl)) (fun _ _ _ h => h) (Or.inl ⟨by rfl, ?_⟩) ?_ ?_
          rotate_left
          ·intro w'
           go_simp
           with_reducible rfl
          rotate_left
          ·simp only [Act.put, e1_, e2_, e3_, i64_w, i32_w]
           rfl
          refine take_ (i := 3) (N := some 46) (v := ?_) (a' := ?_) z17_ rfl rfl (take_ofW HT_.out HW_.out (by kernel_rfl)) (fun _ _ _ h => h) (Or.inl ⟨by rfl, ?_⟩) hHeld ?_ ?_
          rotate_left
          ·rintro w' ⟨s0, s1, s2, s3, s4, s5, s6⟩
           go_simp
           with_reducible rfl
          rotate_left
          ·simp only [Act.put, e1_, e2_, e3_, i64_w, i32_w]
           rfl
          refine pure_ (i := 4) (N := some 47) (v := ?_) (a' := ?_) z18_ rfl rfl (any_of HT_.out (by kernel_rfl)) (fun _ _ _ h => h) (Or.inl ⟨by rfl, ?_⟩) ?_ ?_
          rotate_left
          ·intro w'
           go_simp
           with_reducible rfl
          rotate_left
          ·simp only [Act.put, e1_, e2_, e3_, i64_w, i32_w]
           rfl
          refine pure_ (i := 5) (N := some 48) (v := ?_) (a' := ?_) z19_ rfl rfl (any_of HT_.out (by kernel_rfl)) (fun _ _ _ h => h) (Or.inl ⟨by rfl, ?_⟩) ?_ ?_
          rotate_left
          ·intro w'
           go_simp
           with_reducible rfl
          rotate_left
          ·simp only [Act.put, e1_, e2_, e3_, i64_w, i32_w]
           rfl
          refine pure_ (i := 6) (N := some 49) (v := ?_) (a' := ?_) z20_ rfl rfl (any_of HT_.out (by kernel_rfl)) (fun _ _ _ h => h) (Or.inl ⟨by rfl, ?_⟩) ?_ ?_
          rotate_left
          ·intro w'
           go_simp
           with_reducible rfl
          rotate_left
          ·simp only [Act.put, e1_, e2_, e3_, i64_w, i32_w]
           rfl
          refine pure_ (i := 7) (N := some 50) (v := ?_) (a' := ?_) z21_ rfl rfl (any_of HT_.out (by kernel_rfl)) (fun _ _ _ h => h) (Or.inl ⟨by rfl, ?_⟩) ?_ ?_
          rotate_left
          ·intro w'
           go_simp
           with_reducible rfl
          rotate_left
          ·simp only [Act.put, e1_, e2_, e3_, i64_w, i32_w]
           rfl
          refine pure_ (i := 8) (N := some 51) (v := ?_) (a' := ?_) z22_ rfl rfl (any_of HT_.out (by kernel_rfl)) (fun _ _ _ h => h) (Or.inl ⟨by rfl, ?_⟩) ?_ ?_
          rotate_left
          ·intro w'
           go_simp
           with_reducible rfl
          rotate_left
          ·simp only [Act.put, e1_, e2_, e3_, i64_w, i32_w]
           rfl
          refine pure_ (i := 10) (N := some 53) (v := ?_) (a' := ?_) z41_ rfl rfl (any_of HT_.out (by kernel_rfl)) (fun _ _ _ h => h) (Or.inl ⟨by rfl, ?_⟩) ?_ ?_
          rotate_left
          ·intro w'
           go_simp
           with_reducible rfl
          rotate_left
          ·simp only [Act.put, e1_, e2_, e3_, i64_w, i32_w]
           rfl
          refine take_ (i := 9) (N := some 52) (v := ?_) (a' := ?_) z24_ rfl rfl (take_ofW HT_.out HW_.out (by kernel_rfl)) (fun _ _ _ h => h) (Or.inl ⟨by rfl, ?_⟩) hHeld ?_ ?_
          rotate_left
          ·rintro w' ⟨s0, s1, s2, s3, s4, s5, s6⟩
           go_simp
           with_reducible rfl
          rotate_left
          ·simp only [Act.put, e1_, e2_, e3_, i64_w, i32_w]
           rfl
          refine take_ (i := 11) (N := some 54) (v := ?_) (a' := ?_) z25_ rfl rfl (take_ofW HT_.out HW_.out (by kernel_rfl)) (fun _ _ _ h => h) (Or.inl ⟨by rfl, ?_⟩) hHeld ?_ ?_
          rotate_left
          ·rintro w' ⟨s0, s1, s2, s3, s4, s5, s6⟩
           go_simp
           with_reducible rfl
          rotate_left
          ·simp only [Act.put, e1_, e2_, e3_, i64_w, i32_w]
           rfl
          refine pure_ (i := 12) (N := some 55) (v := ?_) (a' := ?_) z26_ rfl rfl (any_of HT_.out (by kernel_rfl)) (fun _ _ _ h => h) (Or.inl ⟨by rfl, ?_⟩) ?_ ?_
          rotate_left
          ·intro w'
           go_simp
           with_reducible rfl
          rotate_left
          ·simp only [Act.put, e1_, e2_, e3_, i64_w, i32_w]
           rfl
          refine pure_ (i := 13) (N := some 56) (v := ?_) (a' := ?_) z27_ rfl rfl (any_of HT_.out (by kernel_rfl)) (fun _ _ _ h => h) (Or.inl ⟨by rfl, ?_⟩) ?_ ?_
          rotate_left
          ·intro w'
           go_simp
           with_reducible rfl
          rotate_left
          ·simp only [Act.put, e1_, e2_, e3_, i64_w, i32_w]
           rfl
          refine pure_ (i := 14) (N := some 57) (v := ?_) (a' := ?_) z28_ rfl rfl (any_of HT_.out (by kernel_rfl)) (fun _ _ _ h => h) (Or.inl ⟨by rfl, ?_⟩) ?_ ?_
          rotate_left
          ·intro w'
           go_simp
           with_reducible rfl
          rotate_left
          ·simp only [Act.put, e1_, e2_, e3_, i64_w, i32_w]
           rfl
          refine pure_ (i := 15) (N := some 58) (v := ?_) (a' := ?_) z29_ rfl rfl (any_of HT_.out (by kernel_rfl)) (fun _ _ _ h => h) (Or.inl ⟨by rfl, ?_⟩) ?_ ?_
          rotate_left
          ·intro w'
           go_simp
           with_reducible rfl
          rotate_left
          ·simp only [Act.put, e1_, e2_, e3_, i64_w, i32_w]
           rfl
          refine pure_ (i := 16) (N := some 59) (v := undef) (a' := ?_) z30_ rfl rfl (any_of HT_.out (by kernel_rfl)) (fun _ _ _ h => h) (Or.inr ⟨by rfl, rfl⟩) ?_ ?_
          rotate_left
          ·simp only [Act.put, e1_, e2_, e3_, i64_w, i32_w]
           rfl
          refine pure_ (i := 17) (N := some 60) (v := undef) (a' := ?_) z31_ rfl rfl (any_of HT_.out (by kernel_rfl)) (fun _ _ _ h => h) (Or.inr ⟨by rfl, rfl⟩) ?_ ?_
          rotate_left
          ·simp only [Act.put, e1_, e2_, e3_, i64_w, i32_w]
           rfl
          refine pure_ (i := 18) (N := some 61) (v := undef) (a' := ?_) z32_ rfl rfl (any_of HT_.out (by kernel_rfl)) (fun _ _ _ h => h) (Or.inr ⟨by rfl, rfl⟩) ?_ ?_
          rotate_left
          ·simp only [Act.put, e1_, e2_, e3_, i64_w, i32_w]
           rfl
          refine pure_ (i := 19) (N := some 62) (v := undef) (a' := ?_) z33_ rfl rfl (any_of HT_.out (by kernel_rfl)) (fun _ _ _ h => h) (Or.inr ⟨by rfl, rfl⟩) ?_ ?_
          rotate_left
          ·simp only [Act.put, e1_, e2_, e3_, i64_w, i32_w]
           rfl
          refine pure_ (i := 20) (N := some 63) (v := undef) (a' := ?_) z34_ rfl rfl (any_of HT_.out (by kernel_rfl)) (fun _ _ _ h => h) (Or.inr ⟨by rfl, rfl⟩) ?_ ?_
          rotate_left
          ·simp only [Act.put, e1_, e2_, e3_, i64_w, i32_w]
           rfl
          refine pure_ (i := 21) (N := some 64) (v := undef) (a' := ?_) z35_ rfl rfl (any_of HT_.out (by kernel_rfl)) (fun _ _ _ h => h) (Or.inr ⟨by rfl, rfl⟩) ?_ ?_
          rotate_left
          ·simp only [Act.put, e1_, e2_, e3_, i64_w, i32_w]
           rfl
          refine pure_ (i := 22) (N := some 65) (v := undef) (a' := ?_) z36_ rfl rfl (any_of HT_.out (by kernel_rfl)) (fun _ _ _ h => h) (Or.inr ⟨by rfl, rfl⟩) ?_ ?_
          rotate_left
          ·simp only [Act.put, e1_, e2_, e3_, i64_w, i32_w]
           rfl
          refine pure_ (i := 23) (N := some 66) (v := undef) (a' := ?_) z37_ rfl rfl (any_of HT_.out (by kernel_rfl)) (fun _ _ _ h => h) (Or.inr ⟨by rfl, rfl⟩) ?_ ?_
          rotate_left
          ·simp only [Act.put, e1_, e2_, e3_, i64_w, i32_w]
           rfl
          refine pure_ (i := 24) (N := some 67) (v := undef) (a' := ?_) z38_ rfl rfl (any_of HT_.out (by kernel_rfl)) (fun _ _ _ h => h) (Or.inr ⟨by rfl, rfl⟩) ?_ ?_
          rotate_left
          ·simp only [Act.put, e1_, e2_, e3_, i64_w, i32_w]
           rfl
          refine pure_ (i := 25) (N := some 68) (v := undef) (a' := ?_) z39_ rfl rfl (any_of HT_.out (by kernel_rfl)) (fun _ _ _ h => h) (Or.inr ⟨by rfl, rfl⟩) ?_ ?_
          rotate_left
          ·simp only [Act.put, e1_, e2_, e3_, i64_w, i32_w]
           rfl
          refine pure_ (i := 26) (N := some 69) (v := ?_) (a' := ?_) z40_ rfl rfl (any_of HT_.out (by kernel_rfl)) (fun _ _ _ h => h) (Or.inl ⟨by rfl, ?_⟩) ?_ ?_
          rotate_left
          ·intro w'
           go_simp
           with_reducible rfl
          rotate_left
          ·simp only [Act.put, e1_, e2_, e3_, i64_w, i32_w]
           rfl
          refine done_ (done_of HT_.out (by kernel_rfl)) ?_
          try go_wp2
          go_ret
          exact ⟨by first | rfl | (simp [errW_none, errW_some] <;> rfl) | (simp [*, errW_none, errW_some] <;> rfl), by repeat (first | (with_reducible first | exact HB.out | apply b0_ | apply b1_ | apply b2_ | refine below_set ?_ GE265.out) | exact HB.out)⟩
         ·rw [if_neg c34] at H
          have c34b0 : decide ((l0_1.length : Int) ≤ (rd l1 x7_2)) = false := decide_eq_false c34
          clear c34
          by_cases c36 : 0 ≤ (rd l1 x7_2)
          ·rw [if_pos c36] at H
           have c36b0 : decide (0 ≤ (rd l1 x7_2)) = true := decide_eq_true c36
           clear c36
           by_cases c37 : (rd l1 x7_2) < (l0_1.length : Int)
           ·rw [if_pos c37] at H
            have c37b0 : decide ((rd l1 x7_2) < (l0_1.length : Int)) = true := decide_eq_true c37
            clear c37
            by_cases c38 : ((rd_T45 l0_1 (rd l1 x7_2)).f1) = 2
            ·rw [if_pos c38] at H
             have c38b0 : (((rd_T45 l0_1 (rd l1 x7_2)).f1) == 2) = true := beq_iff_eq.mpr c38
             have c38b1 : (((rd_T45 l0_1 (rd l1 x7_2)).f1) != 2) = false := bne_eq_false_iff_eq.mpr c38
             clear c38
             obtain rfl := Option.some.inj H
             try go_wp2
             have n0_ := M_ (Kd.R_drew HO_6.out)
             have n1_ := M_ (blk_drew BK265.out)
             have n2_ := M_ (below_drew1 HB.out)
             clear HO_6
             clear BK265
             clear HB
             have HO_6 := n0_
             have BK265 := n1_
             have HB := n2_
             clear n0_ n1_ n2_
             have p272 : 0 ≤ (x7_2 : Int) := of_decide_eq_true (by first | (with_reducible assumption) | assumption)
             have q272 : x7_2 < (l1.length : Int) := of_decide_eq_true (by first | (with_reducible assumption) | assumption)
             obtain ⟨ad272, e272, hx272_0⟩ := Kd.at_int HR1.out x7_2 p272 q272
             have hw272_0 := hx272_0
             cases e272
             replace hx272_0 := (HB.out.cell (World.block_lt_of_cell? w _ hx272_0)).trans hx272_0
             replace p272 := eq_true p272
             replace q272 := eq_true q272
             have p273 : 0 ≤ (x7_2 : Int) := of_decide_eq_true (by first | (with_reducible assumption) | assumption)
             have q273 : x7_2 < (l1.length : Int) := of_decide_eq_true (by first | (with_reducible assumption) | assumption)
             obtain ⟨ad273, e273, hx273_0⟩ := Kd.at_int HR1.out x7_2 p273 q273
             have hw273_0 := hx273_0
             obtain rfl : ad272 = ad273 := (by injection e273)
             replace hx273_0 := (HB.out.cell (World.block_lt_of_cell? w _ hx273_0)).trans hx273_0
             replace p273 := eq_true p273
             replace q273 := eq_true q273
             have p274 : 0 ≤ (x7_2 : Int) := of_decide_eq_true (by first | (with_reducible assumption) | assumption)
             have q274 : x7_2 < (l1.length : Int) := of_decide_eq_true (by first | (with_reducible assumption) | assumption)
             obtain ⟨ad274, e274, hx274_0⟩ := Kd.at_int HR1.out x7_2 p274 q274
             have hw274_0 := hx274_0
             obtain rfl : ad272 = ad274 := (by injection e274)
             replace hx274_0 := (HB.out.cell (World.block_lt_of_cell? w _ hx274_0)).trans hx274_0
             replace p274 := eq_true p274
             replace q274 := eq_true q274
             have p275 : 0 ≤ ((rd l1 x7_2) : Int) := of_decide_eq_true (by first | (with_reducible assumption) | assumption)
             have q275 : (rd l1 x7_2) < (l0_1.length : Int) := of_decide_eq_true (by first | (with_reducible assumption) | assumption)
             obtain ⟨ad275, e275, hx275_0, hx275_1⟩ := at_T45 HR0_1.out (rd l1 x7_2) p275 q275
             have hw275_1 := hx275_1
             have hw275_0 := hx275_0
             cases e275
             replace hx275_0 := (HB.out.cell (World.block_lt_of_cell? w _ hx275_0)).trans hx275_0
             replace hx275_1 := (HB.out.cell (World.block_lt_of_cell? w _ hx275_1)).trans hx275_1
             replace p275 := eq_true p275
             replace q275 := eq_true q275
             refine start_ (n := 27) (S := fun w' => w'.cell? ⟨gb265, 0, none⟩ = some (.int .i64 a0_0) ∧ w'.cell? ⟨gb265, 1, none⟩ = some (.slice (some ad275) l0_1.length c0_1) ∧ w'.cell? ⟨gb265, 2, none⟩ = some (.slice A0_2 l0_2.length c0_2) ∧ w'.cell? ⟨gb265, 3, none⟩ = some (.slice A0_3 l0_3.length c0_3) ∧ w'.cell? ⟨gb265, 4, none⟩ = some (.slice A0_4 l0_4.length c0_4) ∧ w'.cell? (ad272.add (x7_2).toNat) = some (.int .i64 (rd l1 x7_2)) ∧ w'.cell? (ad272.add (x7_2).toNat) = some (.int .i64 (rd l1 x7_2)) ∧ w'.cell? (ad272.add (x7_2).toNat) = some (.int .i64 (rd l1 x7_2)) ∧ w'.cell? (ad275.add (((rd l1 x7_2)).toNat * 2)) = some (.int .i64 ((rd_T45 l0_1 (rd l1 x7_2)).f0)) ∧ w'.cell? ⟨(ad275.add (((rd l1 x7_2)).toNat * 2)).block, (ad275.add (((rd l1 x7_2)).toNat * 2)).off + 1, none⟩ = some (.int .i64 ((rd_T45 l0_1 (rd l1 x7_2)).f1))) (ds := []) z13_ (by kernel_rfl) rfl rfl ⟨(blk_cell BK265.out 0).trans rfl, (blk_cell BK265.out 1).trans rfl, (blk_cell BK265.out 2).trans rfl, (blk_cell BK265.out 3).trans rfl, (blk_cell BK265.out 4).trans rfl, ((HB.out.cell (World.block_lt_of_cell? w _ hw272_0)).trans hw272_0), ((HB.out.cell (World.block_lt_of_cell? w _ hw273_0)).trans hw273_0), ((HB.out.cell (World.block_lt_of_cell? w _ hw274_0)).trans hw274_0), ((HB.out.cell (World.block_lt_of_cell? w _ hw275_0)).trans hw275_0), ((HB.out.cell (World.block_lt_of_cell? w _ hw275_1)).trans hw275_1)⟩ (fun hHeld => ?_); refine with_tabW spiritlevellaw27_ConstantsGreatest.tab8 spiritlevellaw27_ConstantsGreatest.bits8 (fun HT_ HW_ => ?_)
             generalize wr.drew = w39 at HO_6 BK265 HB hx272_0 hx273_0 hx274_0 hx275_0 hx275_1 hHeld ⊢
             refine pure_ (i := 0) (N := some 43) (v := ?_) (a' := ?_) z14_ rfl rfl (any_of HT_.out (by kernel_rfl)) (fun _ _ _ h => h) (Or.inl ⟨by rfl, ?_⟩) ?_ ?_
             rotate_left
             ·intro w'
              go_simp
              with_reducible rfl
             rotate_left
             ·simp only [Act.put, e1_, e2_, e3_, i64_w, i32_w]
              rfl
             refine pure_ (i := 1) (N := some 44) (v := ?_) (a' := ?_) z15_ rfl rfl (any_of HT_.out (by kernel_rfl)) (fun _ _ _ h => h) (Or.inl ⟨by rfl, ?_⟩) ?_ ?_
             rotate_left
             ·intro w'
              go_simp
              with_reducible rfl
             rotate_left
             ·simp only [Act.put, e1_, e2_, e3_, i64_w, i32_w]
              rfl
             refine pure_ (i := 2) (N := some 45) (v := ?_) (a' := ?_) z16_ rfl rfl (any_of HT_.out (by kernel_rfl)) (fun _ _ _ h => h) (Or.inl ⟨by rfl, ?_⟩) ?_ ?_
             rotate_left
             ·intro w'
              go_simp
              with_reducible rfl
             rotate_left
             ·simp only [Act.put, e1_, e2_, e3_, i64_w, i32_w]
              rfl
             refine take_ (i := 3) (N := some 46) (v := ?_) (a' := ?_) z17_ rfl rfl (take_ofW HT_.out HW_.out (by kernel_rfl)) (fun _ _ _ h => h) (Or.inl ⟨by rfl, ?_⟩) hHeld ?_ ?_
             rotate_left
             ·rintro w' ⟨s0, s1, s2, s3, s4, s5, s6, s7, s8, s9⟩
              go_simp
              with_reducible rfl
             rotate_left
             ·simp only [Act.put, e1_, e2_, e3_, i64_w, i32_w]
              rfl
             refine pure_ (i := 4) (N := some 47) (v := ?_) (a' := ?_) z18_ rfl rfl (any_of HT_.out (by kernel_rfl)) (fun _ _ _ h => h) (Or.inl ⟨by rfl, ?_⟩) ?_ ?_
             rotate_left
             ·intro w'
              go_simp
              with_reducible rfl
             rotate_left
             ·simp only [Act.put, e1_, e2_, e3_, i64_w, i32_w]
              rfl
             refine pure_ (i := 5) (N := some 48) (v := ?_) (a' := ?_) z19_ rfl rfl (any_of HT_.out (by kernel_rfl)) (fun _ _ _ h => h) (Or.inl ⟨by rfl, ?_⟩) ?_ ?_
             rotate_left
             ·intro w'
              go_simp
              with_reducible rfl
             rotate_left
             ·simp only [Act.put, e1_, e2_, e3_, i64_w, i32_w]
              rfl
             refine pure_ (i := 6) (N := some 49) (v := ?_) (a' := ?_) z20_ rfl rfl (any_of HT_.out (by kernel_rfl)) (fun _ _ _ h => h) (Or.inl ⟨by rfl, ?_⟩) ?_ ?_
             rotate_left
             ·intro w'
              go_simp
              with_reducible rfl
             rotate_left
             ·simp only [Act.put, e1_, e2_, e3_, i64_w, i32_w]
              rfl
             refine pure_ (i := 7) (N := some 50) (v := ?_) (a' := ?_) z21_ rfl rfl (any_of HT_.out (by kernel_rfl)) (fun _ _ _ h => h) (Or.inl ⟨by rfl, ?_⟩) ?_ ?_
             rotate_left
             ·intro w'
              go_simp
              with_reducible rfl
             rotate_left
             ·simp only [Act.put, e1_, e2_, e3_, i64_w, i32_w]
              rfl
             refine pure_ (i := 8) (N := some 51) (v := ?_) (a' := ?_) z22_ rfl rfl (any_of HT_.out (by kernel_rfl)) (fun _ _ _ h => h) (Or.inl ⟨by rfl, ?_⟩) ?_ ?_
             rotate_left
             ·intro w'
              go_simp
              with_reducible rfl
             rotate_left
             ·simp only [Act.put, e1_, e2_, e3_, i64_w, i32_w]
              rfl
             refine pure_ (i := 10) (N := some 53) (v := ?_) (a' := ?_) z41_ rfl rfl (any_of HT_.out (by kernel_rfl)) (fun _ _ _ h => h) (Or.inl ⟨by rfl, ?_⟩) ?_ ?_
             rotate_left
             ·intro w'
              go_simp
              with_reducible rfl
             rotate_left
             ·simp only [Act.put, e1_, e2_, e3_, i64_w, i32_w]
              rfl
             refine take_ (i := 9) (N := some 52) (v := ?_) (a' := ?_) z24_ rfl rfl (take_ofW HT_.out HW_.out (by kernel_rfl)) (fun _ _ _ h => h) (Or.inl ⟨by rfl, ?_⟩) hHeld ?_ ?_
             rotate_left
             ·rintro w' ⟨s0, s1, s2, s3, s4, s5, s6, s7, s8, s9⟩
              go_simp
              with_reducible rfl
             rotate_left
             ·simp only [Act.put, e1_, e2_, e3_, i64_w, i32_w]
              rfl
             refine take_ (i := 11) (N := some 54) (v := ?_) (a' := ?_) z25_ rfl rfl (take_ofW HT_.out HW_.out (by kernel_rfl)) (fun _ _ _ h => h) (Or.inl ⟨by rfl, ?_⟩) hHeld ?_ ?_
             rotate_left
             ·rintro w' ⟨s0, s1, s2, s3, s4, s5, s6, s7, s8, s9⟩
              go_simp
              with_reducible rfl
             rotate_left
             ·simp only [Act.put, e1_, e2_, e3_, i64_w, i32_w]
              rfl
             refine pure_ (i := 12) (N := some 55) (v := ?_) (a' := ?_) z26_ rfl rfl (any_of HT_.out (by kernel_rfl)) (fun _ _ _ h => h) (Or.inl ⟨by rfl, ?_⟩) ?_ ?_
             rotate_left
             ·intro w'
              go_simp
              with_reducible rfl
             rotate_left
             ·simp only [Act.put, e1_, e2_, e3_, i64_w, i32_w]
              rfl
             refine pure_ (i := 13) (N := some 56) (v := ?_) (a' := ?_) z27_ rfl rfl (any_of HT_.out (by kernel_rfl)) (fun _ _ _ h => h) (Or.inl ⟨by rfl, ?_⟩) ?_ ?_
             rotate_left
             ·intro w'
              go_simp
              with_reducible rfl
             rotate_left
             ·simp only [Act.put, e1_, e2_, e3_, i64_w, i32_w]
              rfl
             refine pure_ (i := 14) (N := some 57) (v := ?_) (a' := ?_) z28_ rfl rfl (any_of HT_.out (by kernel_rfl)) (fun _ _ _ h => h) (Or.inl ⟨by rfl, ?_⟩) ?_ ?_
             rotate_left
             ·intro w'
              go_simp
              with_reducible rfl
             rotate_left
             ·simp only [Act.put, e1_, e2_, e3_, i64_w, i32_w]
              rfl
             refine pure_ (i := 15) (N := some 58) (v := ?_) (a' := ?_) z29_ rfl rfl (any_of HT_.out (by kernel_rfl)) (fun _ _ _ h => h) (Or.inl ⟨by rfl, ?_⟩) ?_ ?_
             rotate_left
             ·intro w'
              go_simp
              with_reducible rfl
             rotate_left
             ·simp only [Act.put, e1_, e2_, e3_, i64_w, i32_w]
              rfl
             refine pure_ (i := 16) (N := some 59) (v := ?_) (a' := ?_) z30_ rfl rfl (any_of HT_.out (by kernel_rfl)) (fun _ _ _ h => h) (Or.inl ⟨by rfl, ?_⟩) ?_ ?_
             rotate_left
             ·intro w'
              go_simp
              with_reducible rfl
             rotate_left
             ·simp only [Act.put, e1_, e2_, e3_, i64_w, i32_w]
              rfl
             refine pure_ (i := 18) (N := some 61) (v := ?_) (a' := ?_) z42_ rfl rfl (any_of HT_.out (by kernel_rfl)) (fun _ _ _ h => h) (Or.inl ⟨by rfl, ?_⟩) ?_ ?_
             rotate_left
             ·intro w'
              go_simp
              with_reducible rfl
             rotate_left
             ·simp only [Act.put, e1_, e2_, e3_, i64_w, i32_w]
              rfl
             refine pure_ (i := 19) (N := some 62) (v := ?_) (a' := ?_) z43_ rfl rfl (any_of HT_.out (by kernel_rfl)) (fun _ _ _ h => h) (Or.inl ⟨by rfl, ?_⟩) ?_ ?_
             rotate_left
             ·intro w'
              go_simp
              with_reducible rfl
             rotate_left
             ·simp only [Act.put, e1_, e2_, e3_, i64_w, i32_w]
              rfl
             refine pure_ (i := 20) (N := some 63) (v := ?_) (a' := ?_) z44_ rfl rfl (any_of HT_.out (by kernel_rfl)) (fun _ _ _ h => h) (Or.inl ⟨by rfl, ?_⟩) ?_ ?_
             rotate_left
             ·intro w'
              go_simp
              with_reducible rfl
             rotate_left
             ·simp only [Act.put, e1_, e2_, e3_, i64_w, i32_w]
              rfl
             refine take_ (i := 17) (N := some 60) (v := ?_) (a' := ?_) z34_ rfl rfl (take_ofW HT_.out HW_.out (by kernel_rfl)) (fun _ _ _ h => h) (Or.inl ⟨by rfl, ?_⟩) hHeld ?_ ?_
             rotate_left
             ·rintro w' ⟨s0, s1, s2, s3, s4, s5, s6, s7, s8, s9⟩
              go_simp
              with_reducible rfl
             rotate_left
             ·simp only [Act.put, e1_, e2_, e3_, i64_w, i32_w]
              rfl
             refine take_ (i := 21) (N := some 64) (v := ?_) (a' := ?_) z35_ rfl rfl (take_ofW HT_.out HW_.out (by kernel_rfl)) (fun _ _ _ h => h) (Or.inl ⟨by rfl, ?_⟩) hHeld ?_ ?_
             rotate_left
             ·rintro w' ⟨s0, s1, s2, s3, s4, s5, s6, s7, s8, s9⟩
              go_simp
              with_reducible rfl
             rotate_left
             ·simp only [Act.put, e1_, e2_, e3_, i64_w, i32_w]
              rfl
             refine pure_ (i := 22) (N := some 65) (v := ?_) (a' := ?_) z36_ rfl rfl (any_of HT_.out (by kernel_rfl)) (fun _ _ _ h => h) (Or.inl ⟨by rfl, ?_⟩) ?_ ?_
             rotate_left
             ·intro w'
              go_simp
              with_reducible rfl
             rotate_left
             ·simp only [Act.put, e1_, e2_, e3_, i64_w, i32_w]
              rfl
             refine pure_ (i := 23) (N := some 66) (v := ?_) (a' := ?_) z37_ rfl rfl (any_of HT_.out (by kernel_rfl)) (fun _ _ _ h => h) (Or.inl ⟨by rfl, ?_⟩) ?_ ?_
             rotate_left
             ·intro w'
              go_simp
              with_reducible rfl
             rotate_left
             ·simp only [Act.put, e1_, e2_, e3_, i64_w, i32_w]
              rfl
             refine take_ (i := 24) (N := some 67) (v := ?_) (a' := ?_) z38_ rfl rfl (take_ofW HT_.out HW_.out (by kernel_rfl)) (fun _ _ _ h => h) (Or.inl ⟨by rfl, ?_⟩) hHeld ?_ ?_
             rotate_left
             ·rintro w' ⟨s0, s1, s2, s3, s4, s5, s6, s7, s8, s9⟩
              go_simp
              with_reducible rfl
             rotate_left
             ·simp only [Act.put, e1_, e2_, e3_, i64_w, i32_w]
              rfl
             refine pure_ (i := 25) (N := some 68) (v := ?_) (a' := ?_) z39_ rfl rfl (any_of HT_.out (by kernel_rfl)) (fun _ _ _ h => h) (Or.inl ⟨by rfl, ?_⟩) ?_ ?_
             rotate_left
             ·intro w'
              go_simp
              with_reducible rfl
             rotate_left
             ·simp only [Act.put, e1_, e2_, e3_, i64_w, i32_w]
              rfl
             refine pure_ (i := 26) (N := some 69) (v := ?_) (a' := ?_) z40_ rfl rfl (any_of HT_.out (by kernel_rfl)) (fun _ _ _ h => h) (Or.inl ⟨by rfl, ?_⟩) ?_ ?_
             rotate_left
             ·intro w'
              go_simp
              with_reducible rfl
             rotate_left
             ·simp only [Act.put, e1_, e2_, e3_, i64_w, i32_w]
              rfl
             refine done_ (done_of HT_.out (by kernel_rfl)) ?_
             try go_wp2
             go_ret
             exact ⟨by first | rfl | (simp [errW_none, errW_some] <;> rfl) | (simp [*, errW_none, errW_some] <;> rfl), by repeat (first | (with_reducible first | exact HB.out | apply b0_ | apply b1_ | apply b2_ | refine below_set ?_ GE265.out) | exact HB.out)⟩
            ·rw [if_neg c38] at H
             have c38b0 : (((rd_T45 l0_1 (rd l1 x7_2)).f1) == 2) = false := beq_eq_false_iff_ne.mpr c38
             have c38b1 : (((rd_T45 l0_1 (rd l1 x7_2)).f1) != 2) = true := bne_iff_ne.mpr c38
             obtain ⟨ji40, hji40⟩ : ∃ j_ : Int, (wrap64 ((wrap64 (a0_0 + 1)) + (rd l1 x7_2))) = j_ := ⟨_, rfl⟩
             replace H : (if 0 ≤ (ji40) then (if (ji40) < (x6_2.length : Int) then (spiritlevellaw27_ConstantsGreatest.l0 k2 l1 t266 (x6_2.set ((ji40) : Int).toNat ((rd_T45 l0_1 (rd l1 x7_2)).f1)) (wrap64 (x7_2 + 1)) a0_0 l0_1 l0_2 l0_3 l0_4) else (none)) else (none)) = some r := by first | (rw [hji40] at H; exact H) | (simp only [hji40] at H ⊢; exact H)
             have hji40w : (IntKind.i64.wrap ((wrap64 (a0_0 + 1)) + (rd l1 x7_2))) = ji40 := (i64_w _).trans hji40
             by_cases c41 : 0 ≤ (ji40)
             ·rw [if_pos c41] at H
              have c41b0 : decide (0 ≤ (ji40)) = true := decide_eq_true c41
              clear c41
              by_cases c42 : (ji40) < (x6_2.length : Int)
              ·rw [if_pos c42] at H
               have c42b0 : decide ((ji40) < (x6_2.length : Int)) = true := decide_eq_true c42
               clear c42
               obtain ⟨y279, hy279⟩ : ∃ y_ : List Int, y_ = (x6_2.set ((ji40) : Int).toNat ((rd_T45 l0_1 (rd l1 x7_2)).f1)) := ⟨_, rfl⟩
               replace H : (spiritlevellaw27_ConstantsGreatest.l0 k2 l1 t266 y279 (wrap64 (x7_2 + 1)) a0_0 l0_1 l0_2 l0_3 l0_4) = some r := by first | (rw [hy279]; with_reducible exact H) | (have H2_ := (Option.bind_some _ _).symm.trans H; rw [hy279]; with_reducible exact H2_) | (have H2_ := (Option.bind_some _ _).symm.trans H; with_reducible exact H2_) | with_reducible exact H | (rw [hy279]; exact H) | exact H
               have Ny279 := M_ hy279
               clear hy279
               have H' := M_ H
               clear H
               try go_wp2
               have n0_ := M_ (Kd.R_drew HO_6.out)
               have n1_ := M_ (blk_drew BK265.out)
               have n2_ := M_ (below_drew1 HB.out)
               clear HO_6
               clear BK265
               clear HB
               have HO_6 := n0_
               have BK265 := n1_
               have HB := n2_
               clear n0_ n1_ n2_
               have p272 : 0 ≤ (x7_2 : Int) := of_decide_eq_true (by first | (with_reducible assumption) | assumption)
               have q272 : x7_2 < (l1.length : Int) := of_decide_eq_true (by first | (with_reducible assumption) | assumption)
               obtain ⟨ad272, e272, hx272_0⟩ := Kd.at_int HR1.out x7_2 p272 q272
               have hw272_0 := hx272_0
               cases e272
               replace hx272_0 := (HB.out.cell (World.block_lt_of_cell? w _ hx272_0)).trans hx272_0
               replace p272 := eq_true p272
               replace q272 := eq_true q272
               have p273 : 0 ≤ (x7_2 : Int) := of_decide_eq_true (by first | (with_reducible assumption) | assumption)
               have q273 : x7_2 < (l1.length : Int) := of_decide_eq_true (by first | (with_reducible assumption) | assumption)
               obtain ⟨ad273, e273, hx273_0⟩ := Kd.at_int HR1.out x7_2 p273 q273
               have hw273_0 := hx273_0
               obtain rfl : ad272 = ad273 := (by injection e273)
               replace hx273_0 := (HB.out.cell (World.block_lt_of_cell? w _ hx273_0)).trans hx273_0
               replace p273 := eq_true p273
               replace q273 := eq_true q273
               have p274 : 0 ≤ (x7_2 : Int) := of_decide_eq_true (by first | (with_reducible assumption) | assumption)
               have q274 : x7_2 < (l1.length : Int) := of_decide_eq_true (by first | (with_reducible assumption) | assumption)
               obtain ⟨ad274, e274, hx274_0⟩ := Kd.at_int HR1.out x7_2 p274 q274
               have hw274_0 := hx274_0
               obtain rfl : ad272 = ad274 := (by injection e274)
               replace hx274_0 := (HB.out.cell (World.block_lt_of_cell? w _ hx274_0)).trans hx274_0
               replace p274 := eq_true p274
               replace q274 := eq_true q274
               have p275 : 0 ≤ ((rd l1 x7_2) : Int) := of_decide_eq_true (by first | (with_reducible assumption) | assumption)
               have q275 : (rd l1 x7_2) < (l0_1.length : Int) := of_decide_eq_true (by first | (with_reducible assumption) | assumption)
               obtain ⟨ad275, e275, hx275_0, hx275_1⟩ := at_T45 HR0_1.out (rd l1 x7_2) p275 q275
               have hw275_1 := hx275_1
               have hw275_0 := hx275_0
               cases e275
               replace hx275_0 := (HB.out.cell (World.block_lt_of_cell? w _ hx275_0)).trans hx275_0
               replace hx275_1 := (HB.out.cell (World.block_lt_of_cell? w _ hx275_1)).trans hx275_1
               replace p275 := eq_true p275
               replace q275 := eq_true q275
               refine start_ (n := 27) (S := fun w' => w'.cell? ⟨gb265, 0, none⟩ = some (.int .i64 a0_0) ∧ w'.cell? ⟨gb265, 1, none⟩ = some (.slice (some ad275) l0_1.length c0_1) ∧ w'.cell? ⟨gb265, 2, none⟩ = some (.slice A0_2 l0_2.length c0_2) ∧ w'.cell? ⟨gb265, 3, none⟩ = some (.slice A0_3 l0_3.length c0_3) ∧ w'.cell? ⟨gb265, 4, none⟩ = some (.slice A0_4 l0_4.length c0_4) ∧ w'.cell? (ad272.add (x7_2).toNat) = some (.int .i64 (rd l1 x7_2)) ∧ w'.cell? (ad272.add (x7_2).toNat) = some (.int .i64 (rd l1 x7_2)) ∧ w'.cell? (ad272.add (x7_2).toNat) = some (.int .i64 (rd l1 x7_2)) ∧ w'.cell? (ad275.add (((rd l1 x7_2)).toNat * 2)) = some (.int .i64 ((rd_T45 l0_1 (rd l1 x7_2)).f0)) ∧ w'.cell? ⟨(ad275.add (((rd l1 x7_2)).toNat * 2)).block, (ad275.add (((rd l1 x7_2)).toNat * 2)).off + 1, none⟩ = some (.int .i64 ((rd_T45 l0_1 (rd l1 x7_2)).f1))) (ds := []) z13_ (by kernel_rfl) rfl rfl ⟨(blk_cell BK265.out 0).trans rfl, (blk_cell BK265.out 1).trans rfl, (blk_cell BK265.out 2).trans rfl, (blk_cell BK265.out 3).trans rfl, (blk_cell BK265.out 4).trans rfl, ((HB.out.cell (World.block_lt_of_cell? w _ hw272_0)).trans hw272_0), ((HB.out.cell (World.block_lt_of_cell? w _ hw273_0)).trans hw273_0), ((HB.out.cell (World.block_lt_of_cell? w _ hw274_0)).trans hw274_0), ((HB.out.cell (World.block_lt_of_cell? w _ hw275_0)).trans hw275_0), ((HB.out.cell (World.block_lt_of_cell? w _ hw275_1)).trans hw275_1)⟩ (fun hHeld => ?_); refine with_tabW spiritlevellaw27_ConstantsGreatest.tab8 spiritlevellaw27_ConstantsGreatest.bits8 (fun HT_ HW_ => ?_)
               generalize wr.drew = w44 at HO_6 BK265 HB hx272_0 hx273_0 hx274_0 hx275_0 hx275_1 hHeld ⊢
               refine pure_ (i := 0) (N := some 43) (v := ?_) (a' := ?_) z14_ rfl rfl (any_of HT_.out (by kernel_rfl)) (fun _ _ _ h => h) (Or.inl ⟨by rfl, ?_⟩) ?_ ?_
               rotate_left
               ·intro w'
                go_simp
                with_reducible rfl
               rotate_left
               ·simp only [Act.put, e1_, e2_, e3_, i64_w, i32_w]
                rfl
               refine pure_ (i := 1) (N := some 44) (v := ?_) (a' := ?_) z15_ rfl rfl (any_of HT_.out (by kernel_rfl)) (fun _ _ _ h => h) (Or.inl ⟨by rfl, ?_⟩) ?_ ?_
               rotate_left
               ·intro w'
                go_simp
                with_reducible rfl
               rotate_left
               ·simp only [Act.put, e1_, e2_, e3_, i64_w, i32_w]
                rfl
               refine pure_ (i := 2) (N := some 45) (v := ?_) (a' := ?_) z16_ rfl rfl (any_of HT_.out (by kernel_rfl)) (fun _ _ _ h => h) (Or.inl ⟨by rfl, ?_⟩) ?_ ?_
               rotate_left
               ·intro w'
                go_simp
                with_reducible rfl
               rotate_left
               ·simp only [Act.put, e1_, e2_, e3_, i64_w, i32_w]
                rfl
               refine take_ (i := 3) (N := some 46) (v := ?_) (a' := ?_) z17_ rfl rfl (take_ofW HT_.out HW_.out (by kernel_rfl)) (fun _ _ _ h => h) (Or.inl ⟨by rfl, ?_⟩) hHeld ?_ ?_
               rotate_left
               ·rintro w' ⟨s0, s1, s2, s3, s4, s5, s6, s7, s8, s9⟩
                go_simp
                with_reducible rfl
               rotate_left
               ·simp only [Act.put, e1_, e2_, e3_, i64_w, i32_w]
                rfl
               refine pure_ (i := 4) (N := some 47) (v := ?_) (a' := ?_) z18_ rfl rfl (any_of HT_.out (by kernel_rfl)) (fun _ _ _ h => h) (Or.inl ⟨by rfl, ?_⟩) ?_ ?_
               rotate_left
               ·intro w'
                go_simp
                with_reducible rfl
               rotate_left
               ·simp only [Act.put, e1_, e2_, e3_, i64_w, i32_w]
                rfl
               refine pure_ (i := 5) (N := some 48) (v := ?_) (a' := ?_) z19_ rfl rfl (any_of HT_.out (by kernel_rfl)) (fun _ _ _ h => h) (Or.inl ⟨by rfl, ?_⟩) ?_ ?_
               rotate_left
               ·intro w'
                go_simp
                with_reducible rfl
               rotate_left
               ·simp only [Act.put, e1_, e2_, e3_, i64_w, i32_w]
                rfl
               refine pure_ (i := 6) (N := some 49) (v := ?_) (a' := ?_) z20_ rfl rfl (any_of HT_.out (by kernel_rfl)) (fun _ _ _ h => h) (Or.inl ⟨by rfl, ?_⟩) ?_ ?_
               rotate_left
               ·intro w'
                go_simp
                with_reducible rfl
               rotate_left
               ·simp only [Act.put, e1_, e2_, e3_, i64_w, i32_w]
                rfl
               refine pure_ (i := 7) (N := some 50) (v := ?_) (a' := ?_) z21_ rfl rfl (any_of HT_.out (by kernel_rfl)) (fun _ _ _ h => h) (Or.inl ⟨by rfl, ?_⟩) ?_ ?_
               rotate_left
               ·intro w'
                go_simp
                with_reducible rfl
               rotate_left
               ·simp only [Act.put, e1_, e2_, e3_, i64_w, i32_w]
                rfl
               refine pure_ (i := 8) (N := some 51) (v := ?_) (a' := ?_) z22_ rfl rfl (any_of HT_.out (by kernel_rfl)) (fun _ _ _ h => h) (Or.inl ⟨by rfl, ?_⟩) ?_ ?_
               rotate_left
               ·intro w'
                go_simp
                with_reducible rfl
               rotate_left
               ·simp only [Act.put, e1_, e2_, e3_, i64_w, i32_w]
                rfl
               refine pure_ (i := 10) (N := some 53) (v := ?_) (a' := ?_) z41_ rfl rfl (any_of HT_.out (by kernel_rfl)) (fun _ _ _ h => h) (Or.inl ⟨by rfl, ?_⟩) ?_ ?_
               rotate_left
               ·intro w'
                go_simp
                with_reducible rfl
               rotate_left
               ·simp only [Act.put, e1_, e2_, e3_, i64_w, i32_w]
                rfl
               refine take_ (i := 9) (N := some 52) (v := ?_) (a' := ?_) z24_ rfl rfl (take_ofW HT_.out HW_.out (by kernel_rfl)) (fun _ _ _ h => h) (Or.inl ⟨by rfl, ?_⟩) hHeld ?_ ?_
               rotate_left
               ·rintro w' ⟨s0, s1, s2, s3, s4, s5, s6, s7, s8, s9⟩
                go_simp
                with_reducible rfl
               rotate_left
               ·simp only [Act.put, e1_, e2_, e3_, i64_w, i32_w]
                rfl
               refine take_ (i := 11) (N := some 54) (v := ?_) (a' := ?_) z25_ rfl rfl (take_ofW HT_.out HW_.out (by kernel_rfl)) (fun _ _ _ h => h) (Or.inl ⟨by rfl, ?_⟩) hHeld ?_ ?_
               rotate_left
               ·rintro w' ⟨s0, s1, s2, s3, s4, s5, s6, s7, s8, s9⟩
                go_simp
                with_reducible rfl
               rotate_left
               ·simp only [Act.put, e1_, e2_, e3_, i64_w, i32_w]
                rfl
               refine pure_ (i := 12) (N := some 55) (v := ?_) (a' := ?_) z26_ rfl rfl (any_of HT_.out (by kernel_rfl)) (fun _ _ _ h => h) (Or.inl ⟨by rfl, ?_⟩) ?_ ?_
               rotate_left
               ·intro w'
                go_simp
                with_reducible rfl
               rotate_left
               ·simp only [Act.put, e1_, e2_, e3_, i64_w, i32_w]
                rfl
               refine pure_ (i := 13) (N := some 56) (v := ?_) (a' := ?_) z27_ rfl rfl (any_of HT_.out (by kernel_rfl)) (fun _ _ _ h => h) (Or.inl ⟨by rfl, ?_⟩) ?_ ?_
               rotate_left
               ·intro w'
                go_simp
                with_reducible rfl
               rotate_left
               ·simp only [Act.put, e1_, e2_, e3_, i64_w, i32_w]
                rfl
               refine pure_ (i := 14) (N := some 57) (v := ?_) (a' := ?_) z28_ rfl rfl (any_of HT_.out (by kernel_rfl)) (fun _ _ _ h => h) (Or.inl ⟨by rfl, ?_⟩) ?_ ?_
               rotate_left
               ·intro w'
                go_simp
                with_reducible rfl
               rotate_left
               ·simp only [Act.put, e1_, e2_, e3_, i64_w, i32_w]
                rfl
               refine pure_ (i := 15) (N := some 58) (v := ?_) (a' := ?_) z29_ rfl rfl (any_of HT_.out (by kernel_rfl)) (fun _ _ _ h => h) (Or.inl ⟨by rfl, ?_⟩) ?_ ?_
               rotate_left
               ·intro w'
                go_simp
                with_reducible rfl
               rotate_left
               ·simp only [Act.put, e1_, e2_, e3_, i64_w, i32_w]
                rfl
               refine pure_ (i := 16) (N := some 59) (v := ?_) (a' := ?_) z30_ rfl rfl (any_of HT_.out (by kernel_rfl)) (fun _ _ _ h => h) (Or.inl ⟨by rfl, ?_⟩) ?_ ?_
               rotate_left
               ·intro w'
                go_simp
                with_reducible rfl
               rotate_left
               ·simp only [Act.put, e1_, e2_, e3_, i64_w, i32_w]
                rfl
               refine pure_ (i := 18) (N := some 61) (v := ?_) (a' := ?_) z42_ rfl rfl (any_of HT_.out (by kernel_rfl)) (fun _ _ _ h => h) (Or.inl ⟨by rfl, ?_⟩) ?_ ?_
               rotate_left
               ·intro w'
                go_simp
                with_reducible rfl
               rotate_left
               ·simp only [Act.put, e1_, e2_, e3_, i64_w, i32_w]
                rfl
               refine pure_ (i := 19) (N := some 62) (v := ?_) (a' := ?_) z43_ rfl rfl (any_of HT_.out (by kernel_rfl)) (fun _ _ _ h => h) (Or.inl ⟨by rfl, ?_⟩) ?_ ?_
               rotate_left
               ·intro w'
                go_simp
                with_reducible rfl
               rotate_left
               ·simp only [Act.put, e1_, e2_, e3_, i64_w, i32_w]
                rfl
               refine pure_ (i := 20) (N := some 63) (v := ?_) (a' := ?_) z44_ rfl rfl (any_of HT_.out (by kernel_rfl)) (fun _ _ _ h => h) (Or.inl ⟨by rfl, ?_⟩) ?_ ?_
               rotate_left
               ·intro w'
                go_simp
                with_reducible rfl
               rotate_left
               ·simp only [Act.put, e1_, e2_, e3_, i64_w, i32_w]
                rfl
               refine take_ (i := 17) (N := some 60) (v := ?_) (a' := ?_) z34_ rfl rfl (take_ofW HT_.out HW_.out (by kernel_rfl)) (fun _ _ _ h => h) (Or.inl ⟨by rfl, ?_⟩) hHeld ?_ ?_
               rotate_left
               ·rintro w' ⟨s0, s1, s2, s3, s4, s5, s6, s7, s8, s9⟩
                go_simp
                with_reducible rfl
               rotate_left
               ·simp only [Act.put, e1_, e2_, e3_, i64_w, i32_w]
                rfl
               refine take_ (i := 21) (N := some 64) (v := ?_) (a' := ?_) z35_ rfl rfl (take_ofW HT_.out HW_.out (by kernel_rfl)) (fun _ _ _ h => h) (Or.inl ⟨by rfl, ?_⟩) hHeld ?_ ?_
               rotate_left
               ·rintro w' ⟨s0, s1, s2, s3, s4, s5, s6, s7, s8, s9⟩
                go_simp
                with_reducible rfl
               rotate_left
               ·simp only [Act.put, e1_, e2_, e3_, i64_w, i32_w]
                rfl
               refine pure_ (i := 22) (N := some 65) (v := ?_) (a' := ?_) z36_ rfl rfl (any_of HT_.out (by kernel_rfl)) (fun _ _ _ h => h) (Or.inl ⟨by rfl, ?_⟩) ?_ ?_
               rotate_left
               ·intro w'
                go_simp
                with_reducible rfl
               rotate_left
               ·simp only [Act.put, e1_, e2_, e3_, i64_w, i32_w]
                rfl
               refine pure_ (i := 23) (N := some 66) (v := ?_) (a' := ?_) z37_ rfl rfl (any_of HT_.out (by kernel_rfl)) (fun _ _ _ h => h) (Or.inl ⟨by rfl, ?_⟩) ?_ ?_
               rotate_left
               ·intro w'
                go_simp
                with_reducible rfl
               rotate_left
               ·simp only [Act.put, e1_, e2_, e3_, i64_w, i32_w]
                rfl
               refine take_ (i := 24) (N := some 67) (v := ?_) (a' := ?_) z38_ rfl rfl (take_ofW HT_.out HW_.out (by kernel_rfl)) (fun _ _ _ h => h) (Or.inl ⟨by rfl, ?_⟩) hHeld ?_ ?_
               rotate_left
               ·rintro w' ⟨s0, s1, s2, s3, s4, s5, s6, s7, s8, s9⟩
                go_simp
                with_reducible rfl
               rotate_left
               ·simp only [Act.put, e1_, e2_, e3_, i64_w, i32_w]
                rfl
               refine pure_ (i := 25) (N := some 68) (v := ?_) (a' := ?_) z39_ rfl rfl (any_of HT_.out (by kernel_rfl)) (fun _ _ _ h => h) (Or.inl ⟨by rfl, ?_⟩) ?_ ?_
               rotate_left
               ·intro w'
                go_simp
                with_reducible rfl
               rotate_left
               ·simp only [Act.put, e1_, e2_, e3_, i64_w, i32_w]
                rfl
               refine pure_ (i := 26) (N := some 69) (v := ?_) (a' := ?_) z40_ rfl rfl (any_of HT_.out (by kernel_rfl)) (fun _ _ _ h => h) (Or.inl ⟨by rfl, ?_⟩) ?_ ?_
               rotate_left
               ·intro w'
                go_simp
                with_reducible rfl
               rotate_left
               ·simp only [Act.put, e1_, e2_, e3_, i64_w, i32_w]
                rfl
               refine done_ (done_of HT_.out (by kernel_rfl)) ?_
               try go_wp2
               have n0_ := M_ (Kd.R_drew HO_6.out)
               have n1_ := M_ (blk_drew BK265.out)
               have n2_ := M_ (below_drew1 HB.out)
               clear HO_6
               clear BK265
               clear HB
               have HO_6 := n0_
               have BK265 := n1_
               have HB := n2_
               clear n0_ n1_ n2_
               have p276 : 0 ≤ (x7_2 : Int) := of_decide_eq_true (by first | (with_reducible assumption) | assumption)
               have q276 : x7_2 < (l1.length : Int) := of_decide_eq_true (by first | (with_reducible assumption) | assumption)
               obtain ⟨ad276, e276, hx276_0⟩ := Kd.at_int HR1.out x7_2 p276 q276
               have hw276_0 := hx276_0
               obtain rfl : ad272 = ad276 := (by injection e276)
               replace hx276_0 := (HB.out.cell (World.block_lt_of_cell? w _ hx276_0)).trans hx276_0
               replace p276 := eq_true p276
               replace q276 := eq_true q276
               have p277 : 0 ≤ (x7_2 : Int) := of_decide_eq_true (by first | (with_reducible assumption) | assumption)
               have q277 : x7_2 < (l1.length : Int) := of_decide_eq_true (by first | (with_reducible assumption) | assumption)
               obtain ⟨ad277, e277, hx277_0⟩ := Kd.at_int HR1.out x7_2 p277 q277
               have hw277_0 := hx277_0
               obtain rfl : ad272 = ad277 := (by injection e277)
               replace hx277_0 := (HB.out.cell (World.block_lt_of_cell? w _ hx277_0)).trans hx277_0
               replace p277 := eq_true p277
               replace q277 := eq_true q277
               have p278 : 0 ≤ ((rd l1 x7_2) : Int) := of_decide_eq_true (by first | (with_reducible assumption) | assumption)
               have q278 : (rd l1 x7_2) < (l0_1.length : Int) := of_decide_eq_true (by first | (with_reducible assumption) | assumption)
               obtain ⟨ad278, e278, hx278_0, hx278_1⟩ := at_T45 HR0_1.out (rd l1 x7_2) p278 q278
               have hw278_1 := hx278_1
               have hw278_0 := hx278_0
               obtain rfl : ad275 = ad278 := (by injection e278)
               replace hx278_0 := (HB.out.cell (World.block_lt_of_cell? w _ hx278_0)).trans hx278_0
               replace hx278_1 := (HB.out.cell (World.block_lt_of_cell? w _ hx278_1)).trans hx278_1
               replace p278 := eq_true p278
               replace q278 := eq_true q278
               have p43 : 0 ≤ ((ji40) : Int) := of_decide_eq_true (by first | (with_reducible assumption) | assumption)
               have q43 : ((ji40) : Int) < ((x6_2.length : Int) : Int) := of_decide_eq_true (by first | (with_reducible assumption) | assumption)
               obtain ⟨go43, co43, eo43, gb43, gl43, cl43, HG43⟩ := Kd.R_form HO_6.out (by omega)
               (first | cases eo43 | (injection eo43 with ea_ en_ ec_; (first | subst ea_ | (injection ea_ with ea_; subst ea_)); subst ec_; clear en_))
               have GB43 := M_ gb43
               have GG43 := M_ HG43
               clear gb43 gl43 HG43
               obtain ⟨hx43_0, hf43_0⟩ := Kd.R_celln 0 HO_6.out ((ji40) : Int) p43 q43
               replace p43 := eq_true p43
               replace q43 := eq_true q43
               have HP46 := Kd.R_putn HO_6.out ((ji40) : Int) ((rd_T45 l0_1 (rd l1 x7_2)).f1)
               rw [← Ny279.out] at HP46
               have HQ46 := M_ HP46
               clear HP46
               refine start_ (n := 20) (S := fun w' => w'.cell? ⟨gb265, 0, none⟩ = some (.int .i64 a0_0) ∧ w'.cell? ⟨gb265, 1, none⟩ = some (.slice (some ad275) l0_1.length c0_1) ∧ w'.cell? ⟨gb265, 2, none⟩ = some (.slice A0_2 l0_2.length c0_2) ∧ w'.cell? ⟨gb265, 3, none⟩ = some (.slice A0_3 l0_3.length c0_3) ∧ w'.cell? ⟨gb265, 4, none⟩ = some (.slice A0_4 l0_4.length c0_4) ∧ w'.cell? (ad272.add (x7_2).toNat) = some (.int .i64 (rd l1 x7_2)) ∧ w'.cell? (ad272.add (x7_2).toNat) = some (.int .i64 (rd l1 x7_2)) ∧ w'.cell? (ad275.add (((rd l1 x7_2)).toNat * 2)) = some (.int .i64 ((rd_T45 l0_1 (rd l1 x7_2)).f0)) ∧ w'.cell? ⟨(ad275.add (((rd l1 x7_2)).toNat * 2)).block, (ad275.add (((rd l1 x7_2)).toNat * 2)).off + 1, none⟩ = some (.int .i64 ((rd_T45 l0_1 (rd l1 x7_2)).f1))) (ds := [19]) z45_ (by kernel_rfl) rfl rfl ⟨(blk_cell BK265.out 0).trans rfl, (blk_cell BK265.out 1).trans rfl, (blk_cell BK265.out 2).trans rfl, (blk_cell BK265.out 3).trans rfl, (blk_cell BK265.out 4).trans rfl, ((HB.out.cell (World.block_lt_of_cell? w _ hw276_0)).trans hw276_0), ((HB.out.cell (World.block_lt_of_cell? w _ hw277_0)).trans hw277_0), ((HB.out.cell (World.block_lt_of_cell? w _ hw278_0)).trans hw278_0), ((HB.out.cell (World.block_lt_of_cell? w _ hw278_1)).trans hw278_1)⟩ (fun hHeld => ?_); refine with_tabW spiritlevellaw27_ConstantsGreatest.tab10 spiritlevellaw27_ConstantsGreatest.bits10 (fun HT_ HW_ => ?_)
               generalize w44.drew = w45 at HO_6 BK265 HB GG43 HQ46 hf43_0 hx276_0 hx277_0 hx278_0 hx278_1 hx43_0 hHeld ⊢
               refine pure_ (i := 0) (N := some 71) (v := ?_) (a' := ?_) z46_ rfl rfl (any_of HT_.out (by kernel_rfl)) (fun _ _ _ h => h) (Or.inl ⟨by rfl, ?_⟩) ?_ ?_
               rotate_left
               ·intro w'
                go_simp
                with_reducible rfl
               rotate_left
               ·simp only [Act.put, e1_, e2_, e3_, i64_w, i32_w]
                rfl
               refine pure_ (i := 1) (N := some 72) (v := ?_) (a' := ?_) z47_ rfl rfl (any_of HT_.out (by kernel_rfl)) (fun _ _ _ h => h) (Or.inl ⟨by rfl, ?_⟩) ?_ ?_
               rotate_left
               ·intro w'
                go_simp
                with_reducible rfl
               rotate_left
               ·simp only [Act.put, e1_, e2_, e3_, i64_w, i32_w]
                rfl
               refine pure_ (i := 4) (N := some 75) (v := ?_) (a' := ?_) z48_ rfl rfl (any_of HT_.out (by kernel_rfl)) (fun _ _ _ h => h) (Or.inl ⟨by rfl, ?_⟩) ?_ ?_
               rotate_left
               ·intro w'
                go_simp
                with_reducible rfl
               rotate_left
               ·simp only [Act.put, e1_, e2_, e3_, i64_w, i32_w]
                rfl
               refine pure_ (i := 5) (N := some 76) (v := ?_) (a' := ?_) z49_ rfl rfl (any_of HT_.out (by kernel_rfl)) (fun _ _ _ h => h) (Or.inl ⟨by rfl, ?_⟩) ?_ ?_
               rotate_left
               ·intro w'
                go_simp
                with_reducible rfl
               rotate_left
               ·simp only [Act.put, e1_, e2_, e3_, i64_w, i32_w]
                rfl
               refine pure_ (i := 6) (N := some 77) (v := ?_) (a' := ?_) z50_ rfl rfl (any_of HT_.out (by kernel_rfl)) (fun _ _ _ h => h) (Or.inl ⟨by rfl, ?_⟩) ?_ ?_
               rotate_left
               ·intro w'
                go_simp
                with_reducible rfl
               rotate_left
               ·simp only [Act.put, e1_, e2_, e3_, i64_w, i32_w]
                rfl
               refine pure_ (i := 9) (N := some 80) (v := ?_) (a' := ?_) z51_ rfl rfl (any_of HT_.out (by kernel_rfl)) (fun _ _ _ h => h) (Or.inl ⟨by rfl, ?_⟩) ?_ ?_
               rotate_left
               ·intro w'
                go_simp
                with_reducible rfl
               rotate_left
               ·simp only [Act.put, e1_, e2_, e3_, i64_w, i32_w]
                rfl
               refine pure_ (i := 11) (N := some 82) (v := ?_) (a' := ?_) z52_ rfl rfl (any_of HT_.out (by kernel_rfl)) (fun _ _ _ h => h) (Or.inl ⟨by rfl, ?_⟩) ?_ ?_
               rotate_left
               ·intro w'
                go_simp
                with_reducible rfl
               rotate_left
               ·simp only [Act.put, e1_, e2_, e3_, i64_w, i32_w]
                rfl
               refine pure_ (i := 12) (N := some 83) (v := ?_) (a' := ?_) z53_ rfl rfl (any_of HT_.out (by kernel_rfl)) (fun _ _ _ h => h) (Or.inl ⟨by rfl, ?_⟩) ?_ ?_
               rotate_left
               ·intro w'
                go_simp
                with_reducible rfl
               rotate_left
               ·simp only [Act.put, e1_, e2_, e3_, i64_w, i32_w]
                rfl
               refine pure_ (i := 13) (N := some 84) (v := ?_) (a' := ?_) z54_ rfl rfl (any_of HT_.out (by kernel_rfl)) (fun _ _ _ h => h) (Or.inl ⟨by rfl, ?_⟩) ?_ ?_
               rotate_left
               ·intro w'
                go_simp
                with_reducible rfl
               rotate_left
               ·simp only [Act.put, e1_, e2_, e3_, i64_w, i32_w]
                rfl
               refine take_ (i := 2) (N := some 73) (v := ?_) (a' := ?_) z55_ rfl rfl (take_ofW HT_.out HW_.out (by kernel_rfl)) (fun _ _ _ h => h) (Or.inl ⟨by rfl, ?_⟩) hHeld ?_ ?_
               rotate_left
               ·rintro w' ⟨s0, s1, s2, s3, s4, s5, s6, s7, s8⟩
                go_simp
                with_reducible rfl
               rotate_left
               ·simp only [Act.put, e1_, e2_, e3_, i64_w, i32_w]
                rfl
               refine pure_ (i := 3) (N := some 74) (v := ?_) (a' := ?_) z56_ rfl rfl (any_of HT_.out (by kernel_rfl)) (fun _ _ _ h => h) (Or.inl ⟨by rfl, ?_⟩) ?_ ?_
               rotate_left
               ·intro w'
                go_simp
                with_reducible rfl
               rotate_left
               ·simp only [Act.put, e1_, e2_, e3_, i64_w, i32_w]
                rfl
               refine take_ (i := 7) (N := some 78) (v := ?_) (a' := ?_) z57_ rfl rfl (take_ofW HT_.out HW_.out (by kernel_rfl)) (fun _ _ _ h => h) (Or.inl ⟨by rfl, ?_⟩) hHeld ?_ ?_
               rotate_left
               ·rintro w' ⟨s0, s1, s2, s3, s4, s5, s6, s7, s8⟩
                go_simp
                with_reducible rfl
               rotate_left
               ·simp only [Act.put, e1_, e2_, e3_, i64_w, i32_w]
                rfl
               refine pure_ (i := 8) (N := some 79) (v := ?_) (a' := ?_) z58_ rfl rfl (any_of HT_.out (by kernel_rfl)) (fun _ _ _ h => h) (Or.inl ⟨by rfl, ?_⟩) ?_ ?_
               rotate_left
               ·intro w'
                go_simp
                with_reducible rfl
               rotate_left
               ·simp only [Act.put, e1_, e2_, e3_, i64_w, i32_w]
                rfl
               refine take_ (i := 10) (N := some 81) (v := ?_) (a' := ?_) z59_ rfl rfl (take_ofW HT_.out HW_.out (by kernel_rfl)) (fun _ _ _ h => h) (Or.inl ⟨by rfl, ?_⟩) hHeld ?_ ?_
               rotate_left
               ·rintro w' ⟨s0, s1, s2, s3, s4, s5, s6, s7, s8⟩
                go_simp
                with_reducible rfl
               rotate_left
               ·simp only [Act.put, e1_, e2_, e3_, i64_w, i32_w]
                rfl
               refine take_ (i := 14) (N := some 85) (v := ?_) (a' := ?_) z60_ rfl rfl (take_ofW HT_.out HW_.out (by kernel_rfl)) (fun _ _ _ h => h) (Or.inl ⟨by rfl, ?_⟩) hHeld ?_ ?_
               rotate_left
               ·rintro w' ⟨s0, s1, s2, s3, s4, s5, s6, s7, s8⟩
                go_simp
                with_reducible rfl
               rotate_left
               ·simp only [Act.put, e1_, e2_, e3_, i64_w, i32_w]
                rfl
               refine pure_ (i := 15) (N := some 86) (v := ?_) (a' := ?_) z61_ rfl rfl (any_of HT_.out (by kernel_rfl)) (fun _ _ _ h => h) (Or.inl ⟨by rfl, ?_⟩) ?_ ?_
               rotate_left
               ·intro w'
                go_simp
                with_reducible rfl
               rotate_left
               ·simp only [Act.put, e1_, e2_, e3_, i64_w, i32_w]
                rfl
               refine pure_ (i := 16) (N := some 87) (v := ?_) (a' := ?_) z62_ rfl rfl (any_of HT_.out (by kernel_rfl)) (fun _ _ _ h => h) (Or.inl ⟨by rfl, ?_⟩) ?_ ?_
               rotate_left
               ·intro w'
                go_simp
                with_reducible rfl
               rotate_left
               ·simp only [Act.put, e1_, e2_, e3_, i64_w, i32_w]
                rfl
               refine take_ (i := 17) (N := some 88) (v := ?_) (a' := ?_) z63_ rfl rfl (take_ofW HT_.out HW_.out (by kernel_rfl)) (fun _ _ _ h => h) (Or.inl ⟨by rfl, ?_⟩) hHeld ?_ ?_
               rotate_left
               ·rintro w' ⟨s0, s1, s2, s3, s4, s5, s6, s7, s8⟩
                go_simp
                with_reducible rfl
               rotate_left
               ·simp only [Act.put, e1_, e2_, e3_, i64_w, i32_w]
                rfl
               refine pure_ (i := 18) (N := some 89) (v := ?_) (a' := ?_) z64_ rfl rfl (any_of HT_.out (by kernel_rfl)) (fun _ _ _ h => h) (Or.inl ⟨by rfl, ?_⟩) ?_ ?_
               rotate_left
               ·intro w'
                go_simp
                with_reducible rfl
               rotate_left
               ·simp only [Act.put, e1_, e2_, e3_, i64_w, i32_w]
                rfl
               refine last_ (i := 19) (N := none) z65_ rfl rfl (one_of HT_.out (by kernel_rfl)) (by decide) (fun K hK => ?_)
               refine skip_ (w1 := ?_) (by rfl) rfl ?_ ?_
               rotate_left
               ·go_simp
                rfl
               refine hK.out _ _ ?_
               clear hK K
               refine done_ (done_of HT_.out (by kernel_rfl)) ?_
               try go_wp2
               go_roundg k2
               case measure => have := HJ3.out; have := HK2.out; omega
               case rel => exact ⟨(y279), (wrap64 (x7_2 + 1)), (by first | rfl | (simp; done) | (simp [*]; done)), H', ⟨by have := HJ3.out; have := HK2.out; omega⟩, ⟨by (with_reducible repeat (first | apply a0_ | apply a1_ | apply a2_)); exact HQ46.out⟩, ⟨by (with_reducible repeat (first | refine blk_drewN ?_ _ | refine blk_drew ?_ | refine blk_alloc ?_ _)); refine blk_far ?_ (by have h_ := Kd.R_ne HO_6.out BK265.out (by decide); intro e_; exact h_ (by rw [e_]; rfl)) _; (with_reducible repeat (first | refine blk_drewN ?_ _ | refine blk_drew ?_ | refine blk_alloc ?_ _)); exact BK265.out⟩, ⟨by repeat (first | (with_reducible first | exact HB.out | apply b0_ | apply b1_ | apply b2_ | refine below_set ?_ GB43.out | refine below_set ?_ GE265.out) | exact HB.out)⟩⟩
              ·rw [if_neg c42] at H
               exact absurd H (by simp)
             ·rw [if_neg c41] at H
              exact absurd H (by simp)
           ·rw [if_neg c37] at H
            exact absurd H (by simp)
          ·rw [if_neg c36] at H
           exact absurd H (by simp)
       ·rw [if_neg c31] at H
        exact absurd H (by simp)
      ·rw [if_neg c30] at H
       have c30b0 : decide (x7_2 < (l1.length : Int)) = false := decide_eq_false c30
       clear c30
       replace H := Option.bind_eq_some_iff.mp H
       obtain ⟨⟨t280, t281, t284, t287, t290, t293, t296⟩, A470, H⟩ := H
       replace H : ((constants_Stay.f k2 a0_0 l0_1 l0_2 l0_3 l0_4).bind fun bt298 => (if t296 = 0 then (if bt298.2 = 0 then (spiritlevellaw27_ConstantsGreatest.j2 k2 l1 t266 bt298.1 ((t281.length : Int) != (l0_1.length : Int)) a0_0 l0_1 l0_2 l0_3 l0_4 t280 t281 t284 t287 t290) else (spiritlevellaw27_ConstantsGreatest.j2 k2 l1 t266 bt298.1 true a0_0 l0_1 l0_2 l0_3 l0_4 t280 t281 t284 t287 t290)) else (spiritlevellaw27_ConstantsGreatest.j2 k2 l1 t266 bt298.1 true a0_0 l0_1 l0_2 l0_3 l0_4 t280 t281 t284 t287 t290))) = some r := H
       have A47 := M_ A470
       clear A470
       replace H := Option.bind_eq_some_iff.mp H
       obtain ⟨⟨t298, t301⟩, A480, H⟩ := H
       replace H : (if t296 = 0 then (if t301 = 0 then (spiritlevellaw27_ConstantsGreatest.j2 k2 l1 t266 t298 ((t281.length : Int) != (l0_1.length : Int)) a0_0 l0_1 l0_2 l0_3 l0_4 t280 t281 t284 t287 t290) else (spiritlevellaw27_ConstantsGreatest.j2 k2 l1 t266 t298 true a0_0 l0_1 l0_2 l0_3 l0_4 t280 t281 t284 t287 t290)) else (spiritlevellaw27_ConstantsGreatest.j2 k2 l1 t266 t298 true a0_0 l0_1 l0_2 l0_3 l0_4 t280 t281 t284 t287 t290)) = some r := H
       have A48 := M_ A480
       clear A480
       have HC49 := M_ H
       clear H
       have hcz50_0 : wr.cell? ⟨gb265, 0, none⟩ = some (.int .i64 a0_0) := (blk_cell BK265.out 0).trans rfl
       have hcz50_1 : wr.cell? ⟨gb265, 1, none⟩ = some (.slice A0_1 l0_1.length c0_1) := (blk_cell BK265.out 1).trans rfl
       have hcz50_2 : wr.cell? ⟨gb265, 2, none⟩ = some (.slice A0_2 l0_2.length c0_2) := (blk_cell BK265.out 2).trans rfl
       have hcz50_3 : wr.cell? ⟨gb265, 3, none⟩ = some (.slice A0_3 l0_3.length c0_3) := (blk_cell BK265.out 3).trans rfl
       have hcz50_4 : wr.cell? ⟨gb265, 4, none⟩ = some (.slice A0_4 l0_4.length c0_4) := (blk_cell BK265.out 4).trans rfl
       have hfz50_0 := blk_frozen BK265.out 0
       have hfz50_1 := blk_frozen BK265.out 1
       have hfz50_2 := blk_frozen BK265.out 2
       have hfz50_3 := blk_frozen BK265.out 3
       have hfz50_4 := blk_frozen BK265.out 4
       obtain ⟨Ao51, co51, eo51⟩ := Kd.R_slice HO_6.out
       subst eo51
       go_upto_region 13 with (first | ((with_reducible refine gate_callee (f := 24) rfl ?_); refine goesL_ (some 93) rfl rfl Try.func24 (by kernel_rfl) rfl #[.agg #[.int .i64 a0_0, .slice A0_1 l0_1.length c0_1, .slice A0_2 l0_2.length c0_2, .slice A0_3 l0_3.length c0_3, .slice A0_4 l0_4.length c0_4], .slice Ao51 x6_2.length co51] rfl (by (try simp only [List.map_toArray, List.map_cons, List.map_nil]); first | done | rfl | (simp only [List.length_drop, List.length_take]; rfl)) ?_; (with_reducible refine (hash_Build.calls a0_0 _ _ l0_1 _ _ l0_2 _ _ l0_3 _ _ l0_4 _ _ x6_2 t280 t281 t284 t287 t290 t293 t296 _ ?side1 ?side2 ?side3 ?side4 ?side5 ?side6 ?side7 ?side8 ?side9 ?side10 A47.out).mono ?_); (case side1 => repeat (first | exact (Kd.C_below HR0_1.out HB.out) | (with_reducible refine c0_ ?_ _) | (with_reducible refine c1_ ?_ _) | (with_reducible refine c2_ ?_))); (case side2 => exact HC0_1.out); (case side3 => repeat (first | exact (Kd.C_below HR0_2.out HB.out) | (with_reducible refine c0_ ?_ _) | (with_reducible refine c1_ ?_ _) | (with_reducible refine c2_ ?_))); (case side4 => exact HC0_2.out); (case side5 => repeat (first | exact (Kd.C_below HR0_3.out HB.out) | (with_reducible refine c0_ ?_ _) | (with_reducible refine c1_ ?_ _) | (with_reducible refine c2_ ?_))); (case side6 => exact HC0_3.out); (case side7 => repeat (first | exact (Kd.C_below HR0_4.out HB.out) | (with_reducible refine c0_ ?_ _) | (with_reducible refine c1_ ?_ _) | (with_reducible refine c2_ ?_))); (case side8 => exact HC0_4.out); (case side9 => repeat (first | exact (Kd.R_reads' HO_6.out).2.2 | (with_reducible refine c0_ ?_ _) | (with_reducible refine c1_ ?_ _) | (with_reducible refine c2_ ?_))); (case side10 => exact (Kd.R_reads' HO_6.out).2.1); rintro e w52 ⟨v282, v285, v288, v291, v294, rfl, ho0, ho1, ho2, ho3, ho4, hb⟩; refine ⟨_, rfl, ?_⟩; have n0_ := M_ (Kd.R_mono (Kd.R_told (Kd.R_told (Kd.R_told (Kd.R_old (by (with_reducible repeat (first | apply a0_ | apply a1_ | apply a2_)); exact HO_6.out) hb) (Kd.R_base ho2)) (Kd.R_base ho3)) (Kd.R_base ho4)) (fun _ h_ => h_.1)); have n1_ := M_ (Kd.R_lower ho0 (below_size (by repeat (first | (with_reducible first | exact HB.out | apply b0_ | apply b1_ | apply b2_ | refine below_set ?_ GE265.out) | exact HB.out)))); have n2_ := M_ (Kd.R_lower ho1 (below_size (by repeat (first | (with_reducible first | exact HB.out | apply b0_ | apply b1_ | apply b2_ | refine below_set ?_ GE265.out) | exact HB.out)))); have n3_ := M_ (Kd.R_lower (Kd.R_new' ho2 (Kd.R_lt (by (with_reducible repeat (first | apply a0_ | apply a1_ | apply a2_)); exact HO_6.out))) (below_size (by repeat (first | (with_reducible first | exact HB.out | apply b0_ | apply b1_ | apply b2_ | refine below_set ?_ GE265.out) | exact HB.out)))); have n4_ := M_ (Kd.R_lower (Kd.R_new' ho3 (Kd.R_lt (by (with_reducible repeat (first | apply a0_ | apply a1_ | apply a2_)); exact HO_6.out))) (below_size (by repeat (first | (with_reducible first | exact HB.out | apply b0_ | apply b1_ | apply b2_ | refine below_set ?_ GE265.out) | exact HB.out)))); have n5_ := M_ (Kd.R_lower (Kd.R_new' ho4 (Kd.R_lt (by (with_reducible repeat (first | apply a0_ | apply a1_ | apply a2_)); exact HO_6.out))) (below_size (by repeat (first | (with_reducible first | exact HB.out | apply b0_ | apply b1_ | apply b2_ | refine below_set ?_ GE265.out) | exact HB.out)))); have n6_ := M_ (blk_below (g := gb265) (o := .cells #[.int .i64 a0_0, .slice A0_1 l0_1.length c0_1, .slice A0_2 l0_2.length c0_2, .slice A0_3 l0_3.length c0_3, .slice A0_4 l0_4.length c0_4] 26 (0, 0)) (by (with_reducible repeat (first | refine blk_drewN ?_ _ | refine blk_drew ?_ | refine blk_alloc ?_ _)); exact BK265.out) hb); have n7_ := M_ (below_step (by repeat (first | (with_reducible first | exact HB.out | apply b0_ | apply b1_ | apply b2_ | refine below_set ?_ GE265.out) | exact HB.out)) hb); clear HO_6; clear BK265; clear HB; have HO_6 := n0_; have HO283 := n1_; have HO286 := n2_; have HO289 := n3_; have HO292 := n4_; have HO295 := n5_; have BK265 := n6_; have HB := n7_; clear n0_ n1_ n2_ n3_ n4_ n5_ n6_ n7_; (try clear hb); (try clear hb2); (try clear hk); (try clear hi); (try clear ho0); (try clear ho1); (try clear ho2); (try clear ho3); (try clear ho4)) | ((with_reducible refine gate_dst (N := 8) rfl ?_); (try (refine gate_guard (by rfl) ?_; dsimp only)); refine box_event ?hg (N := 8) ?hd (cs := #[.int .i64 0, .slice none 0 0, .slice none 0 0, .slice none 0 0, .slice none 0 0]) (t := 26) ?hr ?_; (case hd => rfl); (case hg => rfl); (case hr => first | (go_simp; done) | (go_simp; rfl)); intro gb297 hg w53 hbox hb; have n0_ := M_ (Kd.R_below (by (with_reducible repeat (first | apply a0_ | apply a1_ | apply a2_)); exact HO_6.out) hb); have n1_ := M_ (Kd.R_below (by (with_reducible repeat (first | apply a0_ | apply a1_ | apply a2_)); exact HO283.out) hb); have n2_ := M_ (Kd.R_below (by (with_reducible repeat (first | apply a0_ | apply a1_ | apply a2_)); exact HO286.out) hb); have n3_ := M_ (Kd.R_below (by (with_reducible repeat (first | apply a0_ | apply a1_ | apply a2_)); exact HO289.out) hb); have n4_ := M_ (Kd.R_below (by (with_reducible repeat (first | apply a0_ | apply a1_ | apply a2_)); exact HO292.out) hb); have n5_ := M_ (Kd.R_below (by (with_reducible repeat (first | apply a0_ | apply a1_ | apply a2_)); exact HO295.out) hb); have n6_ := M_ (blk_below (g := gb265) (o := .cells #[.int .i64 a0_0, .slice A0_1 l0_1.length c0_1, .slice A0_2 l0_2.length c0_2, .slice A0_3 l0_3.length c0_3, .slice A0_4 l0_4.length c0_4] 26 (0, 0)) (by (with_reducible repeat (first | refine blk_drewN ?_ _ | refine blk_drew ?_ | refine blk_alloc ?_ _)); exact BK265.out) hb); have n7_ := M_ (below_step (by repeat (first | (with_reducible first | exact HB.out | apply b0_ | apply b1_ | apply b2_ | refine below_set ?_ GE265.out) | exact HB.out)) hb); have n8_ := M_ (hbox); have n9_ := M_ ((by rw [hg]; exact (below_size (by repeat (first | (with_reducible first | exact HB.out | apply b0_ | apply b1_ | apply b2_ | refine below_set ?_ GE265.out) | exact HB.out))) : w.heap.size ≤ gb297)); have n10_ := M_ ((by rw [hg]; exact (below_size (by repeat (first | (with_reducible first | exact HB.out | apply b0_ | apply b1_ | apply b2_ | refine below_set ?_ GE265.out) | exact HB.out))) : w.heap.size ≤ gb297)); have n11_ := M_ ((by rw [hg]; exact Nat.ne_of_lt (blk_lt (g := gb265) (o := .cells #[.int .i64 a0_0, .slice A0_1 l0_1.length c0_1, .slice A0_2 l0_2.length c0_2, .slice A0_3 l0_3.length c0_3, .slice A0_4 l0_4.length c0_4] 26 (0, 0)) (by (with_reducible repeat (first | refine blk_drewN ?_ _ | refine blk_drew ?_ | refine blk_alloc ?_ _)); exact BK265.out)) : gb265 ≠ gb297)); have n12_ := M_ ((by rw [hg]; exact Nat.ne_of_gt (blk_lt (g := gb265) (o := .cells #[.int .i64 a0_0, .slice A0_1 l0_1.length c0_1, .slice A0_2 l0_2.length c0_2, .slice A0_3 l0_3.length c0_3, .slice A0_4 l0_4.length c0_4] 26 (0, 0)) (by (with_reducible repeat (first | refine blk_drewN ?_ _ | refine blk_drew ?_ | refine blk_alloc ?_ _)); exact BK265.out)) : gb297 ≠ gb265)); clear HO_6; clear HO283; clear HO286; clear HO289; clear HO292; clear HO295; clear BK265; clear HB; have HO_6 := n0_; have HO283 := n1_; have HO286 := n2_; have HO289 := n3_; have HO292 := n4_; have HO295 := n5_; have BK265 := n6_; have HB := n7_; have BK297 := n8_; have GW297 := n9_; have GE297 := n10_; have NB265_297 := n11_; have NB297_265 := n12_; clear n0_ n1_ n2_ n3_ n4_ n5_ n6_ n7_ n8_ n9_ n10_ n11_ n12_; clear hb hbox hg; have hnb54 := NB297_265.out; have hnc54 := NB265_297.out; have hcz55_0 : w53.cell? ⟨gb297, 0, none⟩ = some (.int .i64 0) := (blk_cell BK297.out 0).trans rfl; have hcz55_1 : w53.cell? ⟨gb297, 1, none⟩ = some (.slice none 0 0) := (blk_cell BK297.out 1).trans rfl; have hcz55_2 : w53.cell? ⟨gb297, 2, none⟩ = some (.slice none 0 0) := (blk_cell BK297.out 2).trans rfl; have hcz55_3 : w53.cell? ⟨gb297, 3, none⟩ = some (.slice none 0 0) := (blk_cell BK297.out 3).trans rfl; have hcz55_4 : w53.cell? ⟨gb297, 4, none⟩ = some (.slice none 0 0) := (blk_cell BK297.out 4).trans rfl; have hfz55_0 := blk_frozen BK297.out 0; have hfz55_1 := blk_frozen BK297.out 1; have hfz55_2 := blk_frozen BK297.out 2; have hfz55_3 := blk_frozen BK297.out 3; have hfz55_4 := blk_frozen BK297.out 4; obtain ⟨Ao56, co56, eo56⟩ := Kd.R_slice HO283.out; subst eo56; obtain ⟨Ao57, co57, eo57⟩ := Kd.R_slice HO286.out; subst eo57; obtain ⟨Ao58, co58, eo58⟩ := Kd.R_slice HO289.out; subst eo58; obtain ⟨Ao59, co59, eo59⟩ := Kd.R_slice HO292.out; subst eo59; have hcz60_0 : w53.cell? ⟨gb265, 0, none⟩ = some (.int .i64 a0_0) := (blk_cell BK265.out 0).trans rfl; have hcz60_1 : w53.cell? ⟨gb265, 1, none⟩ = some (.slice A0_1 l0_1.length c0_1) := (blk_cell BK265.out 1).trans rfl; have hcz60_2 : w53.cell? ⟨gb265, 2, none⟩ = some (.slice A0_2 l0_2.length c0_2) := (blk_cell BK265.out 2).trans rfl; have hcz60_3 : w53.cell? ⟨gb265, 3, none⟩ = some (.slice A0_3 l0_3.length c0_3) := (blk_cell BK265.out 3).trans rfl; have hcz60_4 : w53.cell? ⟨gb265, 4, none⟩ = some (.slice A0_4 l0_4.length c0_4) := (blk_cell BK265.out 4).trans rfl; have hfz60_0 := blk_frozen BK265.out 0; have hfz60_1 := blk_frozen BK265.out 1; have hfz60_2 := blk_frozen BK265.out 2; have hfz60_3 := blk_frozen BK265.out 3; have hfz60_4 := blk_frozen BK265.out 4) | ((with_reducible refine gate_callee (f := 11) rfl ?_); refine goesL_ (some 99) rfl rfl Try.func11 (by kernel_rfl) rfl #[.agg #[.int .i64 a0_0, .slice A0_1 l0_1.length c0_1, .slice A0_2 l0_2.length c0_2, .slice A0_3 l0_3.length c0_3, .slice A0_4 l0_4.length c0_4]] rfl (by (try simp only [List.map_toArray, List.map_cons, List.map_nil]); first | done | rfl | (simp only [List.length_drop, List.length_take]; rfl)) ?_; (with_reducible refine (constants_Stay.calls k2 a0_0 _ _ l0_1 _ _ l0_2 _ _ l0_3 _ _ l0_4 t298 t301 _ ?side1 ?side2 ?side3 ?side4 ?side5 ?side6 ?side7 ?side8 A48.out).mono ?_); (case side1 => exact Kd.C_below HR0_1.out (by repeat (first | (with_reducible first | exact HB.out | apply b0_ | apply b1_ | apply b2_ | refine below_set ?_ GE265.out | refine below_set ?_ GE297.out) | exact HB.out))); (case side2 => exact HC0_1.out); (case side3 => exact Kd.C_below HR0_2.out (by repeat (first | (with_reducible first | exact HB.out | apply b0_ | apply b1_ | apply b2_ | refine below_set ?_ GE265.out | refine below_set ?_ GE297.out) | exact HB.out))); (case side4 => exact HC0_2.out); (case side5 => exact Kd.C_below HR0_3.out (by repeat (first | (with_reducible first | exact HB.out | apply b0_ | apply b1_ | apply b2_ | refine below_set ?_ GE265.out | refine below_set ?_ GE297.out) | exact HB.out))); (case side6 => exact HC0_3.out); (case side7 => exact Kd.C_below HR0_4.out (by repeat (first | (with_reducible first | exact HB.out | apply b0_ | apply b1_ | apply b2_ | refine below_set ?_ GE265.out | refine below_set ?_ GE297.out) | exact HB.out))); (case side8 => exact HC0_4.out); rintro e w61 ⟨v299, rfl, ho0, hb⟩; refine ⟨_, rfl, ?_⟩; have n0_ := M_ (Kd.R_elder' (by (with_reducible repeat (first | apply a0_ | apply a1_ | apply a2_)); exact (Kd.R_mono (Kd.R_far (p := ⟨gb297, 4, none⟩) (Kd.R_far (p := ⟨gb297, 3, none⟩) (Kd.R_far (p := ⟨gb297, 2, none⟩) (Kd.R_far (p := ⟨gb297, 1, none⟩) (Kd.R_far (p := ⟨gb297, 0, none⟩) (Kd.R_types HO_6.out BK297.out (by decide)) (fun _ hk => hk.2) (.int .i64 t280)) (fun _ hk => hk.2) (.slice Ao56 t281.length co56)) (fun _ hk => hk.2) (.slice Ao57 t284.length co57)) (fun _ hk => hk.2) (.slice Ao58 t287.length co58)) (fun _ hk => hk.2) (.slice Ao59 t290.length co59)) (fun _ h_ => h_.1))) (Kd.R_base ho0) hb); have n1_ := M_ (Kd.R_below (by (with_reducible repeat (first | apply a0_ | apply a1_ | apply a2_)); exact (Kd.R_mono (Kd.R_far (p := ⟨gb297, 4, none⟩) (Kd.R_far (p := ⟨gb297, 3, none⟩) (Kd.R_far (p := ⟨gb297, 2, none⟩) (Kd.R_far (p := ⟨gb297, 1, none⟩) (Kd.R_far (p := ⟨gb297, 0, none⟩) (Kd.R_types HO283.out BK297.out (by decide)) (fun _ hk => hk.2) (.int .i64 t280)) (fun _ hk => hk.2) (.slice Ao56 t281.length co56)) (fun _ hk => hk.2) (.slice Ao57 t284.length co57)) (fun _ hk => hk.2) (.slice Ao58 t287.length co58)) (fun _ hk => hk.2) (.slice Ao59 t290.length co59)) (fun _ h_ => h_.1))) hb); have n2_ := M_ (Kd.R_below (by (with_reducible repeat (first | apply a0_ | apply a1_ | apply a2_)); exact (Kd.R_mono (Kd.R_far (p := ⟨gb297, 4, none⟩) (Kd.R_far (p := ⟨gb297, 3, none⟩) (Kd.R_far (p := ⟨gb297, 2, none⟩) (Kd.R_far (p := ⟨gb297, 1, none⟩) (Kd.R_far (p := ⟨gb297, 0, none⟩) (Kd.R_types HO286.out BK297.out (by decide)) (fun _ hk => hk.2) (.int .i64 t280)) (fun _ hk => hk.2) (.slice Ao56 t281.length co56)) (fun _ hk => hk.2) (.slice Ao57 t284.length co57)) (fun _ hk => hk.2) (.slice Ao58 t287.length co58)) (fun _ hk => hk.2) (.slice Ao59 t290.length co59)) (fun _ h_ => h_.1))) hb); have n3_ := M_ (Kd.R_elder' (by (with_reducible repeat (first | apply a0_ | apply a1_ | apply a2_)); exact (Kd.R_mono (Kd.R_far (p := ⟨gb297, 4, none⟩) (Kd.R_far (p := ⟨gb297, 3, none⟩) (Kd.R_far (p := ⟨gb297, 2, none⟩) (Kd.R_far (p := ⟨gb297, 1, none⟩) (Kd.R_far (p := ⟨gb297, 0, none⟩) (Kd.R_types HO289.out BK297.out (by decide)) (fun _ hk => hk.2) (.int .i64 t280)) (fun _ hk => hk.2) (.slice Ao56 t281.length co56)) (fun _ hk => hk.2) (.slice Ao57 t284.length co57)) (fun _ hk => hk.2) (.slice Ao58 t287.length co58)) (fun _ hk => hk.2) (.slice Ao59 t290.length co59)) (fun _ h_ => h_.1))) (Kd.R_base ho0) hb); have n4_ := M_ (Kd.R_elder' (by (with_reducible repeat (first | apply a0_ | apply a1_ | apply a2_)); exact (Kd.R_mono (Kd.R_far (p := ⟨gb297, 4, none⟩) (Kd.R_far (p := ⟨gb297, 3, none⟩) (Kd.R_far (p := ⟨gb297, 2, none⟩) (Kd.R_far (p := ⟨gb297, 1, none⟩) (Kd.R_far (p := ⟨gb297, 0, none⟩) (Kd.R_types HO292.out BK297.out (by decide)) (fun _ hk => hk.2) (.int .i64 t280)) (fun _ hk => hk.2) (.slice Ao56 t281.length co56)) (fun _ hk => hk.2) (.slice Ao57 t284.length co57)) (fun _ hk => hk.2) (.slice Ao58 t287.length co58)) (fun _ hk => hk.2) (.slice Ao59 t290.length co59)) (fun _ h_ => h_.1))) (Kd.R_base ho0) hb); have n5_ := M_ (Kd.R_elder' (by (with_reducible repeat (first | apply a0_ | apply a1_ | apply a2_)); exact (Kd.R_mono (Kd.R_far (p := ⟨gb297, 4, none⟩) (Kd.R_far (p := ⟨gb297, 3, none⟩) (Kd.R_far (p := ⟨gb297, 2, none⟩) (Kd.R_far (p := ⟨gb297, 1, none⟩) (Kd.R_far (p := ⟨gb297, 0, none⟩) (Kd.R_types HO295.out BK297.out (by decide)) (fun _ hk => hk.2) (.int .i64 t280)) (fun _ hk => hk.2) (.slice Ao56 t281.length co56)) (fun _ hk => hk.2) (.slice Ao57 t284.length co57)) (fun _ hk => hk.2) (.slice Ao58 t287.length co58)) (fun _ hk => hk.2) (.slice Ao59 t290.length co59)) (fun _ h_ => h_.1))) (Kd.R_base ho0) hb); have n6_ := M_ (Kd.R_lower (Kd.R_new' (Kd.R_new' (Kd.R_new' (Kd.R_new' ho0 (Kd.R_lt (by (with_reducible repeat (first | apply a0_ | apply a1_ | apply a2_)); exact (Kd.R_mono (Kd.R_far (p := ⟨gb297, 4, none⟩) (Kd.R_far (p := ⟨gb297, 3, none⟩) (Kd.R_far (p := ⟨gb297, 2, none⟩) (Kd.R_far (p := ⟨gb297, 1, none⟩) (Kd.R_far (p := ⟨gb297, 0, none⟩) (Kd.R_types HO_6.out BK297.out (by decide)) (fun _ hk => hk.2) (.int .i64 t280)) (fun _ hk => hk.2) (.slice Ao56 t281.length co56)) (fun _ hk => hk.2) (.slice Ao57 t284.length co57)) (fun _ hk => hk.2) (.slice Ao58 t287.length co58)) (fun _ hk => hk.2) (.slice Ao59 t290.length co59)) (fun _ h_ => h_.1))))) (Kd.R_lt (by (with_reducible repeat (first | apply a0_ | apply a1_ | apply a2_)); exact (Kd.R_mono (Kd.R_far (p := ⟨gb297, 4, none⟩) (Kd.R_far (p := ⟨gb297, 3, none⟩) (Kd.R_far (p := ⟨gb297, 2, none⟩) (Kd.R_far (p := ⟨gb297, 1, none⟩) (Kd.R_far (p := ⟨gb297, 0, none⟩) (Kd.R_types HO289.out BK297.out (by decide)) (fun _ hk => hk.2) (.int .i64 t280)) (fun _ hk => hk.2) (.slice Ao56 t281.length co56)) (fun _ hk => hk.2) (.slice Ao57 t284.length co57)) (fun _ hk => hk.2) (.slice Ao58 t287.length co58)) (fun _ hk => hk.2) (.slice Ao59 t290.length co59)) (fun _ h_ => h_.1))))) (Kd.R_lt (by (with_reducible repeat (first | apply a0_ | apply a1_ | apply a2_)); exact (Kd.R_mono (Kd.R_far (p := ⟨gb297, 4, none⟩) (Kd.R_far (p := ⟨gb297, 3, none⟩) (Kd.R_far (p := ⟨gb297, 2, none⟩) (Kd.R_far (p := ⟨gb297, 1, none⟩) (Kd.R_far (p := ⟨gb297, 0, none⟩) (Kd.R_types HO292.out BK297.out (by decide)) (fun _ hk => hk.2) (.int .i64 t280)) (fun _ hk => hk.2) (.slice Ao56 t281.length co56)) (fun _ hk => hk.2) (.slice Ao57 t284.length co57)) (fun _ hk => hk.2) (.slice Ao58 t287.length co58)) (fun _ hk => hk.2) (.slice Ao59 t290.length co59)) (fun _ h_ => h_.1))))) (Kd.R_lt (by (with_reducible repeat (first | apply a0_ | apply a1_ | apply a2_)); exact (Kd.R_mono (Kd.R_far (p := ⟨gb297, 4, none⟩) (Kd.R_far (p := ⟨gb297, 3, none⟩) (Kd.R_far (p := ⟨gb297, 2, none⟩) (Kd.R_far (p := ⟨gb297, 1, none⟩) (Kd.R_far (p := ⟨gb297, 0, none⟩) (Kd.R_types HO295.out BK297.out (by decide)) (fun _ hk => hk.2) (.int .i64 t280)) (fun _ hk => hk.2) (.slice Ao56 t281.length co56)) (fun _ hk => hk.2) (.slice Ao57 t284.length co57)) (fun _ hk => hk.2) (.slice Ao58 t287.length co58)) (fun _ hk => hk.2) (.slice Ao59 t290.length co59)) (fun _ h_ => h_.1))))) (below_size (by repeat (first | (with_reducible first | exact HB.out | apply b0_ | apply b1_ | apply b2_ | refine below_set ?_ GE265.out | refine below_set ?_ GE297.out) | exact HB.out)))); have n7_ := M_ (blk_below (g := gb265) (o := .cells #[.int .i64 a0_0, .slice A0_1 l0_1.length c0_1, .slice A0_2 l0_2.length c0_2, .slice A0_3 l0_3.length c0_3, .slice A0_4 l0_4.length c0_4] 26 (0, 0)) (by (with_reducible repeat (first | refine blk_drewN ?_ _ | refine blk_drew ?_ | refine blk_alloc ?_ _)); refine blk_far ?_ NB265_297.out _; (with_reducible repeat (first | refine blk_drewN ?_ _ | refine blk_drew ?_ | refine blk_alloc ?_ _)); refine blk_far ?_ NB265_297.out _; (with_reducible repeat (first | refine blk_drewN ?_ _ | refine blk_drew ?_ | refine blk_alloc ?_ _)); refine blk_far ?_ NB265_297.out _; (with_reducible repeat (first | refine blk_drewN ?_ _ | refine blk_drew ?_ | refine blk_alloc ?_ _)); refine blk_far ?_ NB265_297.out _; (with_reducible repeat (first | refine blk_drewN ?_ _ | refine blk_drew ?_ | refine blk_alloc ?_ _)); refine blk_far ?_ NB265_297.out _; (with_reducible repeat (first | refine blk_drewN ?_ _ | refine blk_drew ?_ | refine blk_alloc ?_ _)); exact BK265.out) hb); have n8_ := M_ (blk_below (g := gb297) (o := .cells #[.int .i64 t280, .slice Ao56 t281.length co56, .slice Ao57 t284.length co57, .slice Ao58 t287.length co58, .slice Ao59 t290.length co59] 26 (0, 0)) (by (with_reducible repeat (first | refine blk_drewN ?_ _ | refine blk_drew ?_ | refine blk_alloc ?_ _)); refine blk_put (cs := #[.int .i64 t280, .slice Ao56 t281.length co56, .slice Ao57 t284.length co57, .slice Ao58 t287.length co58, .slice none 0 0]) ?_ 4 _ rfl; (with_reducible repeat (first | refine blk_drewN ?_ _ | refine blk_drew ?_ | refine blk_alloc ?_ _)); refine blk_put (cs := #[.int .i64 t280, .slice Ao56 t281.length co56, .slice Ao57 t284.length co57, .slice none 0 0, .slice none 0 0]) ?_ 3 _ rfl; (with_reducible repeat (first | refine blk_drewN ?_ _ | refine blk_drew ?_ | refine blk_alloc ?_ _)); refine blk_put (cs := #[.int .i64 t280, .slice Ao56 t281.length co56, .slice none 0 0, .slice none 0 0, .slice none 0 0]) ?_ 2 _ rfl; (with_reducible repeat (first | refine blk_drewN ?_ _ | refine blk_drew ?_ | refine blk_alloc ?_ _)); refine blk_put (cs := #[.int .i64 t280, .slice none 0 0, .slice none 0 0, .slice none 0 0, .slice none 0 0]) ?_ 1 _ rfl; (with_reducible repeat (first | refine blk_drewN ?_ _ | refine blk_drew ?_ | refine blk_alloc ?_ _)); refine blk_put (cs := #[.int .i64 0, .slice none 0 0, .slice none 0 0, .slice none 0 0, .slice none 0 0]) ?_ 0 _ rfl; (with_reducible repeat (first | refine blk_drewN ?_ _ | refine blk_drew ?_ | refine blk_alloc ?_ _)); exact BK297.out) hb); have n9_ := M_ (below_step (by repeat (first | (with_reducible first | exact HB.out | apply b0_ | apply b1_ | apply b2_ | refine below_set ?_ GE265.out | refine below_set ?_ GE297.out) | exact HB.out)) hb); clear HO_6; clear HO283; clear HO286; clear HO289; clear HO292; clear HO295; clear BK265; clear BK297; clear HB; have HO_6 := n0_; have HO283 := n1_; have HO286 := n2_; have HO289 := n3_; have HO292 := n4_; have HO295 := n5_; have HO300 := n6_; have BK265 := n7_; have BK297 := n8_; have HB := n9_; clear n0_ n1_ n2_ n3_ n4_ n5_ n6_ n7_ n8_ n9_; (try clear hb); (try clear hb2); (try clear hk); (try clear hi); (try clear ho0)))
       (try simp only [Act.put, e1_, e2_, e3_])
       go_cut [116] (fun v116 wc => ∃ (kq : Nat) (x116_48 : Bool), v116 = .bool x116_48 ∧ Aside0 (spiritlevellaw27_ConstantsGreatest.j2 kq l1 t266 t298 x116_48 a0_0 l0_1 l0_2 l0_3 l0_4 t280 t281 t284 t287 t290 = some r) ∧ Aside0 (kq ≤ k2) ∧ Aside0 (Kd.R (Kd.int .i64) 3 wc w.heap.size (fun k_ => some k_ ≠ ((.slice Ao58 t287.length co58) : Value).ownBlock ∧ some k_ ≠ ((.slice Ao59 t290.length co59) : Value).ownBlock) v299 t298) ∧ Aside0 (Kd.R k45 45 wc w.heap.size (fun _ => True) (.slice Ao56 t281.length co56) t281) ∧ Aside0 (Kd.R k55 55 wc w.heap.size (fun _ => True) (.slice Ao57 t284.length co57) t284) ∧ Aside0 (Kd.R (Kd.int .i64) 3 wc w.heap.size (fun k_ => some k_ ≠ (v299 : Value).ownBlock ∧ some k_ ≠ ((.slice Ao59 t290.length co59) : Value).ownBlock) (.slice Ao58 t287.length co58) t287) ∧ Aside0 (Kd.R (Kd.int .i64) 3 wc w.heap.size (fun k_ => some k_ ≠ (v299 : Value).ownBlock ∧ some k_ ≠ ((.slice Ao58 t287.length co58) : Value).ownBlock) (.slice Ao59 t290.length co59) t290) ∧ Aside0 (wc.heap[gb265]? = some (.cells #[.int .i64 a0_0, (.slice A0_1 l0_1.length c0_1), (.slice A0_2 l0_2.length c0_2), (.slice A0_3 l0_3.length c0_3), (.slice A0_4 l0_4.length c0_4)] 26 (0, 0))) ∧ Aside0 (wc.heap[gb297]? = some (.cells #[.int .i64 t280, (.slice Ao56 t281.length co56), (.slice Ao57 t284.length co57), (.slice Ao58 t287.length co58), (.slice Ao59 t290.length co59)] 26 (0, 0))) ∧ Aside0 (Below w.heap.size w wc))
       case first =>
        have H := HC49.out
        clear HC49
        by_cases c62 : t296 = 0
        ·rw [if_pos c62] at H
         have c62b0 : (t296 == 0) = true := beq_iff_eq.mpr c62
         have c62b1 : (t296 != 0) = false := bne_eq_false_iff_eq.mpr c62
         clear c62
         (first | rw [c62b0] | (simp only [i64_w, i32_w]; rw [c62b0]) | skip)
         by_cases c63 : t301 = 0
         ·rw [if_pos c63] at H
          have c63b0 : (t301 == 0) = true := beq_iff_eq.mpr c63
          have c63b1 : (t301 != 0) = false := bne_eq_false_iff_eq.mpr c63
          clear c63
          have H' := M_ H
          clear H
          have hnb64 := NB297_265.out
          have hnc64 := NB265_297.out
          have hcz65_0 : w61.cell? ⟨gb297, 0, none⟩ = some (.int .i64 t280) := (blk_cell BK297.out 0).trans rfl
          have hcz65_1 : w61.cell? ⟨gb297, 1, none⟩ = some (.slice Ao56 t281.length co56) := (blk_cell BK297.out 1).trans rfl
          have hcz65_2 : w61.cell? ⟨gb297, 2, none⟩ = some (.slice Ao57 t284.length co57) := (blk_cell BK297.out 2).trans rfl
          have hcz65_3 : w61.cell? ⟨gb297, 3, none⟩ = some (.slice Ao58 t287.length co58) := (blk_cell BK297.out 3).trans rfl
          have hcz65_4 : w61.cell? ⟨gb297, 4, none⟩ = some (.slice Ao59 t290.length co59) := (blk_cell BK297.out 4).trans rfl
          have hfz65_0 := blk_frozen BK297.out 0
          have hfz65_1 := blk_frozen BK297.out 1
          have hfz65_2 := blk_frozen BK297.out 2
          have hfz65_3 := blk_frozen BK297.out 3
          have hfz65_4 := blk_frozen BK297.out 4
          have hcz66_0 : w61.cell? ⟨gb265, 0, none⟩ = some (.int .i64 a0_0) := (blk_cell BK265.out 0).trans rfl
          have hcz66_1 : w61.cell? ⟨gb265, 1, none⟩ = some (.slice A0_1 l0_1.length c0_1) := (blk_cell BK265.out 1).trans rfl
          have hcz66_2 : w61.cell? ⟨gb265, 2, none⟩ = some (.slice A0_2 l0_2.length c0_2) := (blk_cell BK265.out 2).trans rfl
          have hcz66_3 : w61.cell? ⟨gb265, 3, none⟩ = some (.slice A0_3 l0_3.length c0_3) := (blk_cell BK265.out 3).trans rfl
          have hcz66_4 : w61.cell? ⟨gb265, 4, none⟩ = some (.slice A0_4 l0_4.length c0_4) := (blk_cell BK265.out 4).trans rfl
          have hfz66_0 := blk_frozen BK265.out 0
          have hfz66_1 := blk_frozen BK265.out 1
          have hfz66_2 := blk_frozen BK265.out 2
          have hfz66_3 := blk_frozen BK265.out 3
          have hfz66_4 := blk_frozen BK265.out 4
          go_wp2
          go_meet
          case rel => exact ⟨_, (((t281.length : Int) != (l0_1.length : Int))), (by first | rfl | (simp; done) | (simp [*]; done)), H', ⟨by have := HJ3.out; have := HK2.out; first | omega | exact Nat.le_refl _⟩, ⟨by (with_reducible repeat (first | apply a0_ | apply a1_ | apply a2_)); exact Kd.R_mono HO300.out (fun _ hk => ⟨hk.1.1.2, hk.1.2⟩)⟩, ⟨by (with_reducible repeat (first | apply a0_ | apply a1_ | apply a2_)); exact HO283.out⟩, ⟨by (with_reducible repeat (first | apply a0_ | apply a1_ | apply a2_)); exact HO286.out⟩, ⟨by (with_reducible repeat (first | apply a0_ | apply a1_ | apply a2_)); exact Kd.R_mono HO289.out (fun _ hk => ⟨hk.2, hk.1.1.1⟩)⟩, ⟨by (with_reducible repeat (first | apply a0_ | apply a1_ | apply a2_)); exact Kd.R_mono HO292.out (fun _ hk => ⟨hk.2, hk.1.1.1⟩)⟩, ⟨by (with_reducible repeat (first | refine blk_drewN ?_ _ | refine blk_drew ?_ | refine blk_alloc ?_ _)); exact BK265.out⟩, ⟨by (with_reducible repeat (first | refine blk_drewN ?_ _ | refine blk_drew ?_ | refine blk_alloc ?_ _)); exact BK297.out⟩, ⟨by repeat (first | (with_reducible first | exact HB.out | apply b0_ | apply b1_ | apply b2_ | refine below_set ?_ GE265.out | refine below_set ?_ GE297.out) | exact HB.out)⟩⟩
         ·rw [if_neg c63] at H
          have c63b0 : (t301 == 0) = false := beq_eq_false_iff_ne.mpr c63
          have c63b1 : (t301 != 0) = true := bne_iff_ne.mpr c63
          have H' := M_ H
          clear H
          go_wp2
          go_meet
          case rel => exact ⟨_, (true), (by first | rfl | (simp; done) | (simp [*]; done)), H', ⟨by have := HJ3.out; have := HK2.out; first | omega | exact Nat.le_refl _⟩, ⟨by (with_reducible repeat (first | apply a0_ | apply a1_ | apply a2_)); exact Kd.R_mono HO300.out (fun _ hk => ⟨hk.1.1.2, hk.1.2⟩)⟩, ⟨by (with_reducible repeat (first | apply a0_ | apply a1_ | apply a2_)); exact HO283.out⟩, ⟨by (with_reducible repeat (first | apply a0_ | apply a1_ | apply a2_)); exact HO286.out⟩, ⟨by (with_reducible repeat (first | apply a0_ | apply a1_ | apply a2_)); exact Kd.R_mono HO289.out (fun _ hk => ⟨hk.2, hk.1.1.1⟩)⟩, ⟨by (with_reducible repeat (first | apply a0_ | apply a1_ | apply a2_)); exact Kd.R_mono HO292.out (fun _ hk => ⟨hk.2, hk.1.1.1⟩)⟩, ⟨by (with_reducible repeat (first | refine blk_drewN ?_ _ | refine blk_drew ?_ | refine blk_alloc ?_ _)); exact BK265.out⟩, ⟨by (with_reducible repeat (first | refine blk_drewN ?_ _ | refine blk_drew ?_ | refine blk_alloc ?_ _)); exact BK297.out⟩, ⟨by repeat (first | (with_reducible first | exact HB.out | apply b0_ | apply b1_ | apply b2_ | refine below_set ?_ GE265.out | refine below_set ?_ GE297.out) | exact HB.out)⟩⟩
        ·rw [if_neg c62] at H
         have c62b0 : (t296 == 0) = false := beq_eq_false_iff_ne.mpr c62
         have c62b1 : (t296 != 0) = true := bne_iff_ne.mpr c62
         (first | rw [c62b0] | (simp only [i64_w, i32_w]; rw [c62b0]) | skip)
         have H' := M_ H
         clear H
         go_wp2
         go_meet
         case rel => exact ⟨_, (true), (by first | rfl | (simp; done) | (simp [*]; done)), H', ⟨by have := HJ3.out; have := HK2.out; first | omega | exact Nat.le_refl _⟩, ⟨by (with_reducible repeat (first | apply a0_ | apply a1_ | apply a2_)); exact Kd.R_mono HO300.out (fun _ hk => ⟨hk.1.1.2, hk.1.2⟩)⟩, ⟨by (with_reducible repeat (first | apply a0_ | apply a1_ | apply a2_)); exact HO283.out⟩, ⟨by (with_reducible repeat (first | apply a0_ | apply a1_ | apply a2_)); exact HO286.out⟩, ⟨by (with_reducible repeat (first | apply a0_ | apply a1_ | apply a2_)); exact Kd.R_mono HO289.out (fun _ hk => ⟨hk.2, hk.1.1.1⟩)⟩, ⟨by (with_reducible repeat (first | apply a0_ | apply a1_ | apply a2_)); exact Kd.R_mono HO292.out (fun _ hk => ⟨hk.2, hk.1.1.1⟩)⟩, ⟨by (with_reducible repeat (first | refine blk_drewN ?_ _ | refine blk_drew ?_ | refine blk_alloc ?_ _)); exact BK265.out⟩, ⟨by (with_reducible repeat (first | refine blk_drewN ?_ _ | refine blk_drew ?_ | refine blk_alloc ?_ _)); exact BK297.out⟩, ⟨by repeat (first | (with_reducible first | exact HB.out | apply b0_ | apply b1_ | apply b2_ | refine below_set ?_ GE265.out | refine below_set ?_ GE297.out) | exact HB.out)⟩⟩
       case rest =>
        clear HC49
        try clear c1
        try clear c2
        try clear p2
        try clear q2
        try clear hx2
        try clear c3
        try clear c4
        try clear p4
        try clear q4
        try clear hx4
        try clear hf4
        try clear c5
        try clear c6
        try clear p6
        try clear c11
        try clear c24
        try clear p27
        try clear q27
        try clear hx27
        try clear c30
        try clear c30b0
        try clear c31
        try clear c36
        try clear c37
        try clear c38
        try clear c38b0
        try clear c38b1
        try clear c41
        try clear c41b0
        try clear c42
        try clear c42b0
        try clear p43
        try clear q43
        try clear hx43
        try clear hf43
        try clear c54
        try clear c62
        try clear c62b0
        try clear c62b1
        try clear c63
        try clear c63b0
        try clear c63b1
        try clear c64
        try clear p64
        try clear hcz50_0
        try clear hcz50_1
        try clear hcz50_2
        try clear hcz50_3
        try clear hcz50_4
        try clear hcz55_0
        try clear hcz55_1
        try clear hcz55_2
        try clear hcz55_3
        try clear hcz55_4
        try clear hcz60_0
        try clear hcz60_1
        try clear hcz60_2
        try clear hcz60_3
        try clear hcz60_4
        try clear hcz65_0
        try clear hcz65_1
        try clear hcz65_2
        try clear hcz65_3
        try clear hcz65_4
        try clear hcz66_0
        try clear hcz66_1
        try clear hcz66_2
        try clear hcz66_3
        try clear hcz66_4
        try clear hfz50_0
        try clear hfz50_1
        try clear hfz50_2
        try clear hfz50_3
        try clear hfz50_4
        try clear hfz55_0
        try clear hfz55_1
        try clear hfz55_2
        try clear hfz55_3
        try clear hfz55_4
        try clear hfz60_0
        try clear hfz60_1
        try clear hfz60_2
        try clear hfz60_3
        try clear hfz60_4
        try clear hfz65_0
        try clear hfz65_1
        try clear hfz65_2
        try clear hfz65_3
        try clear hfz65_4
        try clear hfz66_0
        try clear hfz66_1
        try clear hfz66_2
        try clear hfz66_3
        try clear hfz66_4
        try clear hx272_0
        try clear hx273_0
        try clear hx274_0
        try clear hx275_0
        try clear hx275_1
        try clear hx276_0
        try clear hx277_0
        try clear hx278_0
        try clear hx278_1
        try clear hx43_0
        try clear p272
        try clear p273
        try clear p274
        try clear p275
        try clear p276
        try clear p277
        try clear p278
        try clear p43
        try clear q272
        try clear q273
        try clear q274
        try clear q275
        try clear q276
        try clear q277
        try clear q278
        try clear q43
        obtain ⟨kq, x116_48, rfl, HA, HJ48, HO_11, HO_298001, HO_298002, HO_298003, HO_298004, BK265, BK297, HB⟩ := hcut
        cases kq with
        | zero => exact absurd HA.out (by simp [spiritlevellaw27_ConstantsGreatest.j2])
        | succ kj48 =>
         have H := HA.out
         clear HA
         simp only [spiritlevellaw27_ConstantsGreatest.j2] at H
         by_cases c67 : x116_48 = true
         ·subst c67
          have H1 : (some false) = some r := by rw [if_pos rfl] at H; exact H
          clear H
          have H := H1
          clear H1
          exact absurd ((Option.some.inj H).trans HTR_.out) (by decide)
         ·replace c67 := Bool.eq_false_iff.mpr c67
          subst c67
          have H1 : (spiritlevellaw27_ConstantsGreatest.l1 kj48 l1 t266 t298 0 a0_0 l0_1 l0_2 l0_3 l0_4 t280 t281 t284 t287 t290) = some r := by rw [if_neg (show ¬ (false = true) by decide)] at H; exact H
          clear H
          have H := H1
          clear H1
          have H' := M_ H
          clear H
          go_wp2
          go_loopg [13] kj48 (fun kq v13 w' => ∃ (x13_4 : Int), v13 = .int .i64 x13_4 ∧ Aside0 (spiritlevellaw27_ConstantsGreatest.l1 kq l1 t266 t298 x13_4 a0_0 l0_1 l0_2 l0_3 l0_4 t280 t281 t284 t287 t290 = some r) ∧ Aside0 (kq ≤ kj48) ∧ Aside0 (Kd.R (Kd.int .i64) 3 w' w.heap.size (fun k_ => some k_ ≠ ((.slice Ao58 t287.length co58) : Value).ownBlock ∧ some k_ ≠ ((.slice Ao59 t290.length co59) : Value).ownBlock) v299 t298) ∧ Aside0 (Kd.R k45 45 w' w.heap.size (fun _ => True) (.slice Ao56 t281.length co56) t281) ∧ Aside0 (Kd.R k55 55 w' w.heap.size (fun _ => True) (.slice Ao57 t284.length co57) t284) ∧ Aside0 (Kd.R (Kd.int .i64) 3 w' w.heap.size (fun k_ => some k_ ≠ (v299 : Value).ownBlock ∧ some k_ ≠ ((.slice Ao59 t290.length co59) : Value).ownBlock) (.slice Ao58 t287.length co58) t287) ∧ Aside0 (Kd.R (Kd.int .i64) 3 w' w.heap.size (fun k_ => some k_ ≠ (v299 : Value).ownBlock ∧ some k_ ≠ ((.slice Ao58 t287.length co58) : Value).ownBlock) (.slice Ao59 t290.length co59) t290) ∧ Aside0 (w'.heap[gb265]? = some (.cells #[.int .i64 a0_0, (.slice A0_1 l0_1.length c0_1), (.slice A0_2 l0_2.length c0_2), (.slice A0_3 l0_3.length c0_3), (.slice A0_4 l0_4.length c0_4)] 26 (0, 0))) ∧ Aside0 (w'.heap[gb297]? = some (.cells #[.int .i64 t280, (.slice Ao56 t281.length co56), (.slice Ao57 t284.length co57), (.slice Ao58 t287.length co58), (.slice Ao59 t290.length co59)] 26 (0, 0))) ∧ Aside0 (Below w.heap.size w w'))
          case atStart => exact ⟨(0), (by first | rfl | (simp; done) | (simp [*]; done)), H', ⟨Nat.le_refl _⟩, ⟨by (with_reducible repeat (first | apply a0_ | apply a1_ | apply a2_)); exact HO_11.out⟩, ⟨by (with_reducible repeat (first | apply a0_ | apply a1_ | apply a2_)); exact HO_298001.out⟩, ⟨by (with_reducible repeat (first | apply a0_ | apply a1_ | apply a2_)); exact HO_298002.out⟩, ⟨by (with_reducible repeat (first | apply a0_ | apply a1_ | apply a2_)); exact HO_298003.out⟩, ⟨by (with_reducible repeat (first | apply a0_ | apply a1_ | apply a2_)); exact HO_298004.out⟩, ⟨by (with_reducible repeat (first | refine blk_drewN ?_ _ | refine blk_drew ?_ | refine blk_alloc ?_ _)); exact BK265.out⟩, ⟨by (with_reducible repeat (first | refine blk_drewN ?_ _ | refine blk_drew ?_ | refine blk_alloc ?_ _)); exact BK297.out⟩, ⟨by repeat (first | (with_reducible first | exact HB.out | apply b0_ | apply b1_ | apply b2_ | refine below_set ?_ GE265.out | refine below_set ?_ GE297.out) | exact HB.out)⟩⟩
          case round =>
           clear H'
           try clear c1
           try clear c2
           try clear p2
           try clear q2
           try clear hx2
           try clear c3
           try clear c4
           try clear p4
           try clear q4
           try clear hx4
           try clear hf4
           try clear c5
           try clear c6
           try clear p6
           try clear c11
           try clear c24
           try clear p27
           try clear q27
           try clear hx27
           try clear c30
           try clear c30b0
           try clear c31
           try clear c36
           try clear c37
           try clear c38
           try clear c38b0
           try clear c38b1
           try clear c41
           try clear c41b0
           try clear c42
           try clear c42b0
           try clear p43
           try clear q43
           try clear hx43
           try clear hf43
           try clear c54
           try clear c62
           try clear c62b0
           try clear c62b1
           try clear c63
           try clear c63b0
           try clear c63b1
           try clear c64
           try clear p64
           try clear c67
           try clear hcz50_0
           try clear hcz50_1
           try clear hcz50_2
           try clear hcz50_3
           try clear hcz50_4
           try clear hcz55_0
           try clear hcz55_1
           try clear hcz55_2
           try clear hcz55_3
           try clear hcz55_4
           try clear hcz60_0
           try clear hcz60_1
           try clear hcz60_2
           try clear hcz60_3
           try clear hcz60_4
           try clear hcz65_0
           try clear hcz65_1
           try clear hcz65_2
           try clear hcz65_3
           try clear hcz65_4
           try clear hcz66_0
           try clear hcz66_1
           try clear hcz66_2
           try clear hcz66_3
           try clear hcz66_4
           try clear hfz50_0
           try clear hfz50_1
           try clear hfz50_2
           try clear hfz50_3
           try clear hfz50_4
           try clear hfz55_0
           try clear hfz55_1
           try clear hfz55_2
           try clear hfz55_3
           try clear hfz55_4
           try clear hfz60_0
           try clear hfz60_1
           try clear hfz60_2
           try clear hfz60_3
           try clear hfz60_4
           try clear hfz65_0
           try clear hfz65_1
           try clear hfz65_2
           try clear hfz65_3
           try clear hfz65_4
           try clear hfz66_0
           try clear hfz66_1
           try clear hfz66_2
           try clear hfz66_3
           try clear hfz66_4
           try clear hx272_0
           try clear hx273_0
           try clear hx274_0
           try clear hx275_0
           try clear hx275_1
           try clear hx276_0
           try clear hx277_0
           try clear hx278_0
           try clear hx278_1
           try clear hx43_0
           try clear p2
           try clear p27
           try clear p272
           try clear p273
           try clear p274
           try clear p275
           try clear p276
           try clear p277
           try clear p278
           try clear p4
           try clear p43
           try clear p6
           try clear p64
           try clear q2
           try clear q27
           try clear q272
           try clear q273
           try clear q274
           try clear q275
           try clear q276
           try clear q277
           try clear q278
           try clear q4
           try clear q43
           obtain ⟨x13_4, rfl, HA, HK4, HO_11, HO_298001, HO_298002, HO_298003, HO_298004, BK265, BK297, HB⟩ := hrel
           cases gk with
           | zero => exact absurd HA.out (by simp [spiritlevellaw27_ConstantsGreatest.l1])
           | succ k4 =>
            have H := HA.out
            clear HA
            simp only [spiritlevellaw27_ConstantsGreatest.l1] at H
            by_cases c68 : x13_4 < (l1.length : Int)
            ·rw [if_pos c68] at H
             have c68b0 : decide (x13_4 < (l1.length : Int)) = true := decide_eq_true c68
             clear c68
             by_cases c69 : 0 ≤ x13_4
             ·rw [if_pos c69] at H
              have c69b0 : decide (0 ≤ x13_4) = true := decide_eq_true c69
              clear c69
              by_cases c70 : 0 ≤ (rd l1 x13_4)
              ·rw [if_pos c70] at H
               have c70b0 : decide (0 ≤ (rd l1 x13_4)) = true := decide_eq_true c70
               clear c70
               by_cases c71 : (rd l1 x13_4) < (t281.length : Int)
               ·rw [if_pos c71] at H
                have c71b0 : decide ((rd l1 x13_4) < (t281.length : Int)) = true := decide_eq_true c71
                clear c71
                by_cases c72 : (rd l1 x13_4) < (l0_1.length : Int)
                ·rw [if_pos c72] at H
                 have c72b0 : decide ((rd l1 x13_4) < (l0_1.length : Int)) = true := decide_eq_true c72
                 clear c72
                 by_cases c73 : ((rd_T45 t281 (rd l1 x13_4)).f0) = ((rd_T45 l0_1 (rd l1 x13_4)).f1)
                 ·rw [if_pos c73] at H
                  have c73b0 : (((rd_T45 t281 (rd l1 x13_4)).f0) == ((rd_T45 l0_1 (rd l1 x13_4)).f1)) = true := beq_iff_eq.mpr c73
                  have c73b1 : (((rd_T45 t281 (rd l1 x13_4)).f0) != ((rd_T45 l0_1 (rd l1 x13_4)).f1)) = false := bne_eq_false_iff_eq.mpr c73
                  clear c73
                  have H' := M_ H
                  clear H
                  try go_wp2
                  have n0_ := M_ (Kd.R_drew HO_11.out)
                  have n1_ := M_ (Kd.R_drew HO_298001.out)
                  have n2_ := M_ (Kd.R_drew HO_298002.out)
                  have n3_ := M_ (Kd.R_drew HO_298003.out)
                  have n4_ := M_ (Kd.R_drew HO_298004.out)
                  have n5_ := M_ (blk_drew BK265.out)
                  have n6_ := M_ (blk_drew BK297.out)
                  have n7_ := M_ (below_drew1 HB.out)
                  clear HO_11
                  clear HO_298001
                  clear HO_298002
                  clear HO_298003
                  clear HO_298004
                  clear BK265
                  clear BK297
                  clear HB
                  have HO_11 := n0_
                  have HO_298001 := n1_
                  have HO_298002 := n2_
                  have HO_298003 := n3_
                  have HO_298004 := n4_
                  have BK265 := n5_
                  have BK297 := n6_
                  have HB := n7_
                  clear n0_ n1_ n2_ n3_ n4_ n5_ n6_ n7_
                  have p302 : 0 ≤ (x13_4 : Int) := of_decide_eq_true (by first | (with_reducible assumption) | assumption)
                  have q302 : x13_4 < (l1.length : Int) := of_decide_eq_true (by first | (with_reducible assumption) | assumption)
                  obtain ⟨ad302, e302, hx302_0⟩ := Kd.at_int HR1.out x13_4 p302 q302
                  have hw302_0 := hx302_0
                  cases e302
                  replace hx302_0 := (HB.out.cell (World.block_lt_of_cell? w _ hx302_0)).trans hx302_0
                  replace p302 := eq_true p302
                  replace q302 := eq_true q302
                  have p303 : 0 ≤ ((rd l1 x13_4) : Int) := of_decide_eq_true (by first | (with_reducible assumption) | assumption)
                  have q303 : (rd l1 x13_4) < (t281.length : Int) := of_decide_eq_true (by first | (with_reducible assumption) | assumption)
                  obtain ⟨ad303, e303, hx303_0, hx303_1⟩ := at_T45 (Kd.R_reads' HO_298001.out).2.2 (rd l1 x13_4) p303 q303
                  cases e303
                  replace p303 := eq_true p303
                  replace q303 := eq_true q303
                  have p304 : 0 ≤ (x13_4 : Int) := of_decide_eq_true (by first | (with_reducible assumption) | assumption)
                  have q304 : x13_4 < (l1.length : Int) := of_decide_eq_true (by first | (with_reducible assumption) | assumption)
                  obtain ⟨ad304, e304, hx304_0⟩ := Kd.at_int HR1.out x13_4 p304 q304
                  have hw304_0 := hx304_0
                  obtain rfl : ad302 = ad304 := (by injection e304)
                  replace hx304_0 := (HB.out.cell (World.block_lt_of_cell? w _ hx304_0)).trans hx304_0
                  replace p304 := eq_true p304
                  replace q304 := eq_true q304
                  have p305 : 0 ≤ ((rd l1 x13_4) : Int) := of_decide_eq_true (by first | (with_reducible assumption) | assumption)
                  have q305 : (rd l1 x13_4) < (l0_1.length : Int) := of_decide_eq_true (by first | (with_reducible assumption) | assumption)
                  obtain ⟨ad305, e305, hx305_0, hx305_1⟩ := at_T45 HR0_1.out (rd l1 x13_4) p305 q305
                  have hw305_1 := hx305_1
                  have hw305_0 := hx305_0
                  cases e305
                  replace hx305_0 := (HB.out.cell (World.block_lt_of_cell? w _ hx305_0)).trans hx305_0
                  replace hx305_1 := (HB.out.cell (World.block_lt_of_cell? w _ hx305_1)).trans hx305_1
                  replace p305 := eq_true p305
                  replace q305 := eq_true q305
                  refine start_ (n := 19) (S := fun w' => w'.cell? ⟨gb297, 0, none⟩ = some (.int .i64 t280) ∧ w'.cell? ⟨gb297, 1, none⟩ = some (.slice (some ad303) t281.length co56) ∧ w'.cell? ⟨gb297, 2, none⟩ = some (.slice Ao57 t284.length co57) ∧ w'.cell? ⟨gb297, 3, none⟩ = some (.slice Ao58 t287.length co58) ∧ w'.cell? ⟨gb297, 4, none⟩ = some (.slice Ao59 t290.length co59) ∧ w'.cell? ⟨gb265, 0, none⟩ = some (.int .i64 a0_0) ∧ w'.cell? ⟨gb265, 1, none⟩ = some (.slice (some ad305) l0_1.length c0_1) ∧ w'.cell? ⟨gb265, 2, none⟩ = some (.slice A0_2 l0_2.length c0_2) ∧ w'.cell? ⟨gb265, 3, none⟩ = some (.slice A0_3 l0_3.length c0_3) ∧ w'.cell? ⟨gb265, 4, none⟩ = some (.slice A0_4 l0_4.length c0_4) ∧ w'.cell? (ad302.add (x13_4).toNat) = some (.int .i64 (rd l1 x13_4)) ∧ w'.cell? (ad303.add (((rd l1 x13_4)).toNat * 2)) = some (.int .i64 ((rd_T45 t281 (rd l1 x13_4)).f0)) ∧ w'.cell? ⟨(ad303.add (((rd l1 x13_4)).toNat * 2)).block, (ad303.add (((rd l1 x13_4)).toNat * 2)).off + 1, none⟩ = some (.int .i64 ((rd_T45 t281 (rd l1 x13_4)).f1)) ∧ w'.cell? (ad302.add (x13_4).toNat) = some (.int .i64 (rd l1 x13_4)) ∧ w'.cell? (ad305.add (((rd l1 x13_4)).toNat * 2)) = some (.int .i64 ((rd_T45 l0_1 (rd l1 x13_4)).f0)) ∧ w'.cell? ⟨(ad305.add (((rd l1 x13_4)).toNat * 2)).block, (ad305.add (((rd l1 x13_4)).toNat * 2)).off + 1, none⟩ = some (.int .i64 ((rd_T45 l0_1 (rd l1 x13_4)).f1))) (ds := []) z66_ (by kernel_rfl) rfl rfl ⟨(blk_cell BK297.out 0).trans rfl, (blk_cell BK297.out 1).trans rfl, (blk_cell BK297.out 2).trans rfl, (blk_cell BK297.out 3).trans rfl, (blk_cell BK297.out 4).trans rfl, (blk_cell BK265.out 0).trans rfl, (blk_cell BK265.out 1).trans rfl, (blk_cell BK265.out 2).trans rfl, (blk_cell BK265.out 3).trans rfl, (blk_cell BK265.out 4).trans rfl, ((HB.out.cell (World.block_lt_of_cell? w _ hw302_0)).trans hw302_0), hx303_0, hx303_1, ((HB.out.cell (World.block_lt_of_cell? w _ hw304_0)).trans hw304_0), ((HB.out.cell (World.block_lt_of_cell? w _ hw305_0)).trans hw305_0), ((HB.out.cell (World.block_lt_of_cell? w _ hw305_1)).trans hw305_1)⟩ (fun hHeld => ?_); refine with_tabW spiritlevellaw27_ConstantsGreatest.tab18 spiritlevellaw27_ConstantsGreatest.bits18 (fun HT_ HW_ => ?_)
                  generalize wr.drew = w74 at HO_11 HO_298001 HO_298002 HO_298003 HO_298004 BK265 BK297 HB hx302_0 hx303_0 hx303_1 hx304_0 hx305_0 hx305_1 hHeld ⊢
                  refine pure_ (i := 0) (N := some 123) (v := ?_) (a' := ?_) z67_ rfl rfl (any_of HT_.out (by kernel_rfl)) (fun _ _ _ h => h) (Or.inl ⟨by rfl, ?_⟩) ?_ ?_
                  rotate_left
                  ·intro w'
                   go_simp
                   with_reducible rfl
                  rotate_left
                  ·simp only [Act.put, e1_, e2_, e3_, i64_w, i32_w]
                   rfl
                  refine pure_ (i := 2) (N := some 125) (v := ?_) (a' := ?_) z68_ rfl rfl (any_of HT_.out (by kernel_rfl)) (fun _ _ _ h => h) (Or.inl ⟨by rfl, ?_⟩) ?_ ?_
                  rotate_left
                  ·intro w'
                   go_simp
                   with_reducible rfl
                  rotate_left
                  ·simp only [Act.put, e1_, e2_, e3_, i64_w, i32_w]
                   rfl
                  refine pure_ (i := 3) (N := some 126) (v := ?_) (a' := ?_) z69_ rfl rfl (any_of HT_.out (by kernel_rfl)) (fun _ _ _ h => h) (Or.inl ⟨by rfl, ?_⟩) ?_ ?_
                  rotate_left
                  ·intro w'
                   go_simp
                   with_reducible rfl
                  rotate_left
                  ·simp only [Act.put, e1_, e2_, e3_, i64_w, i32_w]
                   rfl
                  refine pure_ (i := 4) (N := some 127) (v := ?_) (a' := ?_) z70_ rfl rfl (any_of HT_.out (by kernel_rfl)) (fun _ _ _ h => h) (Or.inl ⟨by rfl, ?_⟩) ?_ ?_
                  rotate_left
                  ·intro w'
                   go_simp
                   with_reducible rfl
                  rotate_left
                  ·simp only [Act.put, e1_, e2_, e3_, i64_w, i32_w]
                   rfl
                  refine pure_ (i := 9) (N := some 132) (v := ?_) (a' := ?_) z71_ rfl rfl (any_of HT_.out (by kernel_rfl)) (fun _ _ _ h => h) (Or.inl ⟨by rfl, ?_⟩) ?_ ?_
                  rotate_left
                  ·intro w'
                   go_simp
                   with_reducible rfl
                  rotate_left
                  ·simp only [Act.put, e1_, e2_, e3_, i64_w, i32_w]
                   rfl
                  refine pure_ (i := 11) (N := some 134) (v := ?_) (a' := ?_) z72_ rfl rfl (any_of HT_.out (by kernel_rfl)) (fun _ _ _ h => h) (Or.inl ⟨by rfl, ?_⟩) ?_ ?_
                  rotate_left
                  ·intro w'
                   go_simp
                   with_reducible rfl
                  rotate_left
                  ·simp only [Act.put, e1_, e2_, e3_, i64_w, i32_w]
                   rfl
                  refine pure_ (i := 12) (N := some 135) (v := ?_) (a' := ?_) z73_ rfl rfl (any_of HT_.out (by kernel_rfl)) (fun _ _ _ h => h) (Or.inl ⟨by rfl, ?_⟩) ?_ ?_
                  rotate_left
                  ·intro w'
                   go_simp
                   with_reducible rfl
                  rotate_left
                  ·simp only [Act.put, e1_, e2_, e3_, i64_w, i32_w]
                   rfl
                  refine pure_ (i := 13) (N := some 136) (v := ?_) (a' := ?_) z74_ rfl rfl (any_of HT_.out (by kernel_rfl)) (fun _ _ _ h => h) (Or.inl ⟨by rfl, ?_⟩) ?_ ?_
                  rotate_left
                  ·intro w'
                   go_simp
                   with_reducible rfl
                  rotate_left
                  ·simp only [Act.put, e1_, e2_, e3_, i64_w, i32_w]
                   rfl
                  refine take_ (i := 1) (N := some 124) (v := ?_) (a' := ?_) z75_ rfl rfl (take_ofW HT_.out HW_.out (by kernel_rfl)) (fun _ _ _ h => h) (Or.inl ⟨by rfl, ?_⟩) hHeld ?_ ?_
                  rotate_left
                  ·rintro w' ⟨s0, s1, s2, s3, s4, s5, s6, s7, s8, s9, s10, s11, s12, s13, s14, s15⟩
                   go_simp
                   with_reducible rfl
                  rotate_left
                  ·simp only [Act.put, e1_, e2_, e3_, i64_w, i32_w]
                   rfl
                  refine take_ (i := 5) (N := some 128) (v := ?_) (a' := ?_) z76_ rfl rfl (take_ofW HT_.out HW_.out (by kernel_rfl)) (fun _ _ _ h => h) (Or.inl ⟨by rfl, ?_⟩) hHeld ?_ ?_
                  rotate_left
                  ·rintro w' ⟨s0, s1, s2, s3, s4, s5, s6, s7, s8, s9, s10, s11, s12, s13, s14, s15⟩
                   go_simp
                   with_reducible rfl
                  rotate_left
                  ·simp only [Act.put, e1_, e2_, e3_, i64_w, i32_w]
                   rfl
                  refine pure_ (i := 6) (N := some 129) (v := ?_) (a' := ?_) z77_ rfl rfl (any_of HT_.out (by kernel_rfl)) (fun _ _ _ h => h) (Or.inl ⟨by rfl, ?_⟩) ?_ ?_
                  rotate_left
                  ·intro w'
                   go_simp
                   with_reducible rfl
                  rotate_left
                  ·simp only [Act.put, e1_, e2_, e3_, i64_w, i32_w]
                   rfl
                  refine pure_ (i := 7) (N := some 130) (v := ?_) (a' := ?_) z78_ rfl rfl (any_of HT_.out (by kernel_rfl)) (fun _ _ _ h => h) (Or.inl ⟨by rfl, ?_⟩) ?_ ?_
                  rotate_left
                  ·intro w'
                   go_simp
                   with_reducible rfl
                  rotate_left
                  ·simp only [Act.put, e1_, e2_, e3_, i64_w, i32_w]
                   rfl
                  refine take_ (i := 8) (N := some 131) (v := ?_) (a' := ?_) z79_ rfl rfl (take_ofW HT_.out HW_.out (by kernel_rfl)) (fun _ _ _ h => h) (Or.inl ⟨by rfl, ?_⟩) hHeld ?_ ?_
                  rotate_left
                  ·rintro w' ⟨s0, s1, s2, s3, s4, s5, s6, s7, s8, s9, s10, s11, s12, s13, s14, s15⟩
                   go_simp
                   with_reducible rfl
                  rotate_left
                  ·simp only [Act.put, e1_, e2_, e3_, i64_w, i32_w]
                   rfl
                  refine take_ (i := 10) (N := some 133) (v := ?_) (a' := ?_) z80_ rfl rfl (take_ofW HT_.out HW_.out (by kernel_rfl)) (fun _ _ _ h => h) (Or.inl ⟨by rfl, ?_⟩) hHeld ?_ ?_
                  rotate_left
                  ·rintro w' ⟨s0, s1, s2, s3, s4, s5, s6, s7, s8, s9, s10, s11, s12, s13, s14, s15⟩
                   go_simp
                   with_reducible rfl
                  rotate_left
                  ·simp only [Act.put, e1_, e2_, e3_, i64_w, i32_w]
                   rfl
                  refine take_ (i := 14) (N := some 137) (v := ?_) (a' := ?_) z81_ rfl rfl (take_ofW HT_.out HW_.out (by kernel_rfl)) (fun _ _ _ h => h) (Or.inl ⟨by rfl, ?_⟩) hHeld ?_ ?_
                  rotate_left
                  ·rintro w' ⟨s0, s1, s2, s3, s4, s5, s6, s7, s8, s9, s10, s11, s12, s13, s14, s15⟩
                   go_simp
                   with_reducible rfl
                  rotate_left
                  ·simp only [Act.put, e1_, e2_, e3_, i64_w, i32_w]
                   rfl
                  refine pure_ (i := 15) (N := some 138) (v := ?_) (a' := ?_) z82_ rfl rfl (any_of HT_.out (by kernel_rfl)) (fun _ _ _ h => h) (Or.inl ⟨by rfl, ?_⟩) ?_ ?_
                  rotate_left
                  ·intro w'
                   go_simp
                   with_reducible rfl
                  rotate_left
                  ·simp only [Act.put, e1_, e2_, e3_, i64_w, i32_w]
                   rfl
                  refine pure_ (i := 16) (N := some 139) (v := ?_) (a' := ?_) z83_ rfl rfl (any_of HT_.out (by kernel_rfl)) (fun _ _ _ h => h) (Or.inl ⟨by rfl, ?_⟩) ?_ ?_
                  rotate_left
                  ·intro w'
                   go_simp
                   with_reducible rfl
                  rotate_left
                  ·simp only [Act.put, e1_, e2_, e3_, i64_w, i32_w]
                   rfl
                  refine take_ (i := 17) (N := some 140) (v := ?_) (a' := ?_) z84_ rfl rfl (take_ofW HT_.out HW_.out (by kernel_rfl)) (fun _ _ _ h => h) (Or.inl ⟨by rfl, ?_⟩) hHeld ?_ ?_
                  rotate_left
                  ·rintro w' ⟨s0, s1, s2, s3, s4, s5, s6, s7, s8, s9, s10, s11, s12, s13, s14, s15⟩
                   go_simp
                   with_reducible rfl
                  rotate_left
                  ·simp only [Act.put, e1_, e2_, e3_, i64_w, i32_w]
                   rfl
                  refine pure_ (i := 18) (N := some 141) (v := ?_) (a' := ?_) z85_ rfl rfl (any_of HT_.out (by kernel_rfl)) (fun _ _ _ h => h) (Or.inl ⟨by rfl, ?_⟩) ?_ ?_
                  rotate_left
                  ·intro w'
                   go_simp
                   with_reducible rfl
                  rotate_left
                  ·simp only [Act.put, e1_, e2_, e3_, i64_w, i32_w]
                   rfl
                  refine done_ (done_of HT_.out (by kernel_rfl)) ?_
                  try go_wp2
                  go_roundg k4
                  case measure => have := HJ3.out; have := HK2.out; have := HJ48.out; have := HK4.out; omega
                  case rel => exact ⟨(wrap64 (x13_4 + 1)), (by first | rfl | (simp; done) | (simp [*]; done)), H', ⟨by have := HJ3.out; have := HK2.out; have := HJ48.out; have := HK4.out; omega⟩, ⟨by (with_reducible repeat (first | apply a0_ | apply a1_ | apply a2_)); exact HO_11.out⟩, ⟨by (with_reducible repeat (first | apply a0_ | apply a1_ | apply a2_)); exact HO_298001.out⟩, ⟨by (with_reducible repeat (first | apply a0_ | apply a1_ | apply a2_)); exact HO_298002.out⟩, ⟨by (with_reducible repeat (first | apply a0_ | apply a1_ | apply a2_)); exact HO_298003.out⟩, ⟨by (with_reducible repeat (first | apply a0_ | apply a1_ | apply a2_)); exact HO_298004.out⟩, ⟨by (with_reducible repeat (first | refine blk_drewN ?_ _ | refine blk_drew ?_ | refine blk_alloc ?_ _)); exact BK265.out⟩, ⟨by (with_reducible repeat (first | refine blk_drewN ?_ _ | refine blk_drew ?_ | refine blk_alloc ?_ _)); exact BK297.out⟩, ⟨by repeat (first | (with_reducible first | exact HB.out | apply b0_ | apply b1_ | apply b2_ | refine below_set ?_ GE265.out | refine below_set ?_ GE297.out) | exact HB.out)⟩⟩
                 ·rw [if_neg c73] at H
                  have c73b0 : (((rd_T45 t281 (rd l1 x13_4)).f0) == ((rd_T45 l0_1 (rd l1 x13_4)).f1)) = false := beq_eq_false_iff_ne.mpr c73
                  have c73b1 : (((rd_T45 t281 (rd l1 x13_4)).f0) != ((rd_T45 l0_1 (rd l1 x13_4)).f1)) = true := bne_iff_ne.mpr c73
                  obtain rfl := Option.some.inj H
                  try go_wp2
                  have n0_ := M_ (Kd.R_drew HO_11.out)
                  have n1_ := M_ (Kd.R_drew HO_298001.out)
                  have n2_ := M_ (Kd.R_drew HO_298002.out)
                  have n3_ := M_ (Kd.R_drew HO_298003.out)
                  have n4_ := M_ (Kd.R_drew HO_298004.out)
                  have n5_ := M_ (blk_drew BK265.out)
                  have n6_ := M_ (blk_drew BK297.out)
                  have n7_ := M_ (below_drew1 HB.out)
                  clear HO_11
                  clear HO_298001
                  clear HO_298002
                  clear HO_298003
                  clear HO_298004
                  clear BK265
                  clear BK297
                  clear HB
                  have HO_11 := n0_
                  have HO_298001 := n1_
                  have HO_298002 := n2_
                  have HO_298003 := n3_
                  have HO_298004 := n4_
                  have BK265 := n5_
                  have BK297 := n6_
                  have HB := n7_
                  clear n0_ n1_ n2_ n3_ n4_ n5_ n6_ n7_
                  have p302 : 0 ≤ (x13_4 : Int) := of_decide_eq_true (by first | (with_reducible assumption) | assumption)
                  have q302 : x13_4 < (l1.length : Int) := of_decide_eq_true (by first | (with_reducible assumption) | assumption)
                  obtain ⟨ad302, e302, hx302_0⟩ := Kd.at_int HR1.out x13_4 p302 q302
                  have hw302_0 := hx302_0
                  cases e302
                  replace hx302_0 := (HB.out.cell (World.block_lt_of_cell? w _ hx302_0)).trans hx302_0
                  replace p302 := eq_true p302
                  replace q302 := eq_true q302
                  have p303 : 0 ≤ ((rd l1 x13_4) : Int) := of_decide_eq_true (by first | (with_reducible assumption) | assumption)
                  have q303 : (rd l1 x13_4) < (t281.length : Int) := of_decide_eq_true (by first | (with_reducible assumption) | assumption)
                  obtain ⟨ad303, e303, hx303_0, hx303_1⟩ := at_T45 (Kd.R_reads' HO_298001.out).2.2 (rd l1 x13_4) p303 q303
                  cases e303
                  replace p303 := eq_true p303
                  replace q303 := eq_true q303
                  have p304 : 0 ≤ (x13_4 : Int) := of_decide_eq_true (by first | (with_reducible assumption) | assumption)
                  have q304 : x13_4 < (l1.length : Int) := of_decide_eq_true (by first | (with_reducible assumption) | assumption)
                  obtain ⟨ad304, e304, hx304_0⟩ := Kd.at_int HR1.out x13_4 p304 q304
                  have hw304_0 := hx304_0
                  obtain rfl : ad302 = ad304 := (by injection e304)
                  replace hx304_0 := (HB.out.cell (World.block_lt_of_cell? w _ hx304_0)).trans hx304_0
                  replace p304 := eq_true p304
                  replace q304 := eq_true q304
                  have p305 : 0 ≤ ((rd l1 x13_4) : Int) := of_decide_eq_true (by first | (with_reducible assumption) | assumption)
                  have q305 : (rd l1 x13_4) < (l0_1.length : Int) := of_decide_eq_true (by first | (with_reducible assumption) | assumption)
                  obtain ⟨ad305, e305, hx305_0, hx305_1⟩ := at_T45 HR0_1.out (rd l1 x13_4) p305 q305
                  have hw305_1 := hx305_1
                  have hw305_0 := hx305_0
                  cases e305
                  replace hx305_0 := (HB.out.cell (World.block_lt_of_cell? w _ hx305_0)).trans hx305_0
                  replace hx305_1 := (HB.out.cell (World.block_lt_of_cell? w _ hx305_1)).trans hx305_1
                  replace p305 := eq_true p305
                  replace q305 := eq_true q305
                  refine start_ (n := 19) (S := fun w' => w'.cell? ⟨gb297, 0, none⟩ = some (.int .i64 t280) ∧ w'.cell? ⟨gb297, 1, none⟩ = some (.slice (some ad303) t281.length co56) ∧ w'.cell? ⟨gb297, 2, none⟩ = some (.slice Ao57 t284.length co57) ∧ w'.cell? ⟨gb297, 3, none⟩ = some (.slice Ao58 t287.length co58) ∧ w'.cell? ⟨gb297, 4, none⟩ = some (.slice Ao59 t290.length co59) ∧ w'.cell? ⟨gb265, 0, none⟩ = some (.int .i64 a0_0) ∧ w'.cell? ⟨gb265, 1, none⟩ = some (.slice (some ad305) l0_1.length c0_1) ∧ w'.cell? ⟨gb265, 2, none⟩ = some (.slice A0_2 l0_2.length c0_2) ∧ w'.cell? ⟨gb265, 3, none⟩ = some (.slice A0_3 l0_3.length c0_3) ∧ w'.cell? ⟨gb265, 4, none⟩ = some (.slice A0_4 l0_4.length c0_4) ∧ w'.cell? (ad302.add (x13_4).toNat) = some (.int .i64 (rd l1 x13_4)) ∧ w'.cell? (ad303.add (((rd l1 x13_4)).toNat * 2)) = some (.int .i64 ((rd_T45 t281 (rd l1 x13_4)).f0)) ∧ w'.cell? ⟨(ad303.add (((rd l1 x13_4)).toNat * 2)).block, (ad303.add (((rd l1 x13_4)).toNat * 2)).off + 1, none⟩ = some (.int .i64 ((rd_T45 t281 (rd l1 x13_4)).f1)) ∧ w'.cell? (ad302.add (x13_4).toNat) = some (.int .i64 (rd l1 x13_4)) ∧ w'.cell? (ad305.add (((rd l1 x13_4)).toNat * 2)) = some (.int .i64 ((rd_T45 l0_1 (rd l1 x13_4)).f0)) ∧ w'.cell? ⟨(ad305.add (((rd l1 x13_4)).toNat * 2)).block, (ad305.add (((rd l1 x13_4)).toNat * 2)).off + 1, none⟩ = some (.int .i64 ((rd_T45 l0_1 (rd l1 x13_4)).f1))) (ds := []) z66_ (by kernel_rfl) rfl rfl ⟨(blk_cell BK297.out 0).trans rfl, (blk_cell BK297.out 1).trans rfl, (blk_cell BK297.out 2).trans rfl, (blk_cell BK297.out 3).trans rfl, (blk_cell BK297.out 4).trans rfl, (blk_cell BK265.out 0).trans rfl, (blk_cell BK265.out 1).trans rfl, (blk_cell BK265.out 2).trans rfl, (blk_cell BK265.out 3).trans rfl, (blk_cell BK265.out 4).trans rfl, ((HB.out.cell (World.block_lt_of_cell? w _ hw302_0)).trans hw302_0), hx303_0, hx303_1, ((HB.out.cell (World.block_lt_of_cell? w _ hw304_0)).trans hw304_0), ((HB.out.cell (World.block_lt_of_cell? w _ hw305_0)).trans hw305_0), ((HB.out.cell (World.block_lt_of_cell? w _ hw305_1)).trans hw305_1)⟩ (fun hHeld => ?_); refine with_tabW spiritlevellaw27_ConstantsGreatest.tab18 spiritlevellaw27_ConstantsGreatest.bits18 (fun HT_ HW_ => ?_)
                  generalize wr.drew = w75 at HO_11 HO_298001 HO_298002 HO_298003 HO_298004 BK265 BK297 HB hx302_0 hx303_0 hx303_1 hx304_0 hx305_0 hx305_1 hHeld ⊢
                  refine pure_ (i := 0) (N := some 123) (v := ?_) (a' := ?_) z67_ rfl rfl (any_of HT_.out (by kernel_rfl)) (fun _ _ _ h => h) (Or.inl ⟨by rfl, ?_⟩) ?_ ?_
                  rotate_left
                  ·intro w'
                   go_simp
                   with_reducible rfl
                  rotate_left
                  ·simp only [Act.put, e1_, e2_, e3_, i64_w, i32_w]
                   rfl
                  refine pure_ (i := 2) (N := some 125) (v := ?_) (a' := ?_) z68_ rfl rfl (any_of HT_.out (by kernel_rfl)) (fun _ _ _ h => h) (Or.inl ⟨by rfl, ?_⟩) ?_ ?_
                  rotate_left
                  ·intro w'
                   go_simp
                   with_reducible rfl
                  rotate_left
                  ·simp only [Act.put, e1_, e2_, e3_, i64_w, i32_w]
                   rfl
                  refine pure_ (i := 3) (N := some 126) (v := ?_) (a' := ?_) z69_ rfl rfl (any_of HT_.out (by kernel_rfl)) (fun _ _ _ h => h) (Or.inl ⟨by rfl, ?_⟩) ?_ ?_
                  rotate_left
                  ·intro w'
                   go_simp
                   with_reducible rfl
                  rotate_left
                  ·simp only [Act.put, e1_, e2_, e3_, i64_w, i32_w]
                   rfl
                  refine pure_ (i := 4) (N := some 127) (v := ?_) (a' := ?_) z70_ rfl rfl (any_of HT_.out (by kernel_rfl)) (fun _ _ _ h => h) (Or.inl ⟨by rfl, ?_⟩) ?_ ?_
                  rotate_left
                  ·intro w'
                   go_simp
                   with_reducible rfl
                  rotate_left
                  ·simp only [Act.put, e1_, e2_, e3_, i64_w, i32_w]
                   rfl
                  refine pure_ (i := 9) (N := some 132) (v := ?_) (a' := ?_) z71_ rfl rfl (any_of HT_.out (by kernel_rfl)) (fun _ _ _ h => h) (Or.inl ⟨by rfl, ?_⟩) ?_ ?_
                  rotate_left
                  ·intro w'
                   go_simp
                   with_reducible rfl
                  rotate_left
                  ·simp only [Act.put, e1_, e2_, e3_, i64_w, i32_w]
                   rfl
                  refine pure_ (i := 11) (N := some 134) (v := ?_) (a' := ?_) z72_ rfl rfl (any_of HT_.out (by kernel_rfl)) (fun _ _ _ h => h) (Or.inl ⟨by rfl, ?_⟩) ?_ ?_
                  rotate_left
                  ·intro w'
                   go_simp
                   with_reducible rfl
                  rotate_left
                  ·simp only [Act.put, e1_, e2_, e3_, i64_w, i32_w]
                   rfl
                  refine pure_ (i := 12) (N := some 135) (v := ?_) (a' := ?_) z73_ rfl rfl (any_of HT_.out (by kernel_rfl)) (fun _ _ _ h => h) (Or.inl ⟨by rfl, ?_⟩) ?_ ?_
                  rotate_left
                  ·intro w'
                   go_simp
                   with_reducible rfl
                  rotate_left
                  ·simp only [Act.put, e1_, e2_, e3_, i64_w, i32_w]
                   rfl
                  refine pure_ (i := 13) (N := some 136) (v := ?_) (a' := ?_) z74_ rfl rfl (any_of HT_.out (by kernel_rfl)) (fun _ _ _ h => h) (Or.inl ⟨by rfl, ?_⟩) ?_ ?_
                  rotate_left
                  ·intro w'
                   go_simp
                   with_reducible rfl
                  rotate_left
                  ·simp only [Act.put, e1_, e2_, e3_, i64_w, i32_w]
                   rfl
                  refine take_ (i := 1) (N := some 124) (v := ?_) (a' := ?_) z75_ rfl rfl (take_ofW HT_.out HW_.out (by kernel_rfl)) (fun _ _ _ h => h) (Or.inl ⟨by rfl, ?_⟩) hHeld ?_ ?_
                  rotate_left
                  ·rintro w' ⟨s0, s1, s2, s3, s4, s5, s6, s7, s8, s9, s10, s11, s12, s13, s14, s15⟩
                   go_simp
                   with_reducible rfl
                  rotate_left
                  ·simp only [Act.put, e1_, e2_, e3_, i64_w, i32_w]
                   rfl
                  refine take_ (i := 5) (N := some 128) (v := ?_) (a' := ?_) z76_ rfl rfl (take_ofW HT_.out HW_.out (by kernel_rfl)) (fun _ _ _ h => h) (Or.inl ⟨by rfl, ?_⟩) hHeld ?_ ?_
                  rotate_left
                  ·rintro w' ⟨s0, s1, s2, s3, s4, s5, s6, s7, s8, s9, s10, s11, s12, s13, s14, s15⟩
                   go_simp
                   with_reducible rfl
                  rotate_left
                  ·simp only [Act.put, e1_, e2_, e3_, i64_w, i32_w]
                   rfl
                  refine pure_ (i := 6) (N := some 129) (v := ?_) (a' := ?_) z77_ rfl rfl (any_of HT_.out (by kernel_rfl)) (fun _ _ _ h => h) (Or.inl ⟨by rfl, ?_⟩) ?_ ?_
                  rotate_left
                  ·intro w'
                   go_simp
                   with_reducible rfl
                  rotate_left
                  ·simp only [Act.put, e1_, e2_, e3_, i64_w, i32_w]
                   rfl
                  refine pure_ (i := 7) (N := some 130) (v := ?_) (a' := ?_) z78_ rfl rfl (any_of HT_.out (by kernel_rfl)) (fun _ _ _ h => h) (Or.inl ⟨by rfl, ?_⟩) ?_ ?_
                  rotate_left
                  ·intro w'
                   go_simp
                   with_reducible rfl
                  rotate_left
                  ·simp only [Act.put, e1_, e2_, e3_, i64_w, i32_w]
                   rfl
                  refine take_ (i := 8) (N := some 131) (v := ?_) (a' := ?_) z79_ rfl rfl (take_ofW HT_.out HW_.out (by kernel_rfl)) (fun _ _ _ h => h) (Or.inl ⟨by rfl, ?_⟩) hHeld ?_ ?_
                  rotate_left
                  ·rintro w' ⟨s0, s1, s2, s3, s4, s5, s6, s7, s8, s9, s10, s11, s12, s13, s14, s15⟩
                   go_simp
                   with_reducible rfl
                  rotate_left
                  ·simp only [Act.put, e1_, e2_, e3_, i64_w, i32_w]
                   rfl
                  refine take_ (i := 10) (N := some 133) (v := ?_) (a' := ?_) z80_ rfl rfl (take_ofW HT_.out HW_.out (by kernel_rfl)) (fun _ _ _ h => h) (Or.inl ⟨by rfl, ?_⟩) hHeld ?_ ?_
                  rotate_left
                  ·rintro w' ⟨s0, s1, s2, s3, s4, s5, s6, s7, s8, s9, s10, s11, s12, s13, s14, s15⟩
                   go_simp
                   with_reducible rfl
                  rotate_left
                  ·simp only [Act.put, e1_, e2_, e3_, i64_w, i32_w]
                   rfl
                  refine take_ (i := 14) (N := some 137) (v := ?_) (a' := ?_) z81_ rfl rfl (take_ofW HT_.out HW_.out (by kernel_rfl)) (fun _ _ _ h => h) (Or.inl ⟨by rfl, ?_⟩) hHeld ?_ ?_
                  rotate_left
                  ·rintro w' ⟨s0, s1, s2, s3, s4, s5, s6, s7, s8, s9, s10, s11, s12, s13, s14, s15⟩
                   go_simp
                   with_reducible rfl
                  rotate_left
                  ·simp only [Act.put, e1_, e2_, e3_, i64_w, i32_w]
                   rfl
                  refine pure_ (i := 15) (N := some 138) (v := ?_) (a' := ?_) z82_ rfl rfl (any_of HT_.out (by kernel_rfl)) (fun _ _ _ h => h) (Or.inl ⟨by rfl, ?_⟩) ?_ ?_
                  rotate_left
                  ·intro w'
                   go_simp
                   with_reducible rfl
                  rotate_left
                  ·simp only [Act.put, e1_, e2_, e3_, i64_w, i32_w]
                   rfl
                  refine pure_ (i := 16) (N := some 139) (v := ?_) (a' := ?_) z83_ rfl rfl (any_of HT_.out (by kernel_rfl)) (fun _ _ _ h => h) (Or.inl ⟨by rfl, ?_⟩) ?_ ?_
                  rotate_left
                  ·intro w'
                   go_simp
                   with_reducible rfl
                  rotate_left
                  ·simp only [Act.put, e1_, e2_, e3_, i64_w, i32_w]
                   rfl
                  refine take_ (i := 17) (N := some 140) (v := ?_) (a' := ?_) z84_ rfl rfl (take_ofW HT_.out HW_.out (by kernel_rfl)) (fun _ _ _ h => h) (Or.inl ⟨by rfl, ?_⟩) hHeld ?_ ?_
                  rotate_left
                  ·rintro w' ⟨s0, s1, s2, s3, s4, s5, s6, s7, s8, s9, s10, s11, s12, s13, s14, s15⟩
                   go_simp
                   with_reducible rfl
                  rotate_left
                  ·simp only [Act.put, e1_, e2_, e3_, i64_w, i32_w]
                   rfl
                  refine pure_ (i := 18) (N := some 141) (v := ?_) (a' := ?_) z85_ rfl rfl (any_of HT_.out (by kernel_rfl)) (fun _ _ _ h => h) (Or.inl ⟨by rfl, ?_⟩) ?_ ?_
                  rotate_left
                  ·intro w'
                   go_simp
                   with_reducible rfl
                  rotate_left
                  ·simp only [Act.put, e1_, e2_, e3_, i64_w, i32_w]
                   rfl
                  refine done_ (done_of HT_.out (by kernel_rfl)) ?_
                  try go_wp2
                  go_ret
                  exact ⟨by first | rfl | (simp [errW_none, errW_some] <;> rfl) | (simp [*, errW_none, errW_some] <;> rfl), by repeat (first | (with_reducible first | exact HB.out | apply b0_ | apply b1_ | apply b2_ | refine below_set ?_ GE265.out | refine below_set ?_ GE297.out) | exact HB.out)⟩
                ·rw [if_neg c72] at H
                 exact absurd H (by simp)
               ·rw [if_neg c71] at H
                exact absurd H (by simp)
              ·rw [if_neg c70] at H
               exact absurd H (by simp)
             ·rw [if_neg c69] at H
              exact absurd H (by simp)
            ·rw [if_neg c68] at H
             have c68b0 : decide (x13_4 < (l1.length : Int)) = false := decide_eq_false c68
             clear c68
             have H' := M_ H
             clear H
             go_wp2
             go_loopg [14] k4 (fun kq v14 w' => ∃ (x14_5 : Int), v14 = .int .i64 x14_5 ∧ Aside0 (spiritlevellaw27_ConstantsGreatest.l2 kq l1 t266 t298 x14_5 = some r) ∧ Aside0 (kq ≤ k4) ∧ Aside0 (Kd.R (Kd.int .i64) 3 w' w.heap.size (fun k_ => some k_ ≠ ((.slice Ao58 t287.length co58) : Value).ownBlock ∧ some k_ ≠ ((.slice Ao59 t290.length co59) : Value).ownBlock) v299 t298) ∧ Aside0 (Kd.R k45 45 w' w.heap.size (fun _ => True) (.slice Ao56 t281.length co56) t281) ∧ Aside0 (Kd.R k55 55 w' w.heap.size (fun _ => True) (.slice Ao57 t284.length co57) t284) ∧ Aside0 (Kd.R (Kd.int .i64) 3 w' w.heap.size (fun k_ => some k_ ≠ (v299 : Value).ownBlock ∧ some k_ ≠ ((.slice Ao59 t290.length co59) : Value).ownBlock) (.slice Ao58 t287.length co58) t287) ∧ Aside0 (Kd.R (Kd.int .i64) 3 w' w.heap.size (fun k_ => some k_ ≠ (v299 : Value).ownBlock ∧ some k_ ≠ ((.slice Ao58 t287.length co58) : Value).ownBlock) (.slice Ao59 t290.length co59) t290) ∧ Aside0 (w'.heap[gb265]? = some (.cells #[.int .i64 a0_0, (.slice A0_1 l0_1.length c0_1), (.slice A0_2 l0_2.length c0_2), (.slice A0_3 l0_3.length c0_3), (.slice A0_4 l0_4.length c0_4)] 26 (0, 0))) ∧ Aside0 (w'.heap[gb297]? = some (.cells #[.int .i64 t280, (.slice Ao56 t281.length co56), (.slice Ao57 t284.length co57), (.slice Ao58 t287.length co58), (.slice Ao59 t290.length co59)] 26 (0, 0))) ∧ Aside0 (Below w.heap.size w w'))
             case atStart => exact ⟨(0), (by first | rfl | (simp; done) | (simp [*]; done)), H', ⟨Nat.le_refl _⟩, ⟨by (with_reducible repeat (first | apply a0_ | apply a1_ | apply a2_)); exact HO_11.out⟩, ⟨by (with_reducible repeat (first | apply a0_ | apply a1_ | apply a2_)); exact HO_298001.out⟩, ⟨by (with_reducible repeat (first | apply a0_ | apply a1_ | apply a2_)); exact HO_298002.out⟩, ⟨by (with_reducible repeat (first | apply a0_ | apply a1_ | apply a2_)); exact HO_298003.out⟩, ⟨by (with_reducible repeat (first | apply a0_ | apply a1_ | apply a2_)); exact HO_298004.out⟩, ⟨by (with_reducible repeat (first | refine blk_drewN ?_ _ | refine blk_drew ?_ | refine blk_alloc ?_ _)); exact BK265.out⟩, ⟨by (with_reducible repeat (first | refine blk_drewN ?_ _ | refine blk_drew ?_ | refine blk_alloc ?_ _)); exact BK297.out⟩, ⟨by repeat (first | (with_reducible first | exact HB.out | apply b0_ | apply b1_ | apply b2_ | refine below_set ?_ GE265.out | refine below_set ?_ GE297.out) | exact HB.out)⟩⟩
             case round =>
              clear H'
              try clear p2
              try clear q2
              try clear hx2
              try clear c3
              try clear p3
              try clear q3
              try clear hx3
              try clear c4
              try clear p4
              try clear q4
              try clear hx4
              try clear hf4
              try clear c5
              try clear c6
              try clear p6
              try clear c7
              try clear p27
              try clear q27
              try clear hx27
              try clear c30
              try clear c30b0
              try clear p30
              try clear q30
              try clear hx30
              try clear c31
              try clear c36
              try clear c37
              try clear c38
              try clear c38b0
              try clear c38b1
              try clear c41
              try clear c41b0
              try clear c42
              try clear c42b0
              try clear p43
              try clear q43
              try clear hx43
              try clear hf43
              try clear c54
              try clear c62
              try clear c62b0
              try clear c62b1
              try clear c63
              try clear c63b0
              try clear c63b1
              try clear c64
              try clear p64
              try clear c67
              try clear c68
              try clear c68b0
              try clear c69
              try clear c69b0
              try clear c70
              try clear c70b0
              try clear c71
              try clear c71b0
              try clear c72
              try clear c72b0
              try clear c73
              try clear c73b0
              try clear c73b1
              try clear hcz50_0
              try clear hcz50_1
              try clear hcz50_2
              try clear hcz50_3
              try clear hcz50_4
              try clear hcz55_0
              try clear hcz55_1
              try clear hcz55_2
              try clear hcz55_3
              try clear hcz55_4
              try clear hcz60_0
              try clear hcz60_1
              try clear hcz60_2
              try clear hcz60_3
              try clear hcz60_4
              try clear hcz65_0
              try clear hcz65_1
              try clear hcz65_2
              try clear hcz65_3
              try clear hcz65_4
              try clear hcz66_0
              try clear hcz66_1
              try clear hcz66_2
              try clear hcz66_3
              try clear hcz66_4
              try clear hfz50_0
              try clear hfz50_1
              try clear hfz50_2
              try clear hfz50_3
              try clear hfz50_4
              try clear hfz55_0
              try clear hfz55_1
              try clear hfz55_2
              try clear hfz55_3
              try clear hfz55_4
              try clear hfz60_0
              try clear hfz60_1
              try clear hfz60_2
              try clear hfz60_3
              try clear hfz60_4
              try clear hfz65_0
              try clear hfz65_1
              try clear hfz65_2
              try clear hfz65_3
              try clear hfz65_4
              try clear hfz66_0
              try clear hfz66_1
              try clear hfz66_2
              try clear hfz66_3
              try clear hfz66_4
              try clear hx272_0
              try clear hx273_0
              try clear hx274_0
              try clear hx275_0
              try clear hx275_1
              try clear hx276_0
              try clear hx277_0
              try clear hx278_0
              try clear hx278_1
              try clear hx302_0
              try clear hx303_0
              try clear hx303_1
              try clear hx304_0
              try clear hx305_0
              try clear hx305_1
              try clear hx43_0
              try clear p2
              try clear p27
              try clear p272
              try clear p273
              try clear p274
              try clear p275
              try clear p276
              try clear p277
              try clear p278
              try clear p302
              try clear p303
              try clear p304
              try clear p305
              try clear p4
              try clear p43
              try clear p6
              try clear p64
              try clear q2
              try clear q27
              try clear q272
              try clear q273
              try clear q274
              try clear q275
              try clear q276
              try clear q277
              try clear q278
              try clear q302
              try clear q303
              try clear q304
              try clear q305
              try clear q4
              try clear q43
              obtain ⟨x14_5, rfl, HA, HK5, HO_11, HO_298001, HO_298002, HO_298003, HO_298004, BK265, BK297, HB⟩ := hrel
              cases gk with
              | zero => exact absurd HA.out (by simp [spiritlevellaw27_ConstantsGreatest.l2])
              | succ k5 =>
               have H := HA.out
               clear HA
               simp only [spiritlevellaw27_ConstantsGreatest.l2] at H
               by_cases c76 : x14_5 < (l1.length : Int)
               ·rw [if_pos c76] at H
                have c76b0 : decide (x14_5 < (l1.length : Int)) = true := decide_eq_true c76
                clear c76
                have H' := M_ H
                clear H
                go_wp2
                go_loopg [15, 16] k5 (fun kq v15 v16 w' => ∃ (x15_6 : Bool) (x16_6 : Int), v15 = .bool x15_6 ∧ v16 = .int .i64 x16_6 ∧ Aside0 (spiritlevellaw27_ConstantsGreatest.l3 kq l1 t266 t298 x14_5 x15_6 x16_6 = some r) ∧ Aside0 (kq ≤ k5) ∧ Aside0 (Kd.R (Kd.int .i64) 3 w' w.heap.size (fun k_ => some k_ ≠ ((.slice Ao58 t287.length co58) : Value).ownBlock ∧ some k_ ≠ ((.slice Ao59 t290.length co59) : Value).ownBlock) v299 t298) ∧ Aside0 (Kd.R k45 45 w' w.heap.size (fun _ => True) (.slice Ao56 t281.length co56) t281) ∧ Aside0 (Kd.R k55 55 w' w.heap.size (fun _ => True) (.slice Ao57 t284.length co57) t284) ∧ Aside0 (Kd.R (Kd.int .i64) 3 w' w.heap.size (fun k_ => some k_ ≠ (v299 : Value).ownBlock ∧ some k_ ≠ ((.slice Ao59 t290.length co59) : Value).ownBlock) (.slice Ao58 t287.length co58) t287) ∧ Aside0 (Kd.R (Kd.int .i64) 3 w' w.heap.size (fun k_ => some k_ ≠ (v299 : Value).ownBlock ∧ some k_ ≠ ((.slice Ao58 t287.length co58) : Value).ownBlock) (.slice Ao59 t290.length co59) t290) ∧ Aside0 (w'.heap[gb265]? = some (.cells #[.int .i64 a0_0, (.slice A0_1 l0_1.length c0_1), (.slice A0_2 l0_2.length c0_2), (.slice A0_3 l0_3.length c0_3), (.slice A0_4 l0_4.length c0_4)] 26 (0, 0))) ∧ Aside0 (w'.heap[gb297]? = some (.cells #[.int .i64 t280, (.slice Ao56 t281.length co56), (.slice Ao57 t284.length co57), (.slice Ao58 t287.length co58), (.slice Ao59 t290.length co59)] 26 (0, 0))) ∧ Aside0 (Below w.heap.size w w'))
                case atStart => exact ⟨(false), (0), (by first | rfl | (simp; done) | (simp [*]; done)), (by first | rfl | (simp; done) | (simp [*]; done)), H', ⟨Nat.le_refl _⟩, ⟨by (with_reducible repeat (first | apply a0_ | apply a1_ | apply a2_)); exact HO_11.out⟩, ⟨by (with_reducible repeat (first | apply a0_ | apply a1_ | apply a2_)); exact HO_298001.out⟩, ⟨by (with_reducible repeat (first | apply a0_ | apply a1_ | apply a2_)); exact HO_298002.out⟩, ⟨by (with_reducible repeat (first | apply a0_ | apply a1_ | apply a2_)); exact HO_298003.out⟩, ⟨by (with_reducible repeat (first | apply a0_ | apply a1_ | apply a2_)); exact HO_298004.out⟩, ⟨by (with_reducible repeat (first | refine blk_drewN ?_ _ | refine blk_drew ?_ | refine blk_alloc ?_ _)); exact BK265.out⟩, ⟨by (with_reducible repeat (first | refine blk_drewN ?_ _ | refine blk_drew ?_ | refine blk_alloc ?_ _)); exact BK297.out⟩, ⟨by repeat (first | (with_reducible first | exact HB.out | apply b0_ | apply b1_ | apply b2_ | refine below_set ?_ GE265.out | refine below_set ?_ GE297.out) | exact HB.out)⟩⟩
                case round =>
                 clear H'
                 try clear p2
                 try clear q2
                 try clear hx2
                 try clear c3
                 try clear p3
                 try clear q3
                 try clear hx3
                 try clear c4
                 try clear p4
                 try clear q4
                 try clear hx4
                 try clear hf4
                 try clear c5
                 try clear c6
                 try clear p6
                 try clear c7
                 try clear p27
                 try clear q27
                 try clear hx27
                 try clear c30
                 try clear c30b0
                 try clear p30
                 try clear q30
                 try clear hx30
                 try clear c31
                 try clear c36
                 try clear c37
                 try clear c38
                 try clear c38b0
                 try clear c38b1
                 try clear c41
                 try clear c41b0
                 try clear c42
                 try clear c42b0
                 try clear p43
                 try clear q43
                 try clear hx43
                 try clear hf43
                 try clear c54
                 try clear c62
                 try clear c62b0
                 try clear c62b1
                 try clear c63
                 try clear c63b0
                 try clear c63b1
                 try clear c64
                 try clear p64
                 try clear c67
                 try clear c68
                 try clear c68b0
                 try clear c69
                 try clear c69b0
                 try clear c70
                 try clear c70b0
                 try clear c71
                 try clear c71b0
                 try clear c72
                 try clear c72b0
                 try clear c73
                 try clear c73b0
                 try clear c73b1
                 try clear c76
                 try clear c76b0
                 try clear hcz50_0
                 try clear hcz50_1
                 try clear hcz50_2
                 try clear hcz50_3
                 try clear hcz50_4
                 try clear hcz55_0
                 try clear hcz55_1
                 try clear hcz55_2
                 try clear hcz55_3
                 try clear hcz55_4
                 try clear hcz60_0
                 try clear hcz60_1
                 try clear hcz60_2
                 try clear hcz60_3
                 try clear hcz60_4
                 try clear hcz65_0
                 try clear hcz65_1
                 try clear hcz65_2
                 try clear hcz65_3
                 try clear hcz65_4
                 try clear hcz66_0
                 try clear hcz66_1
                 try clear hcz66_2
                 try clear hcz66_3
                 try clear hcz66_4
                 try clear hfz50_0
                 try clear hfz50_1
                 try clear hfz50_2
                 try clear hfz50_3
                 try clear hfz50_4
                 try clear hfz55_0
                 try clear hfz55_1
                 try clear hfz55_2
                 try clear hfz55_3
                 try clear hfz55_4
                 try clear hfz60_0
                 try clear hfz60_1
                 try clear hfz60_2
                 try clear hfz60_3
                 try clear hfz60_4
                 try clear hfz65_0
                 try clear hfz65_1
                 try clear hfz65_2
                 try clear hfz65_3
                 try clear hfz65_4
                 try clear hfz66_0
                 try clear hfz66_1
                 try clear hfz66_2
                 try clear hfz66_3
                 try clear hfz66_4
                 try clear hx272_0
                 try clear hx273_0
                 try clear hx274_0
                 try clear hx275_0
                 try clear hx275_1
                 try clear hx276_0
                 try clear hx277_0
                 try clear hx278_0
                 try clear hx278_1
                 try clear hx302_0
                 try clear hx303_0
                 try clear hx303_1
                 try clear hx304_0
                 try clear hx305_0
                 try clear hx305_1
                 try clear hx43_0
                 try clear p2
                 try clear p27
                 try clear p272
                 try clear p273
                 try clear p274
                 try clear p275
                 try clear p276
                 try clear p277
                 try clear p278
                 try clear p3
                 try clear p30
                 try clear p302
                 try clear p303
                 try clear p304
                 try clear p305
                 try clear p4
                 try clear p43
                 try clear p6
                 try clear p64
                 try clear q2
                 try clear q27
                 try clear q272
                 try clear q273
                 try clear q274
                 try clear q275
                 try clear q276
                 try clear q277
                 try clear q278
                 try clear q3
                 try clear q30
                 try clear q302
                 try clear q303
                 try clear q304
                 try clear q305
                 try clear q4
                 try clear q43
                 obtain ⟨x15_6, x16_6, rfl, rfl, HA, HK6, HO_11, HO_298001, HO_298002, HO_298003, HO_298004, BK265, BK297, HB⟩ := hrel
                 cases gk with
                 | zero => exact absurd HA.out (by simp [spiritlevellaw27_ConstantsGreatest.l3])
                 | succ k6 =>
                  have H := HA.out
                  clear HA
                  simp only [spiritlevellaw27_ConstantsGreatest.l3] at H
                  by_cases c77 : x16_6 < (t298.length : Int)
                  ·rw [if_pos c77] at H
                   have c77b0 : decide (x16_6 < (t298.length : Int)) = true := decide_eq_true c77
                   clear c77
                   by_cases c78 : x15_6 = true
                   ·subst c78
                    have H1 : (spiritlevellaw27_ConstantsGreatest.l3 k6 l1 t266 t298 x14_5 true (wrap64 (x16_6 + 1))) = some r := by rw [if_pos rfl] at H; exact H
                    clear H
                    have H := H1
                    clear H1
                    have H' := M_ H
                    clear H
                    obtain ⟨Ao79, co79, eo79⟩ := Kd.R_slice HO_11.out
                    subst eo79
                    try go_wp2
                    have n0_ := M_ (Kd.R_drew HO_11.out)
                    have n1_ := M_ (Kd.R_drew HO_298001.out)
                    have n2_ := M_ (Kd.R_drew HO_298002.out)
                    have n3_ := M_ (Kd.R_drew HO_298003.out)
                    have n4_ := M_ (Kd.R_drew HO_298004.out)
                    have n5_ := M_ (blk_drew BK265.out)
                    have n6_ := M_ (blk_drew BK297.out)
                    have n7_ := M_ (below_drew1 HB.out)
                    clear HO_11
                    clear HO_298001
                    clear HO_298002
                    clear HO_298003
                    clear HO_298004
                    clear BK265
                    clear BK297
                    clear HB
                    have HO_11 := n0_
                    have HO_298001 := n1_
                    have HO_298002 := n2_
                    have HO_298003 := n3_
                    have HO_298004 := n4_
                    have BK265 := n5_
                    have BK297 := n6_
                    have HB := n7_
                    clear n0_ n1_ n2_ n3_ n4_ n5_ n6_ n7_
                    refine start_ (n := 13) (S := fun w' => True) (ds := []) z86_ (by kernel_rfl) rfl rfl trivial (fun hHeld => ?_); refine with_tabW spiritlevellaw27_ConstantsGreatest.tab27 spiritlevellaw27_ConstantsGreatest.bits27 (fun HT_ HW_ => ?_)
                    generalize wr.drew = w80 at HO_11 HO_298001 HO_298002 HO_298003 HO_298004 BK265 BK297 HB hHeld ⊢
                    refine pure_ (i := 0) (N := some 155) (v := ?_) (a' := ?_) z87_ rfl rfl (any_of HT_.out (by kernel_rfl)) (fun _ _ _ h => h) (Or.inl ⟨by rfl, ?_⟩) ?_ ?_
                    rotate_left
                    ·intro w'
                     go_simp
                     with_reducible rfl
                    rotate_left
                    ·simp only [Act.put, e1_, e2_, e3_, i64_w, i32_w]
                     rfl
                    refine pure_ (i := 1) (N := some 156) (v := ?_) (a' := ?_) z88_ rfl rfl (any_of HT_.out (by kernel_rfl)) (fun _ _ _ h => h) (Or.inl ⟨by rfl, ?_⟩) ?_ ?_
                    rotate_left
                    ·intro w'
                     go_simp
                     with_reducible rfl
                    rotate_left
                    ·simp only [Act.put, e1_, e2_, e3_, i64_w, i32_w]
                     rfl
                    refine pure_ (i := 2) (N := some 157) (v := undef) (a' := ?_) z89_ rfl rfl (any_of HT_.out (by kernel_rfl)) (fun _ _ _ h => h) (Or.inr ⟨by rfl, rfl⟩) ?_ ?_
                    rotate_left
                    ·simp only [Act.put, e1_, e2_, e3_, i64_w, i32_w]
                     rfl
                    refine pure_ (i := 3) (N := some 158) (v := undef) (a' := ?_) z90_ rfl rfl (any_of HT_.out (by kernel_rfl)) (fun _ _ _ h => h) (Or.inr ⟨by rfl, rfl⟩) ?_ ?_
                    rotate_left
                    ·simp only [Act.put, e1_, e2_, e3_, i64_w, i32_w]
                     rfl
                    refine pure_ (i := 4) (N := some 159) (v := undef) (a' := ?_) z91_ rfl rfl (any_of HT_.out (by kernel_rfl)) (fun _ _ _ h => h) (Or.inr ⟨by rfl, rfl⟩) ?_ ?_
                    rotate_left
                    ·simp only [Act.put, e1_, e2_, e3_, i64_w, i32_w]
                     rfl
                    refine pure_ (i := 5) (N := some 160) (v := undef) (a' := ?_) z92_ rfl rfl (any_of HT_.out (by kernel_rfl)) (fun _ _ _ h => h) (Or.inr ⟨by rfl, rfl⟩) ?_ ?_
                    rotate_left
                    ·simp only [Act.put, e1_, e2_, e3_, i64_w, i32_w]
                     rfl
                    refine pure_ (i := 6) (N := some 161) (v := undef) (a' := ?_) z93_ rfl rfl (any_of HT_.out (by kernel_rfl)) (fun _ _ _ h => h) (Or.inr ⟨by rfl, rfl⟩) ?_ ?_
                    rotate_left
                    ·simp only [Act.put, e1_, e2_, e3_, i64_w, i32_w]
                     rfl
                    refine pure_ (i := 7) (N := some 162) (v := undef) (a' := ?_) z94_ rfl rfl (any_of HT_.out (by kernel_rfl)) (fun _ _ _ h => h) (Or.inr ⟨by rfl, rfl⟩) ?_ ?_
                    rotate_left
                    ·simp only [Act.put, e1_, e2_, e3_, i64_w, i32_w]
                     rfl
                    refine pure_ (i := 8) (N := some 163) (v := undef) (a' := ?_) z95_ rfl rfl (any_of HT_.out (by kernel_rfl)) (fun _ _ _ h => h) (Or.inr ⟨by rfl, rfl⟩) ?_ ?_
                    rotate_left
                    ·simp only [Act.put, e1_, e2_, e3_, i64_w, i32_w]
                     rfl
                    refine pure_ (i := 9) (N := some 164) (v := undef) (a' := ?_) z96_ rfl rfl (any_of HT_.out (by kernel_rfl)) (fun _ _ _ h => h) (Or.inr ⟨by rfl, rfl⟩) ?_ ?_
                    rotate_left
                    ·simp only [Act.put, e1_, e2_, e3_, i64_w, i32_w]
                     rfl
                    refine pure_ (i := 10) (N := some 165) (v := undef) (a' := ?_) z97_ rfl rfl (any_of HT_.out (by kernel_rfl)) (fun _ _ _ h => h) (Or.inr ⟨by rfl, rfl⟩) ?_ ?_
                    rotate_left
                    ·simp only [Act.put, e1_, e2_, e3_, i64_w, i32_w]
                     rfl
                    refine pure_ (i := 11) (N := some 166) (v := ?_) (a' := ?_) z98_ rfl rfl (any_of HT_.out (by kernel_rfl)) (fun _ _ _ h => h) (Or.inl ⟨by rfl, ?_⟩) ?_ ?_
                    rotate_left
                    ·intro w'
                     go_simp
                     with_reducible rfl
                    rotate_left
                    ·simp only [Act.put, e1_, e2_, e3_, i64_w, i32_w]
                     rfl
                    refine pure_ (i := 12) (N := some 15) (v := ?_) (a' := ?_) z99_ rfl rfl (any_of HT_.out (by kernel_rfl)) (fun _ _ _ h => h) (Or.inl ⟨by rfl, ?_⟩) ?_ ?_
                    rotate_left
                    ·intro w'
                     go_simp
                     with_reducible rfl
                    rotate_left
                    ·simp only [Act.put, e1_, e2_, e3_, i64_w, i32_w]
                     rfl
                    refine done_ (done_of HT_.out (by kernel_rfl)) ?_
                    try go_wp2
                    go_roundg k6
                    case measure => have := HJ3.out; have := HK2.out; have := HJ48.out; have := HK4.out; have := HK5.out; have := HK6.out; omega
                    case rel => exact ⟨(true), (wrap64 (x16_6 + 1)), (by first | rfl | (simp; done) | (simp [*]; done)), (by first | rfl | (simp; done) | (simp [*]; done)), H', ⟨by have := HJ3.out; have := HK2.out; have := HJ48.out; have := HK4.out; have := HK5.out; have := HK6.out; omega⟩, ⟨by (with_reducible repeat (first | apply a0_ | apply a1_ | apply a2_)); exact HO_11.out⟩, ⟨by (with_reducible repeat (first | apply a0_ | apply a1_ | apply a2_)); exact HO_298001.out⟩, ⟨by (with_reducible repeat (first | apply a0_ | apply a1_ | apply a2_)); exact HO_298002.out⟩, ⟨by (with_reducible repeat (first | apply a0_ | apply a1_ | apply a2_)); exact HO_298003.out⟩, ⟨by (with_reducible repeat (first | apply a0_ | apply a1_ | apply a2_)); exact HO_298004.out⟩, ⟨by (with_reducible repeat (first | refine blk_drewN ?_ _ | refine blk_drew ?_ | refine blk_alloc ?_ _)); exact BK265.out⟩, ⟨by (with_reducible repeat (first | refine blk_drewN ?_ _ | refine blk_drew ?_ | refine blk_alloc ?_ _)); exact BK297.out⟩, ⟨by repeat (first | (with_reducible first | exact HB.out | apply b0_ | apply b1_ | apply b2_ | refine below_set ?_ GE265.out | refine below_set ?_ GE297.out) | exact HB.out)⟩⟩
                   ·replace c78 := Bool.eq_false_iff.mpr c78
                    subst c78
                    have H1 : (if 0 ≤ x16_6 then (if 0 ≤ x14_5 then (if x14_5 < (l1.length : Int) then (spiritlevellaw27_ConstantsGreatest.l3 k6 l1 t266 t298 x14_5 ((rd t298 x16_6) == (rd l1 x14_5)) (wrap64 (x16_6 + 1))) else (none)) else (none)) else (none)) = some r := by rw [if_neg (show ¬ (false = true) by decide)] at H; exact H
                    clear H
                    have H := H1
                    clear H1
                    by_cases c81 : 0 ≤ x16_6
                    ·rw [if_pos c81] at H
                     have c81b0 : decide (0 ≤ x16_6) = true := decide_eq_true c81
                     clear c81
                     by_cases c82 : 0 ≤ x14_5
                     ·rw [if_pos c82] at H
                      have c82b0 : decide (0 ≤ x14_5) = true := decide_eq_true c82
                      clear c82
                      by_cases c83 : x14_5 < (l1.length : Int)
                      ·rw [if_pos c83] at H
                       have c83b0 : decide (x14_5 < (l1.length : Int)) = true := decide_eq_true c83
                       clear c83
                       have H' := M_ H
                       clear H
                       obtain ⟨Ao84, co84, eo84⟩ := Kd.R_slice HO_11.out
                       subst eo84
                       try go_wp2
                       have n0_ := M_ (Kd.R_drew HO_11.out)
                       have n1_ := M_ (Kd.R_drew HO_298001.out)
                       have n2_ := M_ (Kd.R_drew HO_298002.out)
                       have n3_ := M_ (Kd.R_drew HO_298003.out)
                       have n4_ := M_ (Kd.R_drew HO_298004.out)
                       have n5_ := M_ (blk_drew BK265.out)
                       have n6_ := M_ (blk_drew BK297.out)
                       have n7_ := M_ (below_drew1 HB.out)
                       clear HO_11
                       clear HO_298001
                       clear HO_298002
                       clear HO_298003
                       clear HO_298004
                       clear BK265
                       clear BK297
                       clear HB
                       have HO_11 := n0_
                       have HO_298001 := n1_
                       have HO_298002 := n2_
                       have HO_298003 := n3_
                       have HO_298004 := n4_
                       have BK265 := n5_
                       have BK297 := n6_
                       have HB := n7_
                       clear n0_ n1_ n2_ n3_ n4_ n5_ n6_ n7_
                       have p306 : 0 ≤ (x16_6 : Int) := of_decide_eq_true (by first | (with_reducible assumption) | assumption)
                       have q306 : x16_6 < (t298.length : Int) := of_decide_eq_true (by first | (with_reducible assumption) | assumption)
                       obtain ⟨ad306, e306, hx306_0⟩ := Kd.at_int (Kd.R_reads' HO_11.out).2.2 x16_6 p306 q306
                       cases e306
                       replace p306 := eq_true p306
                       replace q306 := eq_true q306
                       have p307 : 0 ≤ (x14_5 : Int) := of_decide_eq_true (by first | (with_reducible assumption) | assumption)
                       have q307 : x14_5 < (l1.length : Int) := of_decide_eq_true (by first | (with_reducible assumption) | assumption)
                       obtain ⟨ad307, e307, hx307_0⟩ := Kd.at_int HR1.out x14_5 p307 q307
                       have hw307_0 := hx307_0
                       cases e307
                       replace hx307_0 := (HB.out.cell (World.block_lt_of_cell? w _ hx307_0)).trans hx307_0
                       replace p307 := eq_true p307
                       replace q307 := eq_true q307
                       refine start_ (n := 13) (S := fun w' => w'.cell? (ad306.add (x16_6).toNat) = some (.int .i64 (rd t298 x16_6)) ∧ w'.cell? (ad307.add (x14_5).toNat) = some (.int .i64 (rd l1 x14_5))) (ds := []) z86_ (by kernel_rfl) rfl rfl ⟨hx306_0, ((HB.out.cell (World.block_lt_of_cell? w _ hw307_0)).trans hw307_0)⟩ (fun hHeld => ?_); refine with_tabW spiritlevellaw27_ConstantsGreatest.tab27 spiritlevellaw27_ConstantsGreatest.bits27 (fun HT_ HW_ => ?_)
                       generalize wr.drew = w85 at HO_11 HO_298001 HO_298002 HO_298003 HO_298004 BK265 BK297 HB hx306_0 hx307_0 hHeld ⊢
                       refine pure_ (i := 0) (N := some 155) (v := ?_) (a' := ?_) z87_ rfl rfl (any_of HT_.out (by kernel_rfl)) (fun _ _ _ h => h) (Or.inl ⟨by rfl, ?_⟩) ?_ ?_
                       rotate_left
                       ·intro w'
                        go_simp
                        with_reducible rfl
                       rotate_left
                       ·simp only [Act.put, e1_, e2_, e3_, i64_w, i32_w]
                        rfl
                       refine pure_ (i := 1) (N := some 156) (v := ?_) (a' := ?_) z88_ rfl rfl (any_of HT_.out (by kernel_rfl)) (fun _ _ _ h => h) (Or.inl ⟨by rfl, ?_⟩) ?_ ?_
                       rotate_left
                       ·intro w'
                        go_simp
                        with_reducible rfl
                       rotate_left
                       ·simp only [Act.put, e1_, e2_, e3_, i64_w, i32_w]
                        rfl
                       refine pure_ (i := 2) (N := some 157) (v := ?_) (a' := ?_) z89_ rfl rfl (any_of HT_.out (by kernel_rfl)) (fun _ _ _ h => h) (Or.inl ⟨by rfl, ?_⟩) ?_ ?_
                       rotate_left
                       ·intro w'
                        go_simp
                        with_reducible rfl
                       rotate_left
                       ·simp only [Act.put, e1_, e2_, e3_, i64_w, i32_w]
                        rfl
                       refine pure_ (i := 3) (N := some 158) (v := ?_) (a' := ?_) z90_ rfl rfl (any_of HT_.out (by kernel_rfl)) (fun _ _ _ h => h) (Or.inl ⟨by rfl, ?_⟩) ?_ ?_
                       rotate_left
                       ·intro w'
                        go_simp
                        with_reducible rfl
                       rotate_left
                       ·simp only [Act.put, e1_, e2_, e3_, i64_w, i32_w]
                        rfl
                       refine pure_ (i := 4) (N := some 159) (v := ?_) (a' := ?_) z91_ rfl rfl (any_of HT_.out (by kernel_rfl)) (fun _ _ _ h => h) (Or.inl ⟨by rfl, ?_⟩) ?_ ?_
                       rotate_left
                       ·intro w'
                        go_simp
                        with_reducible rfl
                       rotate_left
                       ·simp only [Act.put, e1_, e2_, e3_, i64_w, i32_w]
                        rfl
                       refine pure_ (i := 6) (N := some 161) (v := ?_) (a' := ?_) z100_ rfl rfl (any_of HT_.out (by kernel_rfl)) (fun _ _ _ h => h) (Or.inl ⟨by rfl, ?_⟩) ?_ ?_
                       rotate_left
                       ·intro w'
                        go_simp
                        with_reducible rfl
                       rotate_left
                       ·simp only [Act.put, e1_, e2_, e3_, i64_w, i32_w]
                        rfl
                       refine pure_ (i := 7) (N := some 162) (v := ?_) (a' := ?_) z101_ rfl rfl (any_of HT_.out (by kernel_rfl)) (fun _ _ _ h => h) (Or.inl ⟨by rfl, ?_⟩) ?_ ?_
                       rotate_left
                       ·intro w'
                        go_simp
                        with_reducible rfl
                       rotate_left
                       ·simp only [Act.put, e1_, e2_, e3_, i64_w, i32_w]
                        rfl
                       refine pure_ (i := 8) (N := some 163) (v := ?_) (a' := ?_) z102_ rfl rfl (any_of HT_.out (by kernel_rfl)) (fun _ _ _ h => h) (Or.inl ⟨by rfl, ?_⟩) ?_ ?_
                       rotate_left
                       ·intro w'
                        go_simp
                        with_reducible rfl
                       rotate_left
                       ·simp only [Act.put, e1_, e2_, e3_, i64_w, i32_w]
                        rfl
                       refine take_ (i := 5) (N := some 160) (v := ?_) (a' := ?_) z95_ rfl rfl (take_ofW HT_.out HW_.out (by kernel_rfl)) (fun _ _ _ h => h) (Or.inl ⟨by rfl, ?_⟩) hHeld ?_ ?_
                       rotate_left
                       ·rintro w' ⟨s0, s1⟩
                        go_simp
                        with_reducible rfl
                       rotate_left
                       ·simp only [Act.put, e1_, e2_, e3_, i64_w, i32_w]
                        rfl
                       refine take_ (i := 9) (N := some 164) (v := ?_) (a' := ?_) z96_ rfl rfl (take_ofW HT_.out HW_.out (by kernel_rfl)) (fun _ _ _ h => h) (Or.inl ⟨by rfl, ?_⟩) hHeld ?_ ?_
                       rotate_left
                       ·rintro w' ⟨s0, s1⟩
                        go_simp
                        with_reducible rfl
                       rotate_left
                       ·simp only [Act.put, e1_, e2_, e3_, i64_w, i32_w]
                        rfl
                       refine pure_ (i := 10) (N := some 165) (v := ?_) (a' := ?_) z97_ rfl rfl (any_of HT_.out (by kernel_rfl)) (fun _ _ _ h => h) (Or.inl ⟨by rfl, ?_⟩) ?_ ?_
                       rotate_left
                       ·intro w'
                        go_simp
                        with_reducible rfl
                       rotate_left
                       ·simp only [Act.put, e1_, e2_, e3_, i64_w, i32_w]
                        rfl
                       refine pure_ (i := 11) (N := some 166) (v := ?_) (a' := ?_) z98_ rfl rfl (any_of HT_.out (by kernel_rfl)) (fun _ _ _ h => h) (Or.inl ⟨by rfl, ?_⟩) ?_ ?_
                       rotate_left
                       ·intro w'
                        go_simp
                        with_reducible rfl
                       rotate_left
                       ·simp only [Act.put, e1_, e2_, e3_, i64_w, i32_w]
                        rfl
                       refine pure_ (i := 12) (N := some 15) (v := ?_) (a' := ?_) z99_ rfl rfl (any_of HT_.out (by kernel_rfl)) (fun _ _ _ h => h) (Or.inl ⟨by rfl, ?_⟩) ?_ ?_
                       rotate_left
                       ·intro w'
                        go_simp
                        with_reducible rfl
                       rotate_left
                       ·simp only [Act.put, e1_, e2_, e3_, i64_w, i32_w]
                        rfl
                       refine done_ (done_of HT_.out (by kernel_rfl)) ?_
                       try go_wp2
                       go_roundg k6
                       case measure => have := HJ3.out; have := HK2.out; have := HJ48.out; have := HK4.out; have := HK5.out; have := HK6.out; omega
                       case rel => exact ⟨(((rd t298 x16_6) == (rd l1 x14_5))), (wrap64 (x16_6 + 1)), (by first | rfl | (simp; done) | (simp [*]; done)), (by first | rfl | (simp; done) | (simp [*]; done)), H', ⟨by have := HJ3.out; have := HK2.out; have := HJ48.out; have := HK4.out; have := HK5.out; have := HK6.out; omega⟩, ⟨by (with_reducible repeat (first | apply a0_ | apply a1_ | apply a2_)); exact HO_11.out⟩, ⟨by (with_reducible repeat (first | apply a0_ | apply a1_ | apply a2_)); exact HO_298001.out⟩, ⟨by (with_reducible repeat (first | apply a0_ | apply a1_ | apply a2_)); exact HO_298002.out⟩, ⟨by (with_reducible repeat (first | apply a0_ | apply a1_ | apply a2_)); exact HO_298003.out⟩, ⟨by (with_reducible repeat (first | apply a0_ | apply a1_ | apply a2_)); exact HO_298004.out⟩, ⟨by (with_reducible repeat (first | refine blk_drewN ?_ _ | refine blk_drew ?_ | refine blk_alloc ?_ _)); exact BK265.out⟩, ⟨by (with_reducible repeat (first | refine blk_drewN ?_ _ | refine blk_drew ?_ | refine blk_alloc ?_ _)); exact BK297.out⟩, ⟨by repeat (first | (with_reducible first | exact HB.out | apply b0_ | apply b1_ | apply b2_ | refine below_set ?_ GE265.out | refine below_set ?_ GE297.out) | exact HB.out)⟩⟩
                      ·rw [if_neg c83] at H
                       exact absurd H (by simp)
                     ·rw [if_neg c82] at H
                      exact absurd H (by simp)
                    ·rw [if_neg c81] at H
                     exact absurd H (by simp)
                  ·rw [if_neg c77] at H
                   have c77b0 : decide (x16_6 < (t298.length : Int)) = false := decide_eq_false c77
                   clear c77
                   by_cases c86 : x15_6 = true
                   ·subst c86
                    have H1 : (spiritlevellaw27_ConstantsGreatest.l2 k6 l1 t266 t298 (wrap64 (x14_5 + 1))) = some r := by rw [if_pos rfl] at H; exact H
                    clear H
                    have H := H1
                    clear H1
                    have H' := M_ H
                    clear H
                    obtain ⟨Ao87, co87, eo87⟩ := Kd.R_slice HO_11.out
                    subst eo87
                    go_wp2
                    go_roundg k6
                    case measure => have := HJ3.out; have := HK2.out; have := HJ48.out; have := HK4.out; have := HK5.out; have := HK6.out; omega
                    case rel => exact ⟨(wrap64 (x14_5 + 1)), (by first | rfl | (simp; done) | (simp [*]; done)), H', ⟨by have := HJ3.out; have := HK2.out; have := HJ48.out; have := HK4.out; have := HK5.out; have := HK6.out; omega⟩, ⟨by (with_reducible repeat (first | apply a0_ | apply a1_ | apply a2_)); exact HO_11.out⟩, ⟨by (with_reducible repeat (first | apply a0_ | apply a1_ | apply a2_)); exact HO_298001.out⟩, ⟨by (with_reducible repeat (first | apply a0_ | apply a1_ | apply a2_)); exact HO_298002.out⟩, ⟨by (with_reducible repeat (first | apply a0_ | apply a1_ | apply a2_)); exact HO_298003.out⟩, ⟨by (with_reducible repeat (first | apply a0_ | apply a1_ | apply a2_)); exact HO_298004.out⟩, ⟨by (with_reducible repeat (first | refine blk_drewN ?_ _ | refine blk_drew ?_ | refine blk_alloc ?_ _)); exact BK265.out⟩, ⟨by (with_reducible repeat (first | refine blk_drewN ?_ _ | refine blk_drew ?_ | refine blk_alloc ?_ _)); exact BK297.out⟩, ⟨by repeat (first | (with_reducible first | exact HB.out | apply b0_ | apply b1_ | apply b2_ | refine below_set ?_ GE265.out | refine below_set ?_ GE297.out) | exact HB.out)⟩⟩
                   ·replace c86 := Bool.eq_false_iff.mpr c86
                    subst c86
                    have H1 : (some false) = some r := by rw [if_neg (show ¬ (false = true) by decide)] at H; exact H
                    clear H
                    have H := H1
                    clear H1
                    exact absurd ((Option.some.inj H).trans HTR_.out) (by decide)
               ·rw [if_neg c76] at H
                have c76b0 : decide (x14_5 < (l1.length : Int)) = false := decide_eq_false c76
                clear c76
                obtain rfl := Option.some.inj H
                go_wp2
                go_ret
                exact ⟨by first | rfl | (simp [errW_none, errW_some] <;> rfl) | (simp [*, errW_none, errW_some] <;> rfl), by repeat (first | (with_reducible first | exact HB.out | apply b0_ | apply b1_ | apply b2_ | refine below_set ?_ GE265.out | refine below_set ?_ GE297.out) | exact HB.out)⟩

/-- THE ONE PURE STATEMENT of spiritlevellaw27_ConstantsGreatest. -/
def spiritlevellaw27_ConstantsGreatest.Pure : Prop := ∀ (a0_0 : Int) (l0_1 : List (S45)) (l0_2 : List (S55)) (l0_3 : List Int) (l0_4 : List Int) (l1 : List Int), ((Lit.int .i64 a0_0).wf = true) → (l0_1.length ≤ 9223372036854775807 ∧ l0_1.length * 16 ≤ 140737488351232 ∧ ∀ x0_ ∈ l0_1, ((Lit.int .i64 x0_.f0).wf = true) ∧ ((Lit.int .i64 x0_.f1).wf = true)) → (l0_2.length ≤ 9223372036854775807 ∧ l0_2.length * 16 ≤ 140737488351232 ∧ ∀ x0_ ∈ l0_2, ((Lit.int .i64 x0_.f0).wf = true) ∧ ((Lit.int .i64 x0_.f1).wf = true)) → (l0_3.length ≤ 9223372036854775807 ∧ l0_3.length * 8 ≤ 140737488351232 ∧ ∀ x0_ ∈ l0_3, (Lit.int .i64 x0_).wf = true) → (l0_4.length ≤ 9223372036854775807 ∧ l0_4.length * 8 ≤ 140737488351232 ∧ ∀ x0_ ∈ l0_4, (Lit.int .i64 x0_).wf = true) → (l1.length ≤ 9223372036854775807 ∧ l1.length * 8 ≤ 140737488351232 ∧ ∀ x0_ ∈ l1, (Lit.int .i64 x0_).wf = true) → ∃ k, spiritlevellaw27_ConstantsGreatest.f k a0_0 l0_1 l0_2 l0_3 l0_4 l1 = some true
theorem spiritlevellaw27_ConstantsGreatest.walk (P : spiritlevellaw27_ConstantsGreatest.Pure) (a0_0 : Int) (A0_1 : Option Addr) (c0_1 : Nat) (l0_1 : List (S45)) (A0_2 : Option Addr) (c0_2 : Nat) (l0_2 : List (S55)) (A0_3 : Option Addr) (c0_3 : Nat) (l0_3 : List Int) (A0_4 : Option Addr) (c0_4 : Nat) (l0_4 : List Int) (A1 : Option Addr) (c1 : Nat) (l1 : List Int) (w : World) (hr0_1 : Kd.C k45 w A0_1 l0_1.length l0_1) (hc0_1 : l0_1.length ≤ c0_1) (hr0_2 : Kd.C k55 w A0_2 l0_2.length l0_2) (hc0_2 : l0_2.length ≤ c0_2) (hr0_3 : Kd.C (Kd.int .i64) w A0_3 l0_3.length l0_3) (hc0_3 : l0_3.length ≤ c0_3) (hr0_4 : Kd.C (Kd.int .i64) w A0_4 l0_4.length l0_4) (hc0_4 : l0_4.length ≤ c0_4) (hr1 : Kd.C (Kd.int .i64) w A1 l1.length l1) (hc1 : l1.length ≤ c1) (ok0_0 : (Lit.int .i64 a0_0).wf = true) (ok0_1 : l0_1.length ≤ 9223372036854775807 ∧ l0_1.length * 16 ≤ 140737488351232 ∧ ∀ x0_ ∈ l0_1, ((Lit.int .i64 x0_.f0).wf = true) ∧ ((Lit.int .i64 x0_.f1).wf = true)) (ok0_2 : l0_2.length ≤ 9223372036854775807 ∧ l0_2.length * 16 ≤ 140737488351232 ∧ ∀ x0_ ∈ l0_2, ((Lit.int .i64 x0_.f0).wf = true) ∧ ((Lit.int .i64 x0_.f1).wf = true)) (ok0_3 : l0_3.length ≤ 9223372036854775807 ∧ l0_3.length * 8 ≤ 140737488351232 ∧ ∀ x0_ ∈ l0_3, (Lit.int .i64 x0_).wf = true) (ok0_4 : l0_4.length ≤ 9223372036854775807 ∧ l0_4.length * 8 ≤ 140737488351232 ∧ ∀ x0_ ∈ l0_4, (Lit.int .i64 x0_).wf = true) (ok1 : l1.length ≤ 9223372036854775807 ∧ l1.length * 8 ≤ 140737488351232 ∧ ∀ x0_ ∈ l1, (Lit.int .i64 x0_).wf = true) :
  Calls Try.prog 6 #[.agg #[.int .i64 a0_0, .slice A0_1 l0_1.length c0_1, .slice A0_2 l0_2.length c0_2, .slice A0_3 l0_3.length c0_3, .slice A0_4 l0_4.length c0_4], .slice A1 l1.length c1] w fun e w' => e = .returned (.bool true) ∧ Below w.heap.size w w' := by
 obtain ⟨k, h⟩ := P a0_0 l0_1 l0_2 l0_3 l0_4 l1 ok0_0 ok0_1 ok0_2 ok0_3 ok0_4 ok1
 refine (spiritlevellaw27_ConstantsGreatest.calls k a0_0 A0_1 c0_1 l0_1 A0_2 c0_2 l0_2 A0_3 c0_3 l0_3 A0_4 c0_4 l0_4 A1 c1 l1 true w hr0_1 hc0_1 hr0_2 hc0_2 hr0_3 hc0_3 hr0_4 hc0_4 hr1 hc1 rfl h).mono ?_
 rintro e w' ⟨rfl, hd⟩
 exact ⟨rfl, hd⟩

end Go.Proofs.Ytlgoniocoifjjaa.QConstantsGreatest
