-- Made by wip/myprint.sh (a patched print): a text of this session's own.
import Derived.Test.YtmcdanpecajklaaQTernsimOncex0
import Derived.Test.YtmcdanpecajklaaQTernsimOncex1
import Derived.Test.YtmcdanpecajklaaQTernsimOncex3
import Derived.Test.YtmcdanpecajklaaQTernsimOncex12
namespace Go.Proofs.Ytmcdanpecajklaa.QTernsimOnce
open Go.RowKit Go.Proofs.YtmcdanpecajklaaW.PrintWords Go.Proofs.YtmcdanpecajklaaW.PrintLast Go.Proofs.YtmcdanpecajklaaW.PrintMore
attribute [local go_sem] max2_int min2_int max_two min_two max_three min_three max_four min_four   -- for this text's walks alone
set_option linter.unusedVariables false
set_option linter.unusedSimpArgs false

/-! ### spiritlevellaw30_TernsimOnce: function 7 -/
mutual
def spiritlevellaw30_TernsimOnce.j0 : Nat → Bool → Bool → Int → List (S36) → List (S69) → List Int → List Int → Option (Bool)
 | 0, _, _, _, _, _, _, _ => none
 | k + 1, x3, x22, x302000, x302001, x302002, x302003, x302004 => if x22 = true then (some x3) else ((ternsim_States.f k x302000 x302001 x302002 x302003 x302004).bind fun bt304 => (if bt304.2 = 0 then (if (bt304.1.length : Int) = 0 then (some false) else (spiritlevellaw30_TernsimOnce.l0 k x3 bt304.1 ([] : List Int) 0 x302000 x302001 x302002 x302003 x302004)) else (if x3 = true then (some ((bt304.1.length : Int) == 0)) else (some false))))
def spiritlevellaw30_TernsimOnce.l0 : Nat → Bool → List (List Int) → List Int → Int → Int → List (S36) → List (S69) → List Int → List Int → Option (Bool)
 | 0, _, _, _, _, _, _, _, _, _ => none
 | k + 1, x3, x4, x6, x7, x302000, x302001, x302002, x302003, x302004 => if x7 < x302000 then (if x6.length < 140737488355328 then (spiritlevellaw30_TernsimOnce.l0 k x3 x4 (x6 ++ [2]) (wrap64 (x7 + 1)) x302000 x302001 x302002 x302003 x302004) else (none)) else ((ternary_First.f k x302000 x302001 x302002 x302003 x302004).bind fun bt311 => (if bt311.2 = 0 then (if 0 < (x4.length : Int) then ((spiritlevelref05_Same.f k bt311.1 (rd_L4 x4 0)).bind fun t316 => (spiritlevellaw30_TernsimOnce.j2 k x3 x4 x6 (!t316) x302000 x302001 x302002 x302003 x302004)) else (none)) else (spiritlevellaw30_TernsimOnce.j2 k x3 x4 x6 true x302000 x302001 x302002 x302003 x302004)))
def spiritlevellaw30_TernsimOnce.j2 : Nat → Bool → List (List Int) → List Int → Bool → Int → List (S36) → List (S69) → List Int → List Int → Option (Bool)
 | 0, _, _, _, _, _, _, _, _, _ => none
 | k + 1, x3, x4, x6, x63, x302000, x302001, x302002, x302003, x302004 => if x63 = true then (some false) else (spiritlevellaw30_TernsimOnce.l1 k x3 x4 x6 0 x302000 x302001 x302002 x302003 x302004)
def spiritlevellaw30_TernsimOnce.l1 : Nat → Bool → List (List Int) → List Int → Int → Int → List (S36) → List (S69) → List Int → List Int → Option (Bool)
 | 0, _, _, _, _, _, _, _, _, _ => none
 | k + 1, x3, x4, x6, x10, x302000, x302001, x302002, x302003, x302004 => if x10 < (x4.length : Int) then (spiritlevellaw30_TernsimOnce.l2 k x3 x4 x6 x10 0 x302000 x302001 x302002 x302003 x302004) else (some x3)
def spiritlevellaw30_TernsimOnce.l2 : Nat → Bool → List (List Int) → List Int → Int → Int → Int → List (S36) → List (S69) → List Int → List Int → Option (Bool)
 | 0, _, _, _, _, _, _, _, _, _, _ => none
 | k + 1, x3, x4, x6, x10, x11, x302000, x302001, x302002, x302003, x302004 => if x11 < x10 then (if 0 ≤ x10 then (if x10 < (x4.length : Int) then (if 0 ≤ x11 then (if x11 < (x4.length : Int) then ((spiritlevelref05_Same.f k (rd_L4 x4 x10) (rd_L4 x4 x11)).bind fun t319 => (if t319 = true then (some false) else (spiritlevellaw30_TernsimOnce.l2 k x3 x4 x6 x10 (wrap64 (x11 + 1)) x302000 x302001 x302002 x302003 x302004))) else (none)) else (none)) else (none)) else (none)) else (if 0 ≤ x10 then (if x10 < (x4.length : Int) then ((ternary_Next.f k x302000 x302001 x302002 x302003 x302004 (rd_L4 x4 x10) x6).bind fun bt321 => (if bt321.2 = 0 then (spiritlevellaw30_TernsimOnce.l3 k x3 x4 x6 x10 bt321.1 false 0 x302000 x302001 x302002 x302003 x302004) else (some false))) else (none)) else (none))
def spiritlevellaw30_TernsimOnce.l3 : Nat → Bool → List (List Int) → List Int → Int → List Int → Bool → Int → Int → List (S36) → List (S69) → List Int → List Int → Option (Bool)
 | 0, _, _, _, _, _, _, _, _, _, _, _, _ => none
 | k + 1, x3, x4, x6, x10, x12, x14, x15, x302000, x302001, x302002, x302003, x302004 => if x15 < (x4.length : Int) then (if x14 = true then (spiritlevellaw30_TernsimOnce.l3 k x3 x4 x6 x10 x12 true (wrap64 (x15 + 1)) x302000 x302001 x302002 x302003 x302004) else (if 0 ≤ x15 then ((spiritlevelref05_Same.f k x12 (rd_L4 x4 x15)).bind fun t326 => (spiritlevellaw30_TernsimOnce.l3 k x3 x4 x6 x10 x12 t326 (wrap64 (x15 + 1)) x302000 x302001 x302002 x302003 x302004)) else (none))) else (if (wrap64 (x10 + 1)) < (x4.length : Int) then (if 0 ≤ (wrap64 (x10 + 1)) then ((spiritlevelref05_Same.f k x12 (rd_L4 x4 (wrap64 (x10 + 1)))).bind fun t328 => (if t328 = true then (if x14 = true then (spiritlevellaw30_TernsimOnce.l1 k x3 x4 x6 (wrap64 (x10 + 1)) x302000 x302001 x302002 x302003 x302004) else (some false)) else (some false))) else (none)) else (if x14 = true then (spiritlevellaw30_TernsimOnce.l1 k x3 x4 x6 (wrap64 (x10 + 1)) x302000 x302001 x302002 x302003 x302004) else (some false)))
end
def spiritlevellaw30_TernsimOnce.f (k : Nat) (a0_0 : Int) (l0_1 : List (S36)) (l0_2 : List (S69)) (l0_3 : List Int) (l0_4 : List Int) : Option (Bool) := (spiritlevellaw30_alive.f k).bind fun t302 => ((spiritlevelref02_Great.f a0_0 l0_1 l0_2 l0_3 l0_4).bind fun t303 => (if t303 = true then (spiritlevellaw30_TernsimOnce.j0 k t302 true a0_0 l0_1 l0_2 l0_3 l0_4) else (spiritlevellaw30_TernsimOnce.j0 k t302 (!t302) a0_0 l0_1 l0_2 l0_3 l0_4)))
theorem spiritlevellaw30_TernsimOnce.mono_l : ∀ k, (∀ y0 y1 y2 y3 y4 y5 y6, LeO (spiritlevellaw30_TernsimOnce.j0 k y0 y1 y2 y3 y4 y5 y6) (spiritlevellaw30_TernsimOnce.j0 (k + 1) y0 y1 y2 y3 y4 y5 y6)) ∧ (∀ y0 y1 y2 y3 y4 y5 y6 y7 y8, LeO (spiritlevellaw30_TernsimOnce.l0 k y0 y1 y2 y3 y4 y5 y6 y7 y8) (spiritlevellaw30_TernsimOnce.l0 (k + 1) y0 y1 y2 y3 y4 y5 y6 y7 y8)) ∧ (∀ y0 y1 y2 y3 y4 y5 y6 y7 y8, LeO (spiritlevellaw30_TernsimOnce.j2 k y0 y1 y2 y3 y4 y5 y6 y7 y8) (spiritlevellaw30_TernsimOnce.j2 (k + 1) y0 y1 y2 y3 y4 y5 y6 y7 y8)) ∧ (∀ y0 y1 y2 y3 y4 y5 y6 y7 y8, LeO (spiritlevellaw30_TernsimOnce.l1 k y0 y1 y2 y3 y4 y5 y6 y7 y8) (spiritlevellaw30_TernsimOnce.l1 (k + 1) y0 y1 y2 y3 y4 y5 y6 y7 y8)) ∧ (∀ y0 y1 y2 y3 y4 y5 y6 y7 y8 y9, LeO (spiritlevellaw30_TernsimOnce.l2 k y0 y1 y2 y3 y4 y5 y6 y7 y8 y9) (spiritlevellaw30_TernsimOnce.l2 (k + 1) y0 y1 y2 y3 y4 y5 y6 y7 y8 y9)) ∧ (∀ y0 y1 y2 y3 y4 y5 y6 y7 y8 y9 y10 y11, LeO (spiritlevellaw30_TernsimOnce.l3 k y0 y1 y2 y3 y4 y5 y6 y7 y8 y9 y10 y11) (spiritlevellaw30_TernsimOnce.l3 (k + 1) y0 y1 y2 y3 y4 y5 y6 y7 y8 y9 y10 y11))
 | 0 => ⟨fun _ _ _ _ _ _ _ r h => by simp [spiritlevellaw30_TernsimOnce.j0] at h, fun _ _ _ _ _ _ _ _ _ r h => by simp [spiritlevellaw30_TernsimOnce.l0] at h, fun _ _ _ _ _ _ _ _ _ r h => by simp [spiritlevellaw30_TernsimOnce.j2] at h, fun _ _ _ _ _ _ _ _ _ r h => by simp [spiritlevellaw30_TernsimOnce.l1] at h, fun _ _ _ _ _ _ _ _ _ _ r h => by simp [spiritlevellaw30_TernsimOnce.l2] at h, fun _ _ _ _ _ _ _ _ _ _ _ _ r h => by simp [spiritlevellaw30_TernsimOnce.l3] at h⟩
 | k + 1 => by
  obtain ⟨ih0, ih1, ih2, ih3, ih4, ih5⟩ := spiritlevellaw30_TernsimOnce.mono_l k
  refine ⟨?_, ?_, ?_, ?_, ?_, ?_⟩
  ·intro y0 y1 y2 y3 y4 y5 y6
   unfold spiritlevellaw30_TernsimOnce.j0
   repeat' first
   | (with_reducible exact ih0 _ _ _ _ _ _ _)
   | (with_reducible exact ih1 _ _ _ _ _ _ _ _ _)
   | (with_reducible exact ih2 _ _ _ _ _ _ _ _ _)
   | (with_reducible exact ih3 _ _ _ _ _ _ _ _ _)
   | (with_reducible exact ih4 _ _ _ _ _ _ _ _ _ _)
   | (with_reducible exact ih5 _ _ _ _ _ _ _ _ _ _ _ _)
   | (with_reducible exact spiritlevellaw30_alive.mono _)
   | (with_reducible exact spiritlevelref05_Same.mono _ _ _)
   | (with_reducible exact ternary_First.mono _ _ _ _ _ _)
   | (with_reducible exact ternary_Next.mono _ _ _ _ _ _ _ _)
   | (with_reducible exact ternsim_States.mono _ _ _ _ _ _)
   | (with_reducible exact LeO.refl _)
   | (with_reducible exact LeO.none _)
   | (with_reducible refine LeO.ite ?_ ?_)
   | (with_reducible refine LeO.bind ?_ (fun _ => ?_))
   | exact ih0 _ _ _ _ _ _ _
   | exact ih1 _ _ _ _ _ _ _ _ _
   | exact ih2 _ _ _ _ _ _ _ _ _
   | exact ih3 _ _ _ _ _ _ _ _ _
   | exact ih4 _ _ _ _ _ _ _ _ _ _
   | exact ih5 _ _ _ _ _ _ _ _ _ _ _ _
   | exact spiritlevellaw30_alive.mono _
   | exact spiritlevelref05_Same.mono _ _ _
   | exact ternary_First.mono _ _ _ _ _ _
   | exact ternary_Next.mono _ _ _ _ _ _ _ _
   | exact ternsim_States.mono _ _ _ _ _ _
   | exact LeO.none _
   | refine LeO.ite ?_ ?_
   | refine LeO.bind ?_ (fun _ => ?_)
  ·intro y0 y1 y2 y3 y4 y5 y6 y7 y8
   unfold spiritlevellaw30_TernsimOnce.l0
   repeat' first
   | (with_reducible exact ih0 _ _ _ _ _ _ _)
   | (with_reducible exact ih1 _ _ _ _ _ _ _ _ _)
   | (with_reducible exact ih2 _ _ _ _ _ _ _ _ _)
   | (with_reducible exact ih3 _ _ _ _ _ _ _ _ _)
   | (with_reducible exact ih4 _ _ _ _ _ _ _ _ _ _)
   | (with_reducible exact ih5 _ _ _ _ _ _ _ _ _ _ _ _)
   | (with_reducible exact spiritlevellaw30_alive.mono _)
   | (with_reducible exact spiritlevelref05_Same.mono _ _ _)
   | (with_reducible exact ternary_First.mono _ _ _ _ _ _)
   | (with_reducible exact ternary_Next.mono _ _ _ _ _ _ _ _)
   | (with_reducible exact ternsim_States.mono _ _ _ _ _ _)
   | (with_reducible exact LeO.refl _)
   | (with_reducible exact LeO.none _)
   | (with_reducible refine LeO.ite ?_ ?_)
   | (with_reducible refine LeO.bind ?_ (fun _ => ?_))
   | exact ih0 _ _ _ _ _ _ _
   | exact ih1 _ _ _ _ _ _ _ _ _
   | exact ih2 _ _ _ _ _ _ _ _ _
   | exact ih3 _ _ _ _ _ _ _ _ _
   | exact ih4 _ _ _ _ _ _ _ _ _ _
   | exact ih5 _ _ _ _ _ _ _ _ _ _ _ _
   | exact spiritlevellaw30_alive.mono _
   | exact spiritlevelref05_Same.mono _ _ _
   | exact ternary_First.mono _ _ _ _ _ _
   | exact ternary_Next.mono _ _ _ _ _ _ _ _
   | exact ternsim_States.mono _ _ _ _ _ _
   | exact LeO.none _
   | refine LeO.ite ?_ ?_
   | refine LeO.bind ?_ (fun _ => ?_)
  ·intro y0 y1 y2 y3 y4 y5 y6 y7 y8
   unfold spiritlevellaw30_TernsimOnce.j2
   repeat' first
   | (with_reducible exact ih0 _ _ _ _ _ _ _)
   | (with_reducible exact ih1 _ _ _ _ _ _ _ _ _)
   | (with_reducible exact ih2 _ _ _ _ _ _ _ _ _)
   | (with_reducible exact ih3 _ _ _ _ _ _ _ _ _)
   | (with_reducible exact ih4 _ _ _ _ _ _ _ _ _ _)
   | (with_reducible exact ih5 _ _ _ _ _ _ _ _ _ _ _ _)
   | (with_reducible exact spiritlevellaw30_alive.mono _)
   | (with_reducible exact spiritlevelref05_Same.mono _ _ _)
   | (with_reducible exact ternary_First.mono _ _ _ _ _ _)
   | (with_reducible exact ternary_Next.mono _ _ _ _ _ _ _ _)
   | (with_reducible exact ternsim_States.mono _ _ _ _ _ _)
   | (with_reducible exact LeO.refl _)
   | (with_reducible exact LeO.none _)
   | (with_reducible refine LeO.ite ?_ ?_)
   | (with_reducible refine LeO.bind ?_ (fun _ => ?_))
   | exact ih0 _ _ _ _ _ _ _
   | exact ih1 _ _ _ _ _ _ _ _ _
   | exact ih2 _ _ _ _ _ _ _ _ _
   | exact ih3 _ _ _ _ _ _ _ _ _
   | exact ih4 _ _ _ _ _ _ _ _ _ _
   | exact ih5 _ _ _ _ _ _ _ _ _ _ _ _
   | exact spiritlevellaw30_alive.mono _
   | exact spiritlevelref05_Same.mono _ _ _
   | exact ternary_First.mono _ _ _ _ _ _
   | exact ternary_Next.mono _ _ _ _ _ _ _ _
   | exact ternsim_States.mono _ _ _ _ _ _
   | exact LeO.none _
   | refine LeO.ite ?_ ?_
   | refine LeO.bind ?_ (fun _ => ?_)
  ·intro y0 y1 y2 y3 y4 y5 y6 y7 y8
   unfold spiritlevellaw30_TernsimOnce.l1
   repeat' first
   | (with_reducible exact ih0 _ _ _ _ _ _ _)
   | (with_reducible exact ih1 _ _ _ _ _ _ _ _ _)
   | (with_reducible exact ih2 _ _ _ _ _ _ _ _ _)
   | (with_reducible exact ih3 _ _ _ _ _ _ _ _ _)
   | (with_reducible exact ih4 _ _ _ _ _ _ _ _ _ _)
   | (with_reducible exact ih5 _ _ _ _ _ _ _ _ _ _ _ _)
   | (with_reducible exact spiritlevellaw30_alive.mono _)
   | (with_reducible exact spiritlevelref05_Same.mono _ _ _)
   | (with_reducible exact ternary_First.mono _ _ _ _ _ _)
   | (with_reducible exact ternary_Next.mono _ _ _ _ _ _ _ _)
   | (with_reducible exact ternsim_States.mono _ _ _ _ _ _)
   | (with_reducible exact LeO.refl _)
   | (with_reducible exact LeO.none _)
   | (with_reducible refine LeO.ite ?_ ?_)
   | (with_reducible refine LeO.bind ?_ (fun _ => ?_))
   | exact ih0 _ _ _ _ _ _ _
   | exact ih1 _ _ _ _ _ _ _ _ _
   | exact ih2 _ _ _ _ _ _ _ _ _
   | exact ih3 _ _ _ _ _ _ _ _ _
   | exact ih4 _ _ _ _ _ _ _ _ _ _
   | exact ih5 _ _ _ _ _ _ _ _ _ _ _ _
   | exact spiritlevellaw30_alive.mono _
   | exact spiritlevelref05_Same.mono _ _ _
   | exact ternary_First.mono _ _ _ _ _ _
   | exact ternary_Next.mono _ _ _ _ _ _ _ _
   | exact ternsim_States.mono _ _ _ _ _ _
   | exact LeO.none _
   | refine LeO.ite ?_ ?_
   | refine LeO.bind ?_ (fun _ => ?_)
  ·intro y0 y1 y2 y3 y4 y5 y6 y7 y8 y9
   unfold spiritlevellaw30_TernsimOnce.l2
   repeat' first
   | (with_reducible exact ih0 _ _ _ _ _ _ _)
   | (with_reducible exact ih1 _ _ _ _ _ _ _ _ _)
   | (with_reducible exact ih2 _ _ _ _ _ _ _ _ _)
   | (with_reducible exact ih3 _ _ _ _ _ _ _ _ _)
   | (with_reducible exact ih4 _ _ _ _ _ _ _ _ _ _)
   | (with_reducible exact ih5 _ _ _ _ _ _ _ _ _ _ _ _)
   | (with_reducible exact spiritlevellaw30_alive.mono _)
   | (with_reducible exact spiritlevelref05_Same.mono _ _ _)
   | (with_reducible exact ternary_First.mono _ _ _ _ _ _)
   | (with_reducible exact ternary_Next.mono _ _ _ _ _ _ _ _)
   | (with_reducible exact ternsim_States.mono _ _ _ _ _ _)
   | (with_reducible exact LeO.refl _)
   | (with_reducible exact LeO.none _)
   | (with_reducible refine LeO.ite ?_ ?_)
   | (with_reducible refine LeO.bind ?_ (fun _ => ?_))
   | exact ih0 _ _ _ _ _ _ _
   | exact ih1 _ _ _ _ _ _ _ _ _
   | exact ih2 _ _ _ _ _ _ _ _ _
   | exact ih3 _ _ _ _ _ _ _ _ _
   | exact ih4 _ _ _ _ _ _ _ _ _ _
   | exact ih5 _ _ _ _ _ _ _ _ _ _ _ _
   | exact spiritlevellaw30_alive.mono _
   | exact spiritlevelref05_Same.mono _ _ _
   | exact ternary_First.mono _ _ _ _ _ _
   | exact ternary_Next.mono _ _ _ _ _ _ _ _
   | exact ternsim_States.mono _ _ _ _ _ _
   | exact LeO.none _
   | refine LeO.ite ?_ ?_
   | refine LeO.bind ?_ (fun _ => ?_)
  ·intro y0 y1 y2 y3 y4 y5 y6 y7 y8 y9 y10 y11
   unfold spiritlevellaw30_TernsimOnce.l3
   repeat' first
   | (with_reducible exact ih0 _ _ _ _ _ _ _)
   | (with_reducible exact ih1 _ _ _ _ _ _ _ _ _)
   | (with_reducible exact ih2 _ _ _ _ _ _ _ _ _)
   | (with_reducible exact ih3 _ _ _ _ _ _ _ _ _)
   | (with_reducible exact ih4 _ _ _ _ _ _ _ _ _ _)
   | (with_reducible exact ih5 _ _ _ _ _ _ _ _ _ _ _ _)
   | (with_reducible exact spiritlevellaw30_alive.mono _)
   | (with_reducible exact spiritlevelref05_Same.mono _ _ _)
   | (with_reducible exact ternary_First.mono _ _ _ _ _ _)
   | (with_reducible exact ternary_Next.mono _ _ _ _ _ _ _ _)
   | (with_reducible exact ternsim_States.mono _ _ _ _ _ _)
   | (with_reducible exact LeO.refl _)
   | (with_reducible exact LeO.none _)
   | (with_reducible refine LeO.ite ?_ ?_)
   | (with_reducible refine LeO.bind ?_ (fun _ => ?_))
   | exact ih0 _ _ _ _ _ _ _
   | exact ih1 _ _ _ _ _ _ _ _ _
   | exact ih2 _ _ _ _ _ _ _ _ _
   | exact ih3 _ _ _ _ _ _ _ _ _
   | exact ih4 _ _ _ _ _ _ _ _ _ _
   | exact ih5 _ _ _ _ _ _ _ _ _ _ _ _
   | exact spiritlevellaw30_alive.mono _
   | exact spiritlevelref05_Same.mono _ _ _
   | exact ternary_First.mono _ _ _ _ _ _
   | exact ternary_Next.mono _ _ _ _ _ _ _ _
   | exact ternsim_States.mono _ _ _ _ _ _
   | exact LeO.none _
   | refine LeO.ite ?_ ?_
   | refine LeO.bind ?_ (fun _ => ?_)
theorem spiritlevellaw30_TernsimOnce.mono : ∀ a0 a1 a2 a3 a4 k, LeO (spiritlevellaw30_TernsimOnce.f k a0 a1 a2 a3 a4) (spiritlevellaw30_TernsimOnce.f (k + 1) a0 a1 a2 a3 a4) := by
 intro a0 a1 a2 a3 a4 k
 obtain ⟨ih0, ih1, ih2, ih3, ih4, ih5⟩ := spiritlevellaw30_TernsimOnce.mono_l k
 unfold spiritlevellaw30_TernsimOnce.f
 repeat' first
   | (with_reducible exact ih0 _ _ _ _ _ _ _)
   | (with_reducible exact ih1 _ _ _ _ _ _ _ _ _)
   | (with_reducible exact ih2 _ _ _ _ _ _ _ _ _)
   | (with_reducible exact ih3 _ _ _ _ _ _ _ _ _)
   | (with_reducible exact ih4 _ _ _ _ _ _ _ _ _ _)
   | (with_reducible exact ih5 _ _ _ _ _ _ _ _ _ _ _ _)
   | (with_reducible exact spiritlevellaw30_alive.mono _)
   | (with_reducible exact spiritlevelref05_Same.mono _ _ _)
   | (with_reducible exact ternary_First.mono _ _ _ _ _ _)
   | (with_reducible exact ternary_Next.mono _ _ _ _ _ _ _ _)
   | (with_reducible exact ternsim_States.mono _ _ _ _ _ _)
   | (with_reducible exact LeO.refl _)
   | (with_reducible exact LeO.none _)
   | (with_reducible refine LeO.ite ?_ ?_)
   | (with_reducible refine LeO.bind ?_ (fun _ => ?_))
   | exact ih0 _ _ _ _ _ _ _
   | exact ih1 _ _ _ _ _ _ _ _ _
   | exact ih2 _ _ _ _ _ _ _ _ _
   | exact ih3 _ _ _ _ _ _ _ _ _
   | exact ih4 _ _ _ _ _ _ _ _ _ _
   | exact ih5 _ _ _ _ _ _ _ _ _ _ _ _
   | exact spiritlevellaw30_alive.mono _
   | exact spiritlevelref05_Same.mono _ _ _
   | exact ternary_First.mono _ _ _ _ _ _
   | exact ternary_Next.mono _ _ _ _ _ _ _ _
   | exact ternsim_States.mono _ _ _ _ _ _
   | exact LeO.none _
   | refine LeO.ite ?_ ?_
   | refine LeO.bind ?_ (fun _ => ?_)
def spiritlevellaw30_TernsimOnce.T23 : Bool × List (List Nat × List Nat) := (true, [([], []), ([], []), ([0, 1], [0, 1]), ([2], [2]), ([], []), ([], []), ([4, 5], [4, 5]), ([6], [6]), ([3, 7], [3, 7])])
def spiritlevellaw30_TernsimOnce.B23 : List Nat := [0, 0, 3, 7, 0, 0, 48, 112, 255]
theorem spiritlevellaw30_TernsimOnce.tab23 : rtab .any (opsOf Try.f7 23) = spiritlevellaw30_TernsimOnce.T23 := by kernel_rfl
theorem spiritlevellaw30_TernsimOnce.bits23 : waitsOk spiritlevellaw30_TernsimOnce.T23.2 spiritlevellaw30_TernsimOnce.B23 = true := by kernel_rfl
def spiritlevellaw30_TernsimOnce.T25 : Bool × List (List Nat × List Nat) := (true, [([], []), ([], []), ([], []), ([1, 2], [1, 2]), ([3], [3]), ([], []), ([0, 4, 5], [0, 4, 5]), ([6], [6]), ([7], [7]), ([7], [7]), ([8, 6, 0, 1, 2, 3, 4, 5, 6, 7, 8], [8]), ([9, 10, 0, 1, 2, 3, 4, 5, 6, 7, 8, 9, 10], [9])])
def spiritlevellaw30_TernsimOnce.B25 : List Nat := [0, 0, 0, 6, 14, 0, 63, 127, 255, 255, 511, 2047]
theorem spiritlevellaw30_TernsimOnce.tab25 : rtab .any (opsOf Try.f7 25) = spiritlevellaw30_TernsimOnce.T25 := by kernel_rfl
theorem spiritlevellaw30_TernsimOnce.bits25 : waitsOk spiritlevellaw30_TernsimOnce.T25.2 spiritlevellaw30_TernsimOnce.B25 = true := by kernel_rfl
set_option maxHeartbeats 8000000 in
set_option maxRecDepth 100000 in
theorem spiritlevellaw30_TernsimOnce.calls (k : Nat) (a0_0 : Int) (A0_1 : Option Addr) (c0_1 : Nat) (l0_1 : List (S36)) (A0_2 : Option Addr) (c0_2 : Nat) (l0_2 : List (S69)) (A0_3 : Option Addr) (c0_3 : Nat) (l0_3 : List Int) (A0_4 : Option Addr) (c0_4 : Nat) (l0_4 : List Int) (r : Bool) (w : World) (hr0_1 : Kd.C k36 w A0_1 l0_1.length l0_1) (hc0_1 : l0_1.length ≤ c0_1) (hr0_2 : Kd.C k69 w A0_2 l0_2.length l0_2) (hc0_2 : l0_2.length ≤ c0_2) (hr0_3 : Kd.C (Kd.int .i64) w A0_3 l0_3.length l0_3) (hc0_3 : l0_3.length ≤ c0_3) (hr0_4 : Kd.C (Kd.int .i64) w A0_4 l0_4.length l0_4) (hc0_4 : l0_4.length ≤ c0_4) (ht_ : r = true) (h : spiritlevellaw30_TernsimOnce.f k a0_0 l0_1 l0_2 l0_3 l0_4 = some r) :
  Calls Try.prog 7 #[.agg #[.int .i64 a0_0, .slice A0_1 l0_1.length c0_1, .slice A0_2 l0_2.length c0_2, .slice A0_3 l0_3.length c0_3, .slice A0_4 l0_4.length c0_4]] w fun e w' => e = .returned (.bool r) ∧ Below w.heap.size w w' := by
 have HTR_ := M_ ht_
 clear ht_
 have hu26 := Try.underlying26
 have HR0_1 := M_ hr0_1
 have HC0_1 := M_ hc0_1
 clear hr0_1 hc0_1
 have HR0_2 := M_ hr0_2
 have HC0_2 := M_ hc0_2
 clear hr0_2 hc0_2
 have HR0_3 := M_ hr0_3
 have HC0_3 := M_ hc0_3
 clear hr0_3 hc0_3
 have HR0_4 := M_ hr0_4
 have HC0_4 := M_ hc0_4
 clear hr0_4 hc0_4
 have HB := M_ (Below.refl w.heap.size w)
 have H : ((spiritlevellaw30_alive.f k).bind fun t302 => ((spiritlevelref02_Great.f a0_0 l0_1 l0_2 l0_3 l0_4).bind fun t303 => (if t303 = true then (spiritlevellaw30_TernsimOnce.j0 k t302 true a0_0 l0_1 l0_2 l0_3 l0_4) else (spiritlevellaw30_TernsimOnce.j0 k t302 (!t302) a0_0 l0_1 l0_2 l0_3 l0_4)))) = some r := h
 clear h
 replace H := Option.bind_eq_some_iff.mp H
 obtain ⟨t302, A20, H⟩ := H
 replace H : ((spiritlevelref02_Great.f a0_0 l0_1 l0_2 l0_3 l0_4).bind fun t303 => (if t303 = true then (spiritlevellaw30_TernsimOnce.j0 k t302 true a0_0 l0_1 l0_2 l0_3 l0_4) else (spiritlevellaw30_TernsimOnce.j0 k t302 (!t302) a0_0 l0_1 l0_2 l0_3 l0_4))) = some r := H
 have A2 := M_ A20
 clear A20
 have HC3 := M_ H
 clear H
 go_enter Try.func7, Try.ntmps7
 go_upto_region 2 with (first | ((with_reducible refine gate_dst (N := 1) rfl ?_); (try (refine gate_guard (by rfl) ?_; dsimp only)); refine box_event ?hg (N := 1) ?hd (cs := #[.int .i64 a0_0, .slice A0_1 l0_1.length c0_1, .slice A0_2 l0_2.length c0_2, .slice A0_3 l0_3.length c0_3, .slice A0_4 l0_4.length c0_4]) (t := 26) ?hr ?_; (case hd => rfl); (case hg => rfl); (case hr => first | (go_simp; done) | (go_simp; rfl)); intro gb301 hg w4 hbox hb; have n0_ := M_ (below_step (by repeat (first | (with_reducible first | exact HB.out | apply b0_ | apply b1_ | apply b2_) | exact HB.out)) hb); have n1_ := M_ (hbox); have n2_ := M_ ((by rw [hg]; exact (below_size (by repeat (first | (with_reducible first | exact HB.out | apply b0_ | apply b1_ | apply b2_) | exact HB.out))) : w.heap.size ≤ gb301)); have n3_ := M_ ((by rw [hg]; exact (below_size (by repeat (first | (with_reducible first | exact HB.out | apply b0_ | apply b1_ | apply b2_) | exact HB.out))) : w.heap.size ≤ gb301)); clear HB; have HB := n0_; have BK301 := n1_; have GW301 := n2_; have GE301 := n3_; clear n0_ n1_ n2_ n3_; clear hb hbox hg) | ((with_reducible refine gate_callee (f := 9) rfl ?_); refine goesL_ (some 16) rfl rfl Try.func9 (by kernel_rfl) rfl #[] rfl (by (try simp only [List.map_toArray, List.map_cons, List.map_nil]); first | done | rfl | (simp only [List.length_drop, List.length_take]; rfl)) ?_; (with_reducible refine (spiritlevellaw30_alive.calls k  t302 _ A2.out).mono ?_); rintro e w5 ⟨rfl, hb⟩; refine ⟨_, rfl, ?_⟩; have n0_ := M_ (blk_below (g := gb301) (o := .cells #[.int .i64 a0_0, .slice A0_1 l0_1.length c0_1, .slice A0_2 l0_2.length c0_2, .slice A0_3 l0_3.length c0_3, .slice A0_4 l0_4.length c0_4] 26 (0, 0)) (by (with_reducible repeat (first | refine blk_drewN ?_ _ | refine blk_drew ?_ | refine blk_alloc ?_ _)); exact BK301.out) hb); have n1_ := M_ (below_step (by repeat (first | (with_reducible first | exact HB.out | apply b0_ | apply b1_ | apply b2_ | refine below_set ?_ GE301.out) | exact HB.out)) hb); clear BK301; clear HB; have BK301 := n0_; have HB := n1_; clear n0_ n1_; (try clear hb); (try clear hb2); (try clear hk); (try clear hi)))
 (try simp only [Act.put, e1_, e2_, e3_])
 go_cut [22] (fun v22 wc => ∃ (kq : Nat) (x22_2 : Bool), v22 = .bool x22_2 ∧ Aside0 (spiritlevellaw30_TernsimOnce.j0 kq t302 x22_2 a0_0 l0_1 l0_2 l0_3 l0_4 = some r) ∧ Aside0 (kq ≤ k) ∧ Aside0 (wc.heap[gb301]? = some (.cells #[.int .i64 a0_0, (.slice A0_1 l0_1.length c0_1), (.slice A0_2 l0_2.length c0_2), (.slice A0_3 l0_3.length c0_3), (.slice A0_4 l0_4.length c0_4)] 26 (0, 0))) ∧ Aside0 (Below w.heap.size w wc))
 case first =>
  have H := HC3.out
  clear HC3
  replace H := Option.bind_eq_some_iff.mp H
  obtain ⟨t303, A60, H⟩ := H
  replace H : (if t303 = true then (spiritlevellaw30_TernsimOnce.j0 k t302 true a0_0 l0_1 l0_2 l0_3 l0_4) else (spiritlevellaw30_TernsimOnce.j0 k t302 (!t302) a0_0 l0_1 l0_2 l0_3 l0_4)) = some r := H
  have A6 := M_ A60
  clear A60
  by_cases c7 : t303 = true
  ·subst c7
   have H1 : (spiritlevellaw30_TernsimOnce.j0 k t302 true a0_0 l0_1 l0_2 l0_3 l0_4) = some r := by rw [if_pos rfl] at H; exact H
   clear H
   have H := H1
   clear H1
   have H' := M_ H
   clear H
   have hcz8_0 : w5.cell? ⟨gb301, 0, none⟩ = some (.int .i64 a0_0) := (blk_cell BK301.out 0).trans rfl
   have hcz8_1 : w5.cell? ⟨gb301, 1, none⟩ = some (.slice A0_1 l0_1.length c0_1) := (blk_cell BK301.out 1).trans rfl
   have hcz8_2 : w5.cell? ⟨gb301, 2, none⟩ = some (.slice A0_2 l0_2.length c0_2) := (blk_cell BK301.out 2).trans rfl
   have hcz8_3 : w5.cell? ⟨gb301, 3, none⟩ = some (.slice A0_3 l0_3.length c0_3) := (blk_cell BK301.out 3).trans rfl
   have hcz8_4 : w5.cell? ⟨gb301, 4, none⟩ = some (.slice A0_4 l0_4.length c0_4) := (blk_cell BK301.out 4).trans rfl
   have hfz8_0 := blk_frozen BK301.out 0
   have hfz8_1 := blk_frozen BK301.out 1
   have hfz8_2 := blk_frozen BK301.out 2
   have hfz8_3 := blk_frozen BK301.out 3
   have hfz8_4 := blk_frozen BK301.out 4
   go_wp2_with (first | ((with_reducible refine gate_callee (f := 10) rfl ?_); refine goesL_ (some 18) rfl rfl Try.func10 (by kernel_rfl) rfl #[.agg #[.int .i64 a0_0, .slice A0_1 l0_1.length c0_1, .slice A0_2 l0_2.length c0_2, .slice A0_3 l0_3.length c0_3, .slice A0_4 l0_4.length c0_4]] rfl (by (try simp only [List.map_toArray, List.map_cons, List.map_nil]); first | done | rfl | (simp only [List.length_drop, List.length_take]; rfl)) ?_; (with_reducible refine (spiritlevelref02_Great.calls a0_0 _ _ l0_1 _ _ l0_2 _ _ l0_3 _ _ l0_4 true _ ?side1 ?side2 ?side3 ?side4 ?side5 ?side6 ?side7 ?side8 A6.out).mono ?_); (case side1 => repeat (first | exact (Kd.C_below HR0_1.out HB.out) | (with_reducible refine c0_ ?_ _) | (with_reducible refine c1_ ?_ _) | (with_reducible refine c2_ ?_))); (case side2 => exact HC0_1.out); (case side3 => repeat (first | exact (Kd.C_below HR0_2.out HB.out) | (with_reducible refine c0_ ?_ _) | (with_reducible refine c1_ ?_ _) | (with_reducible refine c2_ ?_))); (case side4 => exact HC0_2.out); (case side5 => repeat (first | exact (Kd.C_below HR0_3.out HB.out) | (with_reducible refine c0_ ?_ _) | (with_reducible refine c1_ ?_ _) | (with_reducible refine c2_ ?_))); (case side6 => exact HC0_3.out); (case side7 => repeat (first | exact (Kd.C_below HR0_4.out HB.out) | (with_reducible refine c0_ ?_ _) | (with_reducible refine c1_ ?_ _) | (with_reducible refine c2_ ?_))); (case side8 => exact HC0_4.out); rintro e w9 ⟨rfl, hb⟩; refine ⟨_, rfl, ?_⟩; have n0_ := M_ (blk_below (g := gb301) (o := .cells #[.int .i64 a0_0, .slice A0_1 l0_1.length c0_1, .slice A0_2 l0_2.length c0_2, .slice A0_3 l0_3.length c0_3, .slice A0_4 l0_4.length c0_4] 26 (0, 0)) (by (with_reducible repeat (first | refine blk_drewN ?_ _ | refine blk_drew ?_ | refine blk_alloc ?_ _)); exact BK301.out) hb); have n1_ := M_ (below_step (by repeat (first | (with_reducible first | exact HB.out | apply b0_ | apply b1_ | apply b2_ | refine below_set ?_ GE301.out) | exact HB.out)) hb); clear BK301; clear HB; have BK301 := n0_; have HB := n1_; clear n0_ n1_; (try clear hb); (try clear hb2); (try clear hk); (try clear hi)))
   go_meet
   case rel => exact ⟨_, (true), (by first | rfl | (simp; done) | (simp [*]; done)), H', ⟨by first | omega | exact Nat.le_refl _⟩, ⟨by (with_reducible repeat (first | refine blk_drewN ?_ _ | refine blk_drew ?_ | refine blk_alloc ?_ _)); exact BK301.out⟩, ⟨by repeat (first | (with_reducible first | exact HB.out | apply b0_ | apply b1_ | apply b2_ | refine below_set ?_ GE301.out) | exact HB.out)⟩⟩
  ·replace c7 := Bool.eq_false_iff.mpr c7
   subst c7
   have H1 : (spiritlevellaw30_TernsimOnce.j0 k t302 (!t302) a0_0 l0_1 l0_2 l0_3 l0_4) = some r := by rw [if_neg (show ¬ (false = true) by decide)] at H; exact H
   clear H
   have H := H1
   clear H1
   have H' := M_ H
   clear H
   have hcz10_0 : w5.cell? ⟨gb301, 0, none⟩ = some (.int .i64 a0_0) := (blk_cell BK301.out 0).trans rfl
   have hcz10_1 : w5.cell? ⟨gb301, 1, none⟩ = some (.slice A0_1 l0_1.length c0_1) := (blk_cell BK301.out 1).trans rfl
   have hcz10_2 : w5.cell? ⟨gb301, 2, none⟩ = some (.slice A0_2 l0_2.length c0_2) := (blk_cell BK301.out 2).trans rfl
   have hcz10_3 : w5.cell? ⟨gb301, 3, none⟩ = some (.slice A0_3 l0_3.length c0_3) := (blk_cell BK301.out 3).trans rfl
   have hcz10_4 : w5.cell? ⟨gb301, 4, none⟩ = some (.slice A0_4 l0_4.length c0_4) := (blk_cell BK301.out 4).trans rfl
   have hfz10_0 := blk_frozen BK301.out 0
   have hfz10_1 := blk_frozen BK301.out 1
   have hfz10_2 := blk_frozen BK301.out 2
   have hfz10_3 := blk_frozen BK301.out 3
   have hfz10_4 := blk_frozen BK301.out 4
   go_wp2_with (first | ((with_reducible refine gate_callee (f := 10) rfl ?_); refine goesL_ (some 18) rfl rfl Try.func10 (by kernel_rfl) rfl #[.agg #[.int .i64 a0_0, .slice A0_1 l0_1.length c0_1, .slice A0_2 l0_2.length c0_2, .slice A0_3 l0_3.length c0_3, .slice A0_4 l0_4.length c0_4]] rfl (by (try simp only [List.map_toArray, List.map_cons, List.map_nil]); first | done | rfl | (simp only [List.length_drop, List.length_take]; rfl)) ?_; (with_reducible refine (spiritlevelref02_Great.calls a0_0 _ _ l0_1 _ _ l0_2 _ _ l0_3 _ _ l0_4 false _ ?side1 ?side2 ?side3 ?side4 ?side5 ?side6 ?side7 ?side8 A6.out).mono ?_); (case side1 => repeat (first | exact (Kd.C_below HR0_1.out HB.out) | (with_reducible refine c0_ ?_ _) | (with_reducible refine c1_ ?_ _) | (with_reducible refine c2_ ?_))); (case side2 => exact HC0_1.out); (case side3 => repeat (first | exact (Kd.C_below HR0_2.out HB.out) | (with_reducible refine c0_ ?_ _) | (with_reducible refine c1_ ?_ _) | (with_reducible refine c2_ ?_))); (case side4 => exact HC0_2.out); (case side5 => repeat (first | exact (Kd.C_below HR0_3.out HB.out) | (with_reducible refine c0_ ?_ _) | (with_reducible refine c1_ ?_ _) | (with_reducible refine c2_ ?_))); (case side6 => exact HC0_3.out); (case side7 => repeat (first | exact (Kd.C_below HR0_4.out HB.out) | (with_reducible refine c0_ ?_ _) | (with_reducible refine c1_ ?_ _) | (with_reducible refine c2_ ?_))); (case side8 => exact HC0_4.out); rintro e w11 ⟨rfl, hb⟩; refine ⟨_, rfl, ?_⟩; have n0_ := M_ (blk_below (g := gb301) (o := .cells #[.int .i64 a0_0, .slice A0_1 l0_1.length c0_1, .slice A0_2 l0_2.length c0_2, .slice A0_3 l0_3.length c0_3, .slice A0_4 l0_4.length c0_4] 26 (0, 0)) (by (with_reducible repeat (first | refine blk_drewN ?_ _ | refine blk_drew ?_ | refine blk_alloc ?_ _)); exact BK301.out) hb); have n1_ := M_ (below_step (by repeat (first | (with_reducible first | exact HB.out | apply b0_ | apply b1_ | apply b2_ | refine below_set ?_ GE301.out) | exact HB.out)) hb); clear BK301; clear HB; have BK301 := n0_; have HB := n1_; clear n0_ n1_; (try clear hb); (try clear hb2); (try clear hk); (try clear hi)))
   go_meet
   case rel => exact ⟨_, (!t302), (by first | rfl | (simp; done) | (simp [*]; done)), H', ⟨by first | omega | exact Nat.le_refl _⟩, ⟨by (with_reducible repeat (first | refine blk_drewN ?_ _ | refine blk_drew ?_ | refine blk_alloc ?_ _)); exact BK301.out⟩, ⟨by repeat (first | (with_reducible first | exact HB.out | apply b0_ | apply b1_ | apply b2_ | refine below_set ?_ GE301.out) | exact HB.out)⟩⟩
 case rest =>
  clear HC3
  try clear c1
  try clear p2
  try clear c7
  try clear c9
  try clear c10
  try clear hcz10_0
  try clear hcz10_1
  try clear hcz10_2
  try clear hcz10_3
  try clear hcz10_4
  try clear hcz8_0
  try clear hcz8_1
  try clear hcz8_2
  try clear hcz8_3
  try clear hcz8_4
  try clear hfz10_0
  try clear hfz10_1
  try clear hfz10_2
  try clear hfz10_3
  try clear hfz10_4
  try clear hfz8_0
  try clear hfz8_1
  try clear hfz8_2
  try clear hfz8_3
  try clear hfz8_4
  obtain ⟨kq, x22_2, rfl, HA, HJ2, BK301, HB⟩ := hcut
  cases kq with
  | zero => exact absurd HA.out (by simp [spiritlevellaw30_TernsimOnce.j0])
  | succ kj2 =>
   have H := HA.out
   clear HA
   simp only [spiritlevellaw30_TernsimOnce.j0] at H
   by_cases c12 : x22_2 = true
   ·subst c12
    have H1 : (some t302) = some r := by rw [if_pos rfl] at H; exact H
    clear H
    have H := H1
    clear H1
    obtain rfl := Option.some.inj H
    go_wp2
    go_ret
    exact ⟨by first | rfl | (simp [errW_none, errW_some] <;> rfl) | (simp [*, errW_none, errW_some] <;> rfl), by repeat (first | (with_reducible first | exact HB.out | apply b0_ | apply b1_ | apply b2_ | refine below_set ?_ GE301.out) | exact HB.out)⟩
   ·replace c12 := Bool.eq_false_iff.mpr c12
    subst c12
    have H1 : ((ternsim_States.f kj2 a0_0 l0_1 l0_2 l0_3 l0_4).bind fun bt304 => (if bt304.2 = 0 then (if (bt304.1.length : Int) = 0 then (some false) else (spiritlevellaw30_TernsimOnce.l0 kj2 t302 bt304.1 ([] : List Int) 0 a0_0 l0_1 l0_2 l0_3 l0_4)) else (if t302 = true then (some ((bt304.1.length : Int) == 0)) else (some false)))) = some r := by rw [if_neg (show ¬ (false = true) by decide)] at H; exact H
    clear H
    have H := H1
    clear H1
    replace H := Option.bind_eq_some_iff.mp H
    obtain ⟨⟨t304, t307⟩, A130, H⟩ := H
    replace H : (if t307 = 0 then (if (t304.length : Int) = 0 then (some false) else (spiritlevellaw30_TernsimOnce.l0 kj2 t302 t304 ([] : List Int) 0 a0_0 l0_1 l0_2 l0_3 l0_4)) else (if t302 = true then (some ((t304.length : Int) == 0)) else (some false))) = some r := H
    have A13 := M_ A130
    clear A130
    by_cases c14 : t307 = 0
    ·rw [if_pos c14] at H
     have c14b0 : (t307 == 0) = true := beq_iff_eq.mpr c14
     have c14b1 : (t307 != 0) = false := bne_eq_false_iff_eq.mpr c14
     clear c14
     by_cases c15 : (t304.length : Int) = 0
     ·rw [if_pos c15] at H
      have c15b0 : ((t304.length : Int) == 0) = true := beq_iff_eq.mpr c15
      have c15b1 : ((t304.length : Int) != 0) = false := bne_eq_false_iff_eq.mpr c15
      clear c15
      exact absurd ((Option.some.inj H).trans HTR_.out) (by decide)
     ·rw [if_neg c15] at H
      have c15b0 : ((t304.length : Int) == 0) = false := beq_eq_false_iff_ne.mpr c15
      have c15b1 : ((t304.length : Int) != 0) = true := bne_iff_ne.mpr c15
      have c15b2 : ¬ (t304 = []) := fun h_ => c15 (by rw [h_]; rfl)
      have H' := M_ H
      clear H
      have hcz16_0 : wc.cell? ⟨gb301, 0, none⟩ = some (.int .i64 a0_0) := (blk_cell BK301.out 0).trans rfl
      have hcz16_1 : wc.cell? ⟨gb301, 1, none⟩ = some (.slice A0_1 l0_1.length c0_1) := (blk_cell BK301.out 1).trans rfl
      have hcz16_2 : wc.cell? ⟨gb301, 2, none⟩ = some (.slice A0_2 l0_2.length c0_2) := (blk_cell BK301.out 2).trans rfl
      have hcz16_3 : wc.cell? ⟨gb301, 3, none⟩ = some (.slice A0_3 l0_3.length c0_3) := (blk_cell BK301.out 3).trans rfl
      have hcz16_4 : wc.cell? ⟨gb301, 4, none⟩ = some (.slice A0_4 l0_4.length c0_4) := (blk_cell BK301.out 4).trans rfl
      have hfz16_0 := blk_frozen BK301.out 0
      have hfz16_1 := blk_frozen BK301.out 1
      have hfz16_2 := blk_frozen BK301.out 2
      have hfz16_3 := blk_frozen BK301.out 3
      have hfz16_4 := blk_frozen BK301.out 4
      go_wp2_with (first | ((with_reducible refine gate_callee (f := 12) rfl ?_); refine goesL_ (some 26) rfl rfl Try.func12 (by kernel_rfl) rfl #[.agg #[.int .i64 a0_0, .slice A0_1 l0_1.length c0_1, .slice A0_2 l0_2.length c0_2, .slice A0_3 l0_3.length c0_3, .slice A0_4 l0_4.length c0_4]] rfl (by (try simp only [List.map_toArray, List.map_cons, List.map_nil]); first | done | rfl | (simp only [List.length_drop, List.length_take]; rfl)) ?_; (with_reducible refine (ternsim_States.calls kj2 a0_0 _ _ l0_1 _ _ l0_2 _ _ l0_3 _ _ l0_4 t304 t307 _ ?side1 ?side2 ?side3 ?side4 ?side5 ?side6 ?side7 ?side8 A13.out).mono ?_); (case side1 => repeat (first | exact (Kd.C_below HR0_1.out HB.out) | (with_reducible refine c0_ ?_ _) | (with_reducible refine c1_ ?_ _) | (with_reducible refine c2_ ?_))); (case side2 => exact HC0_1.out); (case side3 => repeat (first | exact (Kd.C_below HR0_2.out HB.out) | (with_reducible refine c0_ ?_ _) | (with_reducible refine c1_ ?_ _) | (with_reducible refine c2_ ?_))); (case side4 => exact HC0_2.out); (case side5 => repeat (first | exact (Kd.C_below HR0_3.out HB.out) | (with_reducible refine c0_ ?_ _) | (with_reducible refine c1_ ?_ _) | (with_reducible refine c2_ ?_))); (case side6 => exact HC0_3.out); (case side7 => repeat (first | exact (Kd.C_below HR0_4.out HB.out) | (with_reducible refine c0_ ?_ _) | (with_reducible refine c1_ ?_ _) | (with_reducible refine c2_ ?_))); (case side8 => exact HC0_4.out); rintro e w17 ⟨v305, rfl, ho0, hb⟩; refine ⟨_, rfl, ?_⟩; have n0_ := M_ (Kd.N_lower (Kd.N_mono (ok' := fun k_ => k_ ≠ gb301) ho0 (fun k_ hk_ => (Kd.freshB (g := gb301) (o := .cells #[.int .i64 a0_0, .slice A0_1 l0_1.length c0_1, .slice A0_2 l0_2.length c0_2, .slice A0_3 l0_3.length c0_3, .slice A0_4 l0_4.length c0_4] 26 (0, 0)) (by (with_reducible repeat (first | refine blk_drewN ?_ _ | refine blk_drew ?_ | refine blk_alloc ?_ _)); exact BK301.out) k_ hk_))) (below_size (by repeat (first | (with_reducible first | exact HB.out | apply b0_ | apply b1_ | apply b2_ | refine below_set ?_ GE301.out) | exact HB.out)))); have n1_ := M_ (blk_below (g := gb301) (o := .cells #[.int .i64 a0_0, .slice A0_1 l0_1.length c0_1, .slice A0_2 l0_2.length c0_2, .slice A0_3 l0_3.length c0_3, .slice A0_4 l0_4.length c0_4] 26 (0, 0)) (by (with_reducible repeat (first | refine blk_drewN ?_ _ | refine blk_drew ?_ | refine blk_alloc ?_ _)); exact BK301.out) hb); have n2_ := M_ (below_step (by repeat (first | (with_reducible first | exact HB.out | apply b0_ | apply b1_ | apply b2_ | refine below_set ?_ GE301.out) | exact HB.out)) hb); clear BK301; clear HB; have HO306 := n0_; have BK301 := n1_; have HB := n2_; clear n0_ n1_ n2_; (try clear hb); (try clear hb2); (try clear hk); (try clear hi); (try clear ho0); obtain ⟨Ao18, co18, eo18⟩ := Kd.N_slice HO306.out; subst eo18))
      go_loopg [6, 7] kj2 (fun kq v6 v7 w' => ∃ (x6_2 : List Int) (x7_2 : Int), v7 = .int .i64 x7_2 ∧ Aside0 (spiritlevellaw30_TernsimOnce.l0 kq t302 t304 x6_2 x7_2 a0_0 l0_1 l0_2 l0_3 l0_4 = some r) ∧ Aside0 (kq ≤ kj2) ∧ Aside0 (Kd.N (Kd.slice 5 (Kd.int .u8)) 70 w' w.heap.size (fun k_ => some k_ ≠ (v6 : Value).ownBlock ∧ k_ ≠ gb301) (.slice Ao18 t304.length co18) t304) ∧ Aside0 (Kd.R (Kd.int .u8) 5 w' w.heap.size (fun _ => True) v6 x6_2) ∧ Aside0 (w'.heap[gb301]? = some (.cells #[.int .i64 a0_0, (.slice A0_1 l0_1.length c0_1), (.slice A0_2 l0_2.length c0_2), (.slice A0_3 l0_3.length c0_3), (.slice A0_4 l0_4.length c0_4)] 26 (0, 0))) ∧ Aside0 (Below w.heap.size w w'))
      case atStart => exact ⟨(([] : List Int)), (0), (by first | rfl | (simp; done) | (simp [*]; done)), H', ⟨Nat.le_refl _⟩, ⟨by (with_reducible repeat (first | apply a6_ | apply a7_ | apply a8_)); exact Kd.N_mono HO306.out (fun _ hk => ⟨(by simp [Value.ownBlock]), hk⟩)⟩, ⟨by first | exact Kd.R_nil _ _ _ _ _ | exact Kd.N_nil _ _ _ _ _ | exact Kd.V_nil _ _ _ _ _ | exact Kd.Q_nil _ _ _ _ _ | exact Kd.S_nil _ _ _ _ _⟩, ⟨by (with_reducible repeat (first | refine blk_drewN ?_ _ | refine blk_drew ?_ | refine blk_alloc ?_ _)); exact BK301.out⟩, ⟨by repeat (first | (with_reducible first | exact HB.out | apply b0_ | apply b1_ | apply b2_ | refine below_set ?_ GE301.out) | exact HB.out)⟩⟩
      case round =>
       clear H'
       try clear c1
       try clear p2
       try clear c7
       try clear c9
       try clear c10
       try clear c12
       try clear c14
       try clear c14b0
       try clear c14b1
       try clear c15
       try clear c15b0
       try clear c15b1
       try clear c15b2
       try clear hcz10_0
       try clear hcz10_1
       try clear hcz10_2
       try clear hcz10_3
       try clear hcz10_4
       try clear hcz16_0
       try clear hcz16_1
       try clear hcz16_2
       try clear hcz16_3
       try clear hcz16_4
       try clear hcz8_0
       try clear hcz8_1
       try clear hcz8_2
       try clear hcz8_3
       try clear hcz8_4
       try clear hfz10_0
       try clear hfz10_1
       try clear hfz10_2
       try clear hfz10_3
       try clear hfz10_4
       try clear hfz16_0
       try clear hfz16_1
       try clear hfz16_2
       try clear hfz16_3
       try clear hfz16_4
       try clear hfz8_0
       try clear hfz8_1
       try clear hfz8_2
       try clear hfz8_3
       try clear hfz8_4
       try clear p2
       obtain ⟨x6_2, x7_2, rfl, HA, HK2, HO_4, HO_6, BK301, HB⟩ := hrel
       cases gk with
       | zero => exact absurd HA.out (by simp [spiritlevellaw30_TernsimOnce.l0])
       | succ k2 =>
        have H := HA.out
        clear HA
        simp only [spiritlevellaw30_TernsimOnce.l0] at H
        by_cases c19 : x7_2 < a0_0
        ·rw [if_pos c19] at H
         have c19b0 : decide (x7_2 < a0_0) = true := decide_eq_true c19
         clear c19
         by_cases c20 : x6_2.length < 140737488355328
         ·rw [if_pos c20] at H
          have LMc20 := M_ c20
          clear c20
          obtain ⟨y308, hy308⟩ : ∃ y_ : List Int, y_ = (x6_2 ++ [2]) := ⟨_, rfl⟩
          replace H : (spiritlevellaw30_TernsimOnce.l0 k2 t302 t304 y308 (wrap64 (x7_2 + 1)) a0_0 l0_1 l0_2 l0_3 l0_4) = some r := by first | (rw [hy308]; with_reducible exact H) | (have H2_ := (Option.bind_some _ _).symm.trans H; rw [hy308]; with_reducible exact H2_) | (have H2_ := (Option.bind_some _ _).symm.trans H; with_reducible exact H2_) | with_reducible exact H | (rw [hy308]; exact H) | exact H
          have Ny308 := M_ hy308
          clear hy308
          have H' := M_ H
          clear H
          have hcz21_0 : wr.cell? ⟨gb301, 0, none⟩ = some (.int .i64 a0_0) := (blk_cell BK301.out 0).trans rfl
          have hcz21_1 : wr.cell? ⟨gb301, 1, none⟩ = some (.slice A0_1 l0_1.length c0_1) := (blk_cell BK301.out 1).trans rfl
          have hcz21_2 : wr.cell? ⟨gb301, 2, none⟩ = some (.slice A0_2 l0_2.length c0_2) := (blk_cell BK301.out 2).trans rfl
          have hcz21_3 : wr.cell? ⟨gb301, 3, none⟩ = some (.slice A0_3 l0_3.length c0_3) := (blk_cell BK301.out 3).trans rfl
          have hcz21_4 : wr.cell? ⟨gb301, 4, none⟩ = some (.slice A0_4 l0_4.length c0_4) := (blk_cell BK301.out 4).trans rfl
          have hfz21_0 := blk_frozen BK301.out 0
          have hfz21_1 := blk_frozen BK301.out 1
          have hfz21_2 := blk_frozen BK301.out 2
          have hfz21_3 := blk_frozen BK301.out 3
          have hfz21_4 := blk_frozen BK301.out 4
          go_wp2_with (first | ((with_reducible refine gate_builtin (b := .append) (xs := #[.tmp 46, .tmp 47]) rfl ?_); (try (refine gate_guard (by rfl) ?_; dsimp only)); at_builtin; refine Kd.R_append (Kd.int .u8) (w0 := w) w.heap.size rfl (.tmp 46) (.tmp 47) 70 5 (.int .u8 0) 1 rfl Try.underlying70 info5 rfl (by decide) (by omega) u6 x6_2 2 [.int .u8 2] (fun _ => True) (fun _ => False) rfl rfl ?aP (fun _ hk => hk.elim) ?aF ?aO ?aB ?aS ?aL ?_; (case aP => exact rfl); (case aB => exact (by repeat (first | (with_reducible first | exact HB.out | apply b0_ | apply b1_ | apply b2_ | refine below_set ?_ GE301.out) | exact HB.out))); (case aF => exact (fun _ _ => trivial)); (case aO => exact (by (with_reducible repeat (first | apply a0_ | apply a1_ | apply a2_)); exact HO_6.out)); (case aS => exact (below_size (by repeat (first | (with_reducible first | exact HB.out | apply b0_ | apply b1_ | apply b2_ | refine below_set ?_ GE301.out) | exact HB.out)))); (case aL => have := LMc20.out; omega); intro v309 w22 ho hb hg hat; rw [← Ny308.out] at ho; have n0_ := M_ (Kd.N_afterv (ok := (fun k_ => k_ ≠ gb301)) (by (with_reducible repeat (first | apply a6_ | apply a7_ | apply a8_)); exact Kd.N_mono HO_4.out (fun _ hk => ⟨hk.2, hk.1⟩)) hg hat); have n1_ := M_ (blk_grown (g := gb301) (o := .cells #[.int .i64 a0_0, .slice A0_1 l0_1.length c0_1, .slice A0_2 l0_2.length c0_2, .slice A0_3 l0_3.length c0_3, .slice A0_4 l0_4.length c0_4] 26 (0, 0)) (by (with_reducible repeat (first | refine blk_drewN ?_ _ | refine blk_drew ?_ | refine blk_alloc ?_ _)); exact BK301.out) hg (Kd.R_ne HO_6.out BK301.out (by decide))); have n2_ := M_ (hb); have n3_ := M_ (ho); clear HO_4; clear BK301; clear HB; clear HO_6; have HO_4 := n0_; have BK301 := n1_; have HB := n2_; have HO310 := n3_; clear n0_ n1_ n2_ n3_; clear ho hb hg hat))
          go_roundg k2
          case measure => have := HJ2.out; have := HK2.out; omega
          case rel => exact ⟨(y308), (wrap64 (x7_2 + 1)), (by first | rfl | (simp; done) | (simp [*]; done)), H', ⟨by have := HJ2.out; have := HK2.out; omega⟩, ⟨by (with_reducible repeat (first | apply a6_ | apply a7_ | apply a8_)); exact Kd.N_mono HO_4.out (fun _ hk => ⟨hk.2, hk.1⟩)⟩, ⟨by (with_reducible repeat (first | apply a0_ | apply a1_ | apply a2_)); exact HO310.out⟩, ⟨by (with_reducible repeat (first | refine blk_drewN ?_ _ | refine blk_drew ?_ | refine blk_alloc ?_ _)); exact BK301.out⟩, ⟨by repeat (first | (with_reducible first | exact HB.out | apply b0_ | apply b1_ | apply b2_ | refine below_set ?_ GE301.out) | exact HB.out)⟩⟩
         ·rw [if_neg c20] at H
          exact absurd H (by simp)
        ·rw [if_neg c19] at H
         have c19b0 : decide (x7_2 < a0_0) = false := decide_eq_false c19
         clear c19
         replace H := Option.bind_eq_some_iff.mp H
         obtain ⟨⟨t311, t314⟩, A230, H⟩ := H
         replace H : (if t314 = 0 then (if 0 < (t304.length : Int) then ((spiritlevelref05_Same.f k2 t311 (rd_L4 t304 0)).bind fun t316 => (spiritlevellaw30_TernsimOnce.j2 k2 t302 t304 x6_2 (!t316) a0_0 l0_1 l0_2 l0_3 l0_4)) else (none)) else (spiritlevellaw30_TernsimOnce.j2 k2 t302 t304 x6_2 true a0_0 l0_1 l0_2 l0_3 l0_4)) = some r := H
         have A23 := M_ A230
         clear A230
         have HC24 := M_ H
         clear H
         have hcz25_0 : wr.cell? ⟨gb301, 0, none⟩ = some (.int .i64 a0_0) := (blk_cell BK301.out 0).trans rfl
         have hcz25_1 : wr.cell? ⟨gb301, 1, none⟩ = some (.slice A0_1 l0_1.length c0_1) := (blk_cell BK301.out 1).trans rfl
         have hcz25_2 : wr.cell? ⟨gb301, 2, none⟩ = some (.slice A0_2 l0_2.length c0_2) := (blk_cell BK301.out 2).trans rfl
         have hcz25_3 : wr.cell? ⟨gb301, 3, none⟩ = some (.slice A0_3 l0_3.length c0_3) := (blk_cell BK301.out 3).trans rfl
         have hcz25_4 : wr.cell? ⟨gb301, 4, none⟩ = some (.slice A0_4 l0_4.length c0_4) := (blk_cell BK301.out 4).trans rfl
         have hfz25_0 := blk_frozen BK301.out 0
         have hfz25_1 := blk_frozen BK301.out 1
         have hfz25_2 := blk_frozen BK301.out 2
         have hfz25_3 := blk_frozen BK301.out 3
         have hfz25_4 := blk_frozen BK301.out 4
         go_upto_region 15 with (first | ((with_reducible refine gate_callee (f := 32) rfl ?_); refine goesL_ (some 51) rfl rfl Try.func32 (by kernel_rfl) rfl #[.agg #[.int .i64 a0_0, .slice A0_1 l0_1.length c0_1, .slice A0_2 l0_2.length c0_2, .slice A0_3 l0_3.length c0_3, .slice A0_4 l0_4.length c0_4]] rfl (by (try simp only [List.map_toArray, List.map_cons, List.map_nil]); first | done | rfl | (simp only [List.length_drop, List.length_take]; rfl)) ?_; (with_reducible refine (ternary_First.calls k2 a0_0 _ _ l0_1 _ _ l0_2 _ _ l0_3 _ _ l0_4 t311 t314 _ ?side1 ?side2 ?side3 ?side4 ?side5 ?side6 ?side7 ?side8 A23.out).mono ?_); (case side1 => repeat (first | exact (Kd.C_below HR0_1.out HB.out) | (with_reducible refine c0_ ?_ _) | (with_reducible refine c1_ ?_ _) | (with_reducible refine c2_ ?_))); (case side2 => exact HC0_1.out); (case side3 => repeat (first | exact (Kd.C_below HR0_2.out HB.out) | (with_reducible refine c0_ ?_ _) | (with_reducible refine c1_ ?_ _) | (with_reducible refine c2_ ?_))); (case side4 => exact HC0_2.out); (case side5 => repeat (first | exact (Kd.C_below HR0_3.out HB.out) | (with_reducible refine c0_ ?_ _) | (with_reducible refine c1_ ?_ _) | (with_reducible refine c2_ ?_))); (case side6 => exact HC0_3.out); (case side7 => repeat (first | exact (Kd.C_below HR0_4.out HB.out) | (with_reducible refine c0_ ?_ _) | (with_reducible refine c1_ ?_ _) | (with_reducible refine c2_ ?_))); (case side8 => exact HC0_4.out); rintro e w26 ⟨v312, rfl, ho0, hb⟩; refine ⟨_, rfl, ?_⟩; have n0_ := M_ (Kd.N_elder' (by (with_reducible repeat (first | apply a6_ | apply a7_ | apply a8_)); exact HO_4.out) (Kd.R_base ho0) hb); have n1_ := M_ (Kd.R_elder' (by (with_reducible repeat (first | apply a0_ | apply a1_ | apply a2_)); exact HO_6.out) (Kd.R_base ho0) hb); have n2_ := M_ (Kd.R_lower (Kd.R_new' ho0 (Kd.R_lt (by (with_reducible repeat (first | apply a0_ | apply a1_ | apply a2_)); exact HO_6.out))) (below_size (by repeat (first | (with_reducible first | exact HB.out | apply b0_ | apply b1_ | apply b2_ | refine below_set ?_ GE301.out) | exact HB.out)))); have n3_ := M_ (blk_below (g := gb301) (o := .cells #[.int .i64 a0_0, .slice A0_1 l0_1.length c0_1, .slice A0_2 l0_2.length c0_2, .slice A0_3 l0_3.length c0_3, .slice A0_4 l0_4.length c0_4] 26 (0, 0)) (by (with_reducible repeat (first | refine blk_drewN ?_ _ | refine blk_drew ?_ | refine blk_alloc ?_ _)); exact BK301.out) hb); have n4_ := M_ (below_step (by repeat (first | (with_reducible first | exact HB.out | apply b0_ | apply b1_ | apply b2_ | refine below_set ?_ GE301.out) | exact HB.out)) hb); clear HO_4; clear HO_6; clear BK301; clear HB; have HO_4 := n0_; have HO_6 := n1_; have HO313 := n2_; have BK301 := n3_; have HB := n4_; clear n0_ n1_ n2_ n3_ n4_; (try clear hb); (try clear hb2); (try clear hk); (try clear hi); (try clear ho0)))
         (try simp only [Act.put, e1_, e2_, e3_])
         go_cut [63] (fun v63 wc => ∃ (kq : Nat) (x63_23 : Bool), v63 = .bool x63_23 ∧ Aside0 (spiritlevellaw30_TernsimOnce.j2 kq t302 t304 x6_2 x63_23 a0_0 l0_1 l0_2 l0_3 l0_4 = some r) ∧ Aside0 (kq ≤ k2) ∧ Aside0 (Kd.N (Kd.slice 5 (Kd.int .u8)) 70 wc w.heap.size (fun k_ => some k_ ≠ (u6 : Value).ownBlock ∧ k_ ≠ gb301) (.slice Ao18 t304.length co18) t304) ∧ Aside0 (Kd.R (Kd.int .u8) 5 wc w.heap.size (fun _ => True) u6 x6_2) ∧ Aside0 (wc.heap[gb301]? = some (.cells #[.int .i64 a0_0, (.slice A0_1 l0_1.length c0_1), (.slice A0_2 l0_2.length c0_2), (.slice A0_3 l0_3.length c0_3), (.slice A0_4 l0_4.length c0_4)] 26 (0, 0))) ∧ Aside0 (Below w.heap.size w wc))
         case first =>
          have H := HC24.out
          clear HC24
          by_cases c27 : t314 = 0
          ·rw [if_pos c27] at H
           have c27b0 : (t314 == 0) = true := beq_iff_eq.mpr c27
           have c27b1 : (t314 != 0) = false := bne_eq_false_iff_eq.mpr c27
           clear c27
           (first | rw [c27b0] | (simp only [i64_w, i32_w]; rw [c27b0]) | skip)
           by_cases c28 : 0 < (t304.length : Int)
           ·rw [if_pos c28] at H
            have c28b0 : decide (0 < (t304.length : Int)) = true := decide_eq_true c28
            have c28b1 : decide (0 < t304.length) = true := decide_eq_true (by omega)
            clear c28
            replace H := Option.bind_eq_some_iff.mp H
            obtain ⟨t316, A290, H⟩ := H
            replace H : (spiritlevellaw30_TernsimOnce.j2 k2 t302 t304 x6_2 (!t316) a0_0 l0_1 l0_2 l0_3 l0_4) = some r := H
            have A29 := M_ A290
            clear A290
            have H' := M_ H
            clear H
            have p315 : 0 ≤ (0 : Int) := (by omega)
            have q315 : 0 < (t304.length : Int) := of_decide_eq_true (by first | (with_reducible assumption) | assumption)
            obtain ⟨ad315, A315_0, c315_0, e315, hx315_0, hl315_0, hi315_0⟩ := at_L4 (Kd.N_reads' HO_4.out).2.2 0 p315 q315
            cases e315
            obtain ⟨ce315, hce315, hMe315, hcc315⟩ := Kd.N_get HO_4.out [] 0 p315 (by first | exact q315 | exact of_decide_eq_true (by first | (with_reducible assumption) | assumption) | (have e_ := (Kd.N_reads' HO_4.out).1; omega))
            obtain ⟨ua315_0, uc315_0, rfl, ul315_0, ge315_0⟩ := Kd.FK_slice_open hMe315
            have hv315_0 := hcc315 0 _ rfl
            rw [Nat.add_zero, show ((Kd.slice 5 (Kd.int .u8))).sz = 1 from rfl, Nat.mul_one] at hv315_0
            replace hv315_0 := Option.some.inj (hv315_0.symm.trans hx315_0)
            injection hv315_0 with hva_ hvn_ hvc_
            rw [hva_] at ge315_0
            rw [hvc_] at ul315_0
            have HL315_0 := M_ (show Kd.V (Kd.int .u8) 5 _ w.heap.size _ _ (rd_L4 t304 0) from Kd.V_mk ul315_0 ge315_0)
            clear hva_ hvn_ hvc_ ge315_0 ul315_0
            clear hcc315 hce315
            have qi315 : (0 < t304.length) = True := eq_true (by omega)
            (try rw [show ((0 : Int)).toNat = 0 from rfl] at hx315_0)
            (try rw [Addr.add_zero'] at hx315_0)
            have HR315_0 := M_ hi315_0
            have HC315_0 := M_ hl315_0
            clear hi315_0 hl315_0
            replace p315 := eq_true p315
            replace q315 := eq_true q315
            obtain ⟨Ao30, co30, eo30⟩ := Kd.R_slice HO313.out
            subst eo30
            go_wp2_with (first | (go_at_call 33; (with_reducible refine (spiritlevelref05_Same.calls k2 _ _ t311 _ _ (rd_L4 t304 0) t316 _ ?side1 ?side2 ?side3 ?side4 A29.out).mono ?_); (case side1 => repeat (first | exact (Kd.R_reads' HO313.out).2.2 | (with_reducible refine c0_ ?_ _) | (with_reducible refine c1_ ?_ _) | (with_reducible refine c2_ ?_))); (case side2 => exact (Kd.R_reads' HO313.out).2.1); (case side3 => repeat (first | exact (by repeat (first | (with_reducible exact HR315_0.out) | (with_reducible refine c0_ ?_ _) | (with_reducible refine c1_ ?_ _) | (with_reducible refine c2_ ?_) | exact HR315_0.out)) | (with_reducible refine c0_ ?_ _) | (with_reducible refine c1_ ?_ _) | (with_reducible refine c2_ ?_))); (case side4 => exact HC315_0.out); rintro e w' ⟨rfl, ⟨nd, rfl⟩⟩))
            go_meet
            case rel => exact ⟨_, (!t316), (by first | rfl | (simp; done) | (simp [*]; done)), H', ⟨by have := HJ2.out; have := HK2.out; first | omega | exact Nat.le_refl _⟩, ⟨by (with_reducible repeat (first | apply a6_ | apply a7_ | apply a8_)); exact Kd.N_mono HO_4.out (fun _ hk => ⟨hk.1.1, hk.1.2⟩)⟩, ⟨by (with_reducible repeat (first | apply a0_ | apply a1_ | apply a2_)); exact Kd.R_mono HO_6.out (fun _ hk => trivial)⟩, ⟨by (with_reducible repeat (first | refine blk_drewN ?_ _ | refine blk_drew ?_ | refine blk_alloc ?_ _)); exact BK301.out⟩, ⟨by repeat (first | (with_reducible first | exact HB.out | apply b0_ | apply b1_ | apply b2_ | refine below_set ?_ GE301.out) | exact HB.out)⟩⟩
           ·rw [if_neg c28] at H
            exact absurd H (by simp)
          ·rw [if_neg c27] at H
           have c27b0 : (t314 == 0) = false := beq_eq_false_iff_ne.mpr c27
           have c27b1 : (t314 != 0) = true := bne_iff_ne.mpr c27
           (first | rw [c27b0] | (simp only [i64_w, i32_w]; rw [c27b0]) | skip)
           have H' := M_ H
           clear H
           go_wp2
           go_meet
           case rel => exact ⟨_, (true), (by first | rfl | (simp; done) | (simp [*]; done)), H', ⟨by have := HJ2.out; have := HK2.out; first | omega | exact Nat.le_refl _⟩, ⟨by (with_reducible repeat (first | apply a6_ | apply a7_ | apply a8_)); exact Kd.N_mono HO_4.out (fun _ hk => ⟨hk.1.1, hk.1.2⟩)⟩, ⟨by (with_reducible repeat (first | apply a0_ | apply a1_ | apply a2_)); exact Kd.R_mono HO_6.out (fun _ hk => trivial)⟩, ⟨by (with_reducible repeat (first | refine blk_drewN ?_ _ | refine blk_drew ?_ | refine blk_alloc ?_ _)); exact BK301.out⟩, ⟨by repeat (first | (with_reducible first | exact HB.out | apply b0_ | apply b1_ | apply b2_ | refine below_set ?_ GE301.out) | exact HB.out)⟩⟩
         case rest =>
          clear HC24
          try clear c1
          try clear c2
          try clear p2
          try clear c3
          try clear p3
          try clear q3
          try clear hx3
          try clear qi3
          try clear p6
          try clear c7
          try clear c9
          try clear c10
          try clear c12
          try clear c14
          try clear c14b0
          try clear c14b1
          try clear c15
          try clear c15b0
          try clear c15b1
          try clear c15b2
          try clear c19
          try clear c19b0
          try clear c20
          try clear c27
          try clear c27b0
          try clear c27b1
          try clear c28
          try clear c28b0
          try clear c28b1
          try clear hcz10_0
          try clear hcz10_1
          try clear hcz10_2
          try clear hcz10_3
          try clear hcz10_4
          try clear hcz16_0
          try clear hcz16_1
          try clear hcz16_2
          try clear hcz16_3
          try clear hcz16_4
          try clear hcz21_0
          try clear hcz21_1
          try clear hcz21_2
          try clear hcz21_3
          try clear hcz21_4
          try clear hcz25_0
          try clear hcz25_1
          try clear hcz25_2
          try clear hcz25_3
          try clear hcz25_4
          try clear hcz8_0
          try clear hcz8_1
          try clear hcz8_2
          try clear hcz8_3
          try clear hcz8_4
          try clear hfz10_0
          try clear hfz10_1
          try clear hfz10_2
          try clear hfz10_3
          try clear hfz10_4
          try clear hfz16_0
          try clear hfz16_1
          try clear hfz16_2
          try clear hfz16_3
          try clear hfz16_4
          try clear hfz21_0
          try clear hfz21_1
          try clear hfz21_2
          try clear hfz21_3
          try clear hfz21_4
          try clear hfz25_0
          try clear hfz25_1
          try clear hfz25_2
          try clear hfz25_3
          try clear hfz25_4
          try clear hfz8_0
          try clear hfz8_1
          try clear hfz8_2
          try clear hfz8_3
          try clear hfz8_4
          try clear hx315_0
          try clear p2
          try clear p315
          try clear q315
          obtain ⟨kq, x63_23, rfl, HA, HJ23, HO_4, HO_6, BK301, HB⟩ := hcut
          cases kq with
          | zero => exact absurd HA.out (by simp [spiritlevellaw30_TernsimOnce.j2])
          | succ kj23 =>
           have H := HA.out
           clear HA
           simp only [spiritlevellaw30_TernsimOnce.j2] at H
           by_cases c31 : x63_23 = true
           ·subst c31
            have H1 : (some false) = some r := by rw [if_pos rfl] at H; exact H
            clear H
            have H := H1
            clear H1
            exact absurd ((Option.some.inj H).trans HTR_.out) (by decide)
           ·replace c31 := Bool.eq_false_iff.mpr c31
            subst c31
            have H1 : (spiritlevellaw30_TernsimOnce.l1 kj23 t302 t304 x6_2 0 a0_0 l0_1 l0_2 l0_3 l0_4) = some r := by rw [if_neg (show ¬ (false = true) by decide)] at H; exact H
            clear H
            have H := H1
            clear H1
            have H' := M_ H
            clear H
            go_wp2
            go_loopg [10] kj23 (fun kq v10 w' => ∃ (x10_4 : Int), v10 = .int .i64 x10_4 ∧ Aside0 (spiritlevellaw30_TernsimOnce.l1 kq t302 t304 x6_2 x10_4 a0_0 l0_1 l0_2 l0_3 l0_4 = some r) ∧ Aside0 (kq ≤ kj23) ∧ Aside0 (Kd.N (Kd.slice 5 (Kd.int .u8)) 70 w' w.heap.size (fun k_ => some k_ ≠ (u6 : Value).ownBlock ∧ k_ ≠ gb301) (.slice Ao18 t304.length co18) t304) ∧ Aside0 (Kd.R (Kd.int .u8) 5 w' w.heap.size (fun _ => True) u6 x6_2) ∧ Aside0 (w'.heap[gb301]? = some (.cells #[.int .i64 a0_0, (.slice A0_1 l0_1.length c0_1), (.slice A0_2 l0_2.length c0_2), (.slice A0_3 l0_3.length c0_3), (.slice A0_4 l0_4.length c0_4)] 26 (0, 0))) ∧ Aside0 (Below w.heap.size w w'))
            case atStart => exact ⟨(0), (by first | rfl | (simp; done) | (simp [*]; done)), H', ⟨Nat.le_refl _⟩, ⟨by (with_reducible repeat (first | apply a6_ | apply a7_ | apply a8_)); exact HO_4.out⟩, ⟨by (with_reducible repeat (first | apply a0_ | apply a1_ | apply a2_)); exact HO_6.out⟩, ⟨by (with_reducible repeat (first | refine blk_drewN ?_ _ | refine blk_drew ?_ | refine blk_alloc ?_ _)); exact BK301.out⟩, ⟨by repeat (first | (with_reducible first | exact HB.out | apply b0_ | apply b1_ | apply b2_ | refine below_set ?_ GE301.out) | exact HB.out)⟩⟩
            case round =>
             clear H'
             try clear c1
             try clear c2
             try clear p2
             try clear c3
             try clear p3
             try clear q3
             try clear hx3
             try clear qi3
             try clear p6
             try clear c7
             try clear c9
             try clear c10
             try clear c12
             try clear c14
             try clear c14b0
             try clear c14b1
             try clear c15
             try clear c15b0
             try clear c15b1
             try clear c15b2
             try clear c19
             try clear c19b0
             try clear c20
             try clear c27
             try clear c27b0
             try clear c27b1
             try clear c28
             try clear c28b0
             try clear c28b1
             try clear c31
             try clear p31
             try clear q31
             try clear hx31
             try clear qi31
             try clear hcz10_0
             try clear hcz10_1
             try clear hcz10_2
             try clear hcz10_3
             try clear hcz10_4
             try clear hcz16_0
             try clear hcz16_1
             try clear hcz16_2
             try clear hcz16_3
             try clear hcz16_4
             try clear hcz21_0
             try clear hcz21_1
             try clear hcz21_2
             try clear hcz21_3
             try clear hcz21_4
             try clear hcz25_0
             try clear hcz25_1
             try clear hcz25_2
             try clear hcz25_3
             try clear hcz25_4
             try clear hcz8_0
             try clear hcz8_1
             try clear hcz8_2
             try clear hcz8_3
             try clear hcz8_4
             try clear hfz10_0
             try clear hfz10_1
             try clear hfz10_2
             try clear hfz10_3
             try clear hfz10_4
             try clear hfz16_0
             try clear hfz16_1
             try clear hfz16_2
             try clear hfz16_3
             try clear hfz16_4
             try clear hfz21_0
             try clear hfz21_1
             try clear hfz21_2
             try clear hfz21_3
             try clear hfz21_4
             try clear hfz25_0
             try clear hfz25_1
             try clear hfz25_2
             try clear hfz25_3
             try clear hfz25_4
             try clear hfz8_0
             try clear hfz8_1
             try clear hfz8_2
             try clear hfz8_3
             try clear hfz8_4
             try clear hx315_0
             try clear p2
             try clear p3
             try clear p315
             try clear p6
             try clear q3
             try clear q315
             obtain ⟨x10_4, rfl, HA, HK4, HO_4, HO_6, BK301, HB⟩ := hrel
             cases gk with
             | zero => exact absurd HA.out (by simp [spiritlevellaw30_TernsimOnce.l1])
             | succ k4 =>
              have H := HA.out
              clear HA
              simp only [spiritlevellaw30_TernsimOnce.l1] at H
              by_cases c32 : x10_4 < (t304.length : Int)
              ·rw [if_pos c32] at H
               have c32b0 : decide (x10_4 < (t304.length : Int)) = true := decide_eq_true c32
               clear c32
               have H' := M_ H
               clear H
               go_wp2
               go_loopg [11] k4 (fun kq v11 w' => ∃ (x11_5 : Int), v11 = .int .i64 x11_5 ∧ Aside0 (spiritlevellaw30_TernsimOnce.l2 kq t302 t304 x6_2 x10_4 x11_5 a0_0 l0_1 l0_2 l0_3 l0_4 = some r) ∧ Aside0 (kq ≤ k4) ∧ Aside0 (Kd.N (Kd.slice 5 (Kd.int .u8)) 70 w' w.heap.size (fun k_ => some k_ ≠ (u6 : Value).ownBlock ∧ k_ ≠ gb301) (.slice Ao18 t304.length co18) t304) ∧ Aside0 (Kd.R (Kd.int .u8) 5 w' w.heap.size (fun _ => True) u6 x6_2) ∧ Aside0 (w'.heap[gb301]? = some (.cells #[.int .i64 a0_0, (.slice A0_1 l0_1.length c0_1), (.slice A0_2 l0_2.length c0_2), (.slice A0_3 l0_3.length c0_3), (.slice A0_4 l0_4.length c0_4)] 26 (0, 0))) ∧ Aside0 (Below w.heap.size w w'))
               case atStart => exact ⟨(0), (by first | rfl | (simp; done) | (simp [*]; done)), H', ⟨Nat.le_refl _⟩, ⟨by (with_reducible repeat (first | apply a6_ | apply a7_ | apply a8_)); exact HO_4.out⟩, ⟨by (with_reducible repeat (first | apply a0_ | apply a1_ | apply a2_)); exact HO_6.out⟩, ⟨by (with_reducible repeat (first | refine blk_drewN ?_ _ | refine blk_drew ?_ | refine blk_alloc ?_ _)); exact BK301.out⟩, ⟨by repeat (first | (with_reducible first | exact HB.out | apply b0_ | apply b1_ | apply b2_ | refine below_set ?_ GE301.out) | exact HB.out)⟩⟩
               case round =>
                clear H'
                try clear c1
                try clear c2
                try clear p2
                try clear c3
                try clear p3
                try clear q3
                try clear hx3
                try clear qi3
                try clear p6
                try clear c7
                try clear c9
                try clear c10
                try clear c12
                try clear c14
                try clear c14b0
                try clear c14b1
                try clear c15
                try clear c15b0
                try clear c15b1
                try clear c15b2
                try clear c19
                try clear c19b0
                try clear c20
                try clear c27
                try clear c27b0
                try clear c27b1
                try clear c28
                try clear c28b0
                try clear c28b1
                try clear c31
                try clear p31
                try clear q31
                try clear hx31
                try clear qi31
                try clear c32
                try clear c32b0
                try clear hcz10_0
                try clear hcz10_1
                try clear hcz10_2
                try clear hcz10_3
                try clear hcz10_4
                try clear hcz16_0
                try clear hcz16_1
                try clear hcz16_2
                try clear hcz16_3
                try clear hcz16_4
                try clear hcz21_0
                try clear hcz21_1
                try clear hcz21_2
                try clear hcz21_3
                try clear hcz21_4
                try clear hcz25_0
                try clear hcz25_1
                try clear hcz25_2
                try clear hcz25_3
                try clear hcz25_4
                try clear hcz8_0
                try clear hcz8_1
                try clear hcz8_2
                try clear hcz8_3
                try clear hcz8_4
                try clear hfz10_0
                try clear hfz10_1
                try clear hfz10_2
                try clear hfz10_3
                try clear hfz10_4
                try clear hfz16_0
                try clear hfz16_1
                try clear hfz16_2
                try clear hfz16_3
                try clear hfz16_4
                try clear hfz21_0
                try clear hfz21_1
                try clear hfz21_2
                try clear hfz21_3
                try clear hfz21_4
                try clear hfz25_0
                try clear hfz25_1
                try clear hfz25_2
                try clear hfz25_3
                try clear hfz25_4
                try clear hfz8_0
                try clear hfz8_1
                try clear hfz8_2
                try clear hfz8_3
                try clear hfz8_4
                try clear hx315_0
                try clear p2
                try clear p3
                try clear p31
                try clear p315
                try clear p6
                try clear q3
                try clear q31
                try clear q315
                obtain ⟨x11_5, rfl, HA, HK5, HO_4, HO_6, BK301, HB⟩ := hrel
                cases gk with
                | zero => exact absurd HA.out (by simp [spiritlevellaw30_TernsimOnce.l2])
                | succ k5 =>
                 have H := HA.out
                 clear HA
                 simp only [spiritlevellaw30_TernsimOnce.l2] at H
                 by_cases c33 : x11_5 < x10_4
                 ·rw [if_pos c33] at H
                  have c33b0 : decide (x11_5 < x10_4) = true := decide_eq_true c33
                  clear c33
                  by_cases c34 : 0 ≤ x10_4
                  ·rw [if_pos c34] at H
                   have c34b0 : decide (0 ≤ x10_4) = true := decide_eq_true c34
                   clear c34
                   by_cases c35 : x10_4 < (t304.length : Int)
                   ·rw [if_pos c35] at H
                    have c35b0 : decide (x10_4 < (t304.length : Int)) = true := decide_eq_true c35
                    clear c35
                    by_cases c36 : 0 ≤ x11_5
                    ·rw [if_pos c36] at H
                     have c36b0 : decide (0 ≤ x11_5) = true := decide_eq_true c36
                     clear c36
                     by_cases c37 : x11_5 < (t304.length : Int)
                     ·rw [if_pos c37] at H
                      have c37b0 : decide (x11_5 < (t304.length : Int)) = true := decide_eq_true c37
                      clear c37
                      replace H := Option.bind_eq_some_iff.mp H
                      obtain ⟨t319, A380, H⟩ := H
                      replace H : (if t319 = true then (some false) else (spiritlevellaw30_TernsimOnce.l2 k5 t302 t304 x6_2 x10_4 (wrap64 (x11_5 + 1)) a0_0 l0_1 l0_2 l0_3 l0_4)) = some r := H
                      have A38 := M_ A380
                      clear A380
                      by_cases c39 : t319 = true
                      ·subst c39
                       have H1 : (some false) = some r := by rw [if_pos rfl] at H; exact H
                       clear H
                       have H := H1
                       clear H1
                       exact absurd ((Option.some.inj H).trans HTR_.out) (by decide)
                      ·replace c39 := Bool.eq_false_iff.mpr c39
                       subst c39
                       have H1 : (spiritlevellaw30_TernsimOnce.l2 k5 t302 t304 x6_2 x10_4 (wrap64 (x11_5 + 1)) a0_0 l0_1 l0_2 l0_3 l0_4) = some r := by rw [if_neg (show ¬ (false = true) by decide)] at H; exact H
                       clear H
                       have H := H1
                       clear H1
                       have H' := M_ H
                       clear H
                       try go_wp2
                       have n0_ := M_ (Kd.N_drew HO_4.out)
                       have n1_ := M_ (Kd.R_drew HO_6.out)
                       have n2_ := M_ (blk_drew BK301.out)
                       have n3_ := M_ (below_drew1 HB.out)
                       clear HO_4
                       clear HO_6
                       clear BK301
                       clear HB
                       have HO_4 := n0_
                       have HO_6 := n1_
                       have BK301 := n2_
                       have HB := n3_
                       clear n0_ n1_ n2_ n3_
                       have p317 : 0 ≤ (x10_4 : Int) := of_decide_eq_true (by first | (with_reducible assumption) | assumption)
                       have q317 : x10_4 < (t304.length : Int) := of_decide_eq_true (by first | (with_reducible assumption) | assumption)
                       obtain ⟨ad317, A317_0, c317_0, e317, hx317_0, hl317_0, hi317_0⟩ := at_L4 (Kd.N_reads' HO_4.out).2.2 x10_4 p317 q317
                       cases e317
                       obtain ⟨ce317, hce317, hMe317, hcc317⟩ := Kd.N_get HO_4.out [] x10_4 p317 (by first | exact q317 | exact of_decide_eq_true (by first | (with_reducible assumption) | assumption) | (have e_ := (Kd.N_reads' HO_4.out).1; omega))
                       obtain ⟨ua317_0, uc317_0, rfl, ul317_0, ge317_0⟩ := Kd.FK_slice_open hMe317
                       have hv317_0 := hcc317 0 _ rfl
                       rw [Nat.add_zero, show ((Kd.slice 5 (Kd.int .u8))).sz = 1 from rfl, Nat.mul_one] at hv317_0
                       replace hv317_0 := Option.some.inj (hv317_0.symm.trans hx317_0)
                       injection hv317_0 with hva_ hvn_ hvc_
                       rw [hva_] at ge317_0
                       rw [hvc_] at ul317_0
                       have HL317_0 := M_ (show Kd.V (Kd.int .u8) 5 _ w.heap.size _ _ (rd_L4 t304 x10_4) from Kd.V_mk ul317_0 ge317_0)
                       clear hva_ hvn_ hvc_ ge317_0 ul317_0
                       clear hcc317 hce317
                       have HR317_0 := M_ hi317_0
                       have HC317_0 := M_ hl317_0
                       clear hi317_0 hl317_0
                       replace p317 := eq_true p317
                       replace q317 := eq_true q317
                       have p318 : 0 ≤ (x11_5 : Int) := of_decide_eq_true (by first | (with_reducible assumption) | assumption)
                       have q318 : x11_5 < (t304.length : Int) := of_decide_eq_true (by first | (with_reducible assumption) | assumption)
                       obtain ⟨ad318, A318_0, c318_0, e318, hx318_0, hl318_0, hi318_0⟩ := at_L4 (Kd.N_reads' HO_4.out).2.2 x11_5 p318 q318
                       obtain rfl : ad317 = ad318 := (by injection e318)
                       obtain ⟨ce318, hce318, hMe318, hcc318⟩ := Kd.N_get HO_4.out [] x11_5 p318 (by first | exact q318 | exact of_decide_eq_true (by first | (with_reducible assumption) | assumption) | (have e_ := (Kd.N_reads' HO_4.out).1; omega))
                       obtain ⟨ua318_0, uc318_0, rfl, ul318_0, ge318_0⟩ := Kd.FK_slice_open hMe318
                       have hv318_0 := hcc318 0 _ rfl
                       rw [Nat.add_zero, show ((Kd.slice 5 (Kd.int .u8))).sz = 1 from rfl, Nat.mul_one] at hv318_0
                       replace hv318_0 := Option.some.inj (hv318_0.symm.trans hx318_0)
                       injection hv318_0 with hva_ hvn_ hvc_
                       rw [hva_] at ge318_0
                       rw [hvc_] at ul318_0
                       have HL318_0 := M_ (show Kd.V (Kd.int .u8) 5 _ w.heap.size _ _ (rd_L4 t304 x11_5) from Kd.V_mk ul318_0 ge318_0)
                       clear hva_ hvn_ hvc_ ge318_0 ul318_0
                       clear hcc318 hce318
                       have HR318_0 := M_ hi318_0
                       have HC318_0 := M_ hl318_0
                       clear hi318_0 hl318_0
                       replace p318 := eq_true p318
                       replace q318 := eq_true q318
                       refine start_ (n := 9) (S := fun w' => w'.cell? (ad317.add (x10_4).toNat) = some (.slice A317_0 (rd_L4 t304 x10_4).length c317_0) ∧ w'.cell? (ad317.add (x11_5).toNat) = some (.slice A318_0 (rd_L4 t304 x11_5).length c318_0)) (ds := []) z27_ (by kernel_rfl) rfl rfl ⟨hx317_0, hx318_0⟩ (fun hHeld => ?_); refine with_tabW spiritlevellaw30_TernsimOnce.tab23 spiritlevellaw30_TernsimOnce.bits23 (fun HT_ HW_ => ?_)
                       generalize wr.drew = w40 at HO_4 HO_6 BK301 HB HL317_0 HL318_0 HR317_0 HR318_0 hx317_0 hx318_0 hHeld ⊢
                       refine pure_ (i := 0) (N := some 75) (v := ?_) (a' := ?_) z28_ rfl rfl (any_of HT_.out (by kernel_rfl)) (fun _ _ _ h => h) (Or.inl ⟨by rfl, ?_⟩) ?_ ?_
                       rotate_left
                       ·intro w'
                        go_simp
                        with_reducible rfl
                       rotate_left
                       ·simp only [Act.put, e1_, e2_, e3_, i64_w, i32_w]
                        rfl
                       refine pure_ (i := 1) (N := some 76) (v := ?_) (a' := ?_) z29_ rfl rfl (any_of HT_.out (by kernel_rfl)) (fun _ _ _ h => h) (Or.inl ⟨by rfl, ?_⟩) ?_ ?_
                       rotate_left
                       ·intro w'
                        go_simp
                        with_reducible rfl
                       rotate_left
                       ·simp only [Act.put, e1_, e2_, e3_, i64_w, i32_w]
                        rfl
                       refine pure_ (i := 2) (N := some 77) (v := ?_) (a' := ?_) z30_ rfl rfl (any_of HT_.out (by kernel_rfl)) (fun _ _ _ h => h) (Or.inl ⟨by rfl, ?_⟩) ?_ ?_
                       rotate_left
                       ·intro w'
                        go_simp
                        with_reducible rfl
                       rotate_left
                       ·simp only [Act.put, e1_, e2_, e3_, i64_w, i32_w]
                        rfl
                       refine pure_ (i := 4) (N := some 79) (v := ?_) (a' := ?_) z31_ rfl rfl (any_of HT_.out (by kernel_rfl)) (fun _ _ _ h => h) (Or.inl ⟨by rfl, ?_⟩) ?_ ?_
                       rotate_left
                       ·intro w'
                        go_simp
                        with_reducible rfl
                       rotate_left
                       ·simp only [Act.put, e1_, e2_, e3_, i64_w, i32_w]
                        rfl
                       refine pure_ (i := 5) (N := some 80) (v := ?_) (a' := ?_) z32_ rfl rfl (any_of HT_.out (by kernel_rfl)) (fun _ _ _ h => h) (Or.inl ⟨by rfl, ?_⟩) ?_ ?_
                       rotate_left
                       ·intro w'
                        go_simp
                        with_reducible rfl
                       rotate_left
                       ·simp only [Act.put, e1_, e2_, e3_, i64_w, i32_w]
                        rfl
                       refine pure_ (i := 6) (N := some 81) (v := ?_) (a' := ?_) z33_ rfl rfl (any_of HT_.out (by kernel_rfl)) (fun _ _ _ h => h) (Or.inl ⟨by rfl, ?_⟩) ?_ ?_
                       rotate_left
                       ·intro w'
                        go_simp
                        with_reducible rfl
                       rotate_left
                       ·simp only [Act.put, e1_, e2_, e3_, i64_w, i32_w]
                        rfl
                       refine take_ (i := 3) (N := some 78) (v := ?_) (a' := ?_) z34_ rfl rfl (take_ofW HT_.out HW_.out (by kernel_rfl)) (fun _ _ _ h => h) (Or.inl ⟨by rfl, ?_⟩) hHeld ?_ ?_
                       rotate_left
                       ·rintro w' ⟨s0, s1⟩
                        go_simp
                        with_reducible rfl
                       rotate_left
                       ·simp only [Act.put, e1_, e2_, e3_, i64_w, i32_w]
                        rfl
                       refine take_ (i := 7) (N := some 82) (v := ?_) (a' := ?_) z35_ rfl rfl (take_ofW HT_.out HW_.out (by kernel_rfl)) (fun _ _ _ h => h) (Or.inl ⟨by rfl, ?_⟩) hHeld ?_ ?_
                       rotate_left
                       ·rintro w' ⟨s0, s1⟩
                        go_simp
                        with_reducible rfl
                       rotate_left
                       ·simp only [Act.put, e1_, e2_, e3_, i64_w, i32_w]
                        rfl
                       refine one_ (i := 8) (N := some 83) z36_ rfl rfl (one_of HT_.out (by kernel_rfl)) (by decide) (fun K hK => ?_)
                       refine goes_ Try.func33 (by kernel_rfl) rfl #[.slice A317_0 (rd_L4 t304 x10_4).length c317_0, .slice A318_0 (rd_L4 t304 x11_5).length c318_0] (by rfl) rfl rfl (by (try simp only [List.map_toArray, List.map_cons, List.map_nil]); first | done | rfl | (simp only [List.length_drop, List.length_take]; rfl)) ?_
                       with_reducible refine (spiritlevelref05_Same.calls k5 _ _ (rd_L4 t304 x10_4) _ _ (rd_L4 t304 x11_5) false _ ?side1 ?side2 ?side3 ?side4 A38.out).mono ?_
                       (case side1 => repeat (first | exact (by repeat (first | (with_reducible exact HR317_0.out) | (with_reducible refine c0_ ?_ _) | (with_reducible refine c1_ ?_ _) | (with_reducible refine c2_ ?_) | exact HR317_0.out)) | (with_reducible refine c0_ ?_ _) | (with_reducible refine c1_ ?_ _) | (with_reducible refine c2_ ?_)))
                       (case side2 => exact HC317_0.out)
                       (case side3 => repeat (first | exact (by repeat (first | (with_reducible exact HR318_0.out) | (with_reducible refine c0_ ?_ _) | (with_reducible refine c1_ ?_ _) | (with_reducible refine c2_ ?_) | exact HR318_0.out)) | (with_reducible refine c0_ ?_ _) | (with_reducible refine c1_ ?_ _) | (with_reducible refine c2_ ?_)))
                       (case side4 => exact HC318_0.out)
                       rintro e w' ⟨rfl, ⟨nd, rfl⟩⟩
                       refine ⟨_, rfl, ?_⟩
                       refine hK.out _ _ ⟨hHeld.1, hHeld.2⟩ (fun hHeld => ?_)
                       clear hK K
                       refine norm_ (a' := ?_) ?_ ?_
                       rotate_left
                       ·show Act.put _ (some 83) _ = _
                        simp only [Act.put, e1_, e2_, e3_, i64_w, i32_w]
                        rfl
                       refine done_ (done_of HT_.out (by kernel_rfl)) ?_
                       try go_wp2
                       go_roundg k5
                       case measure => have := HJ2.out; have := HK2.out; have := HJ23.out; have := HK4.out; have := HK5.out; omega
                       case rel => exact ⟨(wrap64 (x11_5 + 1)), (by first | rfl | (simp; done) | (simp [*]; done)), H', ⟨by have := HJ2.out; have := HK2.out; have := HJ23.out; have := HK4.out; have := HK5.out; omega⟩, ⟨by (with_reducible repeat (first | apply a6_ | apply a7_ | apply a8_)); exact HO_4.out⟩, ⟨by (with_reducible repeat (first | apply a0_ | apply a1_ | apply a2_)); exact HO_6.out⟩, ⟨by (with_reducible repeat (first | refine blk_drewN ?_ _ | refine blk_drew ?_ | refine blk_alloc ?_ _)); exact BK301.out⟩, ⟨by repeat (first | (with_reducible first | exact HB.out | apply b0_ | apply b1_ | apply b2_ | refine below_set ?_ GE301.out) | exact HB.out)⟩⟩
                     ·rw [if_neg c37] at H
                      exact absurd H (by simp)
                    ·rw [if_neg c36] at H
                     exact absurd H (by simp)
                   ·rw [if_neg c35] at H
                    exact absurd H (by simp)
                  ·rw [if_neg c34] at H
                   exact absurd H (by simp)
                 ·rw [if_neg c33] at H
                  have c33b0 : decide (x11_5 < x10_4) = false := decide_eq_false c33
                  clear c33
                  by_cases c41 : 0 ≤ x10_4
                  ·rw [if_pos c41] at H
                   have c41b0 : decide (0 ≤ x10_4) = true := decide_eq_true c41
                   clear c41
                   by_cases c42 : x10_4 < (t304.length : Int)
                   ·rw [if_pos c42] at H
                    have c42b0 : decide (x10_4 < (t304.length : Int)) = true := decide_eq_true c42
                    clear c42
                    replace H := Option.bind_eq_some_iff.mp H
                    obtain ⟨⟨t321, t324⟩, A430, H⟩ := H
                    replace H : (if t324 = 0 then (spiritlevellaw30_TernsimOnce.l3 k5 t302 t304 x6_2 x10_4 t321 false 0 a0_0 l0_1 l0_2 l0_3 l0_4) else (some false)) = some r := H
                    have A43 := M_ A430
                    clear A430
                    by_cases c44 : t324 = 0
                    ·rw [if_pos c44] at H
                     have c44b0 : (t324 == 0) = true := beq_iff_eq.mpr c44
                     have c44b1 : (t324 != 0) = false := bne_eq_false_iff_eq.mpr c44
                     clear c44
                     have H' := M_ H
                     clear H
                     try go_wp2
                     have n0_ := M_ (Kd.N_drew HO_4.out)
                     have n1_ := M_ (Kd.R_drew HO_6.out)
                     have n2_ := M_ (blk_drew BK301.out)
                     have n3_ := M_ (below_drew1 HB.out)
                     clear HO_4
                     clear HO_6
                     clear BK301
                     clear HB
                     have HO_4 := n0_
                     have HO_6 := n1_
                     have BK301 := n2_
                     have HB := n3_
                     clear n0_ n1_ n2_ n3_
                     have p320 : 0 ≤ (x10_4 : Int) := of_decide_eq_true (by first | (with_reducible assumption) | assumption)
                     have q320 : x10_4 < (t304.length : Int) := of_decide_eq_true (by first | (with_reducible assumption) | assumption)
                     obtain ⟨ad320, A320_0, c320_0, e320, hx320_0, hl320_0, hi320_0⟩ := at_L4 (Kd.N_reads' HO_4.out).2.2 x10_4 p320 q320
                     cases e320
                     obtain ⟨ce320, hce320, hMe320, hcc320⟩ := Kd.N_get HO_4.out [] x10_4 p320 (by first | exact q320 | exact of_decide_eq_true (by first | (with_reducible assumption) | assumption) | (have e_ := (Kd.N_reads' HO_4.out).1; omega))
                     obtain ⟨ua320_0, uc320_0, rfl, ul320_0, ge320_0⟩ := Kd.FK_slice_open hMe320
                     have hv320_0 := hcc320 0 _ rfl
                     rw [Nat.add_zero, show ((Kd.slice 5 (Kd.int .u8))).sz = 1 from rfl, Nat.mul_one] at hv320_0
                     replace hv320_0 := Option.some.inj (hv320_0.symm.trans hx320_0)
                     injection hv320_0 with hva_ hvn_ hvc_
                     rw [hva_] at ge320_0
                     rw [hvc_] at ul320_0
                     have HL320_0 := M_ (show Kd.V (Kd.int .u8) 5 _ w.heap.size _ _ (rd_L4 t304 x10_4) from Kd.V_mk ul320_0 ge320_0)
                     clear hva_ hvn_ hvc_ ge320_0 ul320_0
                     clear hcc320 hce320
                     have HR320_0 := M_ hi320_0
                     have HC320_0 := M_ hl320_0
                     clear hi320_0 hl320_0
                     replace p320 := eq_true p320
                     replace q320 := eq_true q320
                     obtain ⟨Ao46, co46, eo46⟩ := Kd.R_slice HO_6.out
                     (first | subst eo46 | (injection eo46 with f1_ f2_ f3_; have f4_ := f1_.symm; have f5_ := f3_.symm; clear f1_ f2_ f3_; subst f4_; subst f5_))
                     refine start_ (n := 12) (S := fun w' => w'.cell? ⟨gb301, 0, none⟩ = some (.int .i64 a0_0) ∧ w'.cell? ⟨gb301, 1, none⟩ = some (.slice A0_1 l0_1.length c0_1) ∧ w'.cell? ⟨gb301, 2, none⟩ = some (.slice A0_2 l0_2.length c0_2) ∧ w'.cell? ⟨gb301, 3, none⟩ = some (.slice A0_3 l0_3.length c0_3) ∧ w'.cell? ⟨gb301, 4, none⟩ = some (.slice A0_4 l0_4.length c0_4) ∧ w'.cell? (ad320.add (x10_4).toNat) = some (.slice A320_0 (rd_L4 t304 x10_4).length c320_0)) (ds := []) z14_ (by kernel_rfl) rfl rfl ⟨(blk_cell BK301.out 0).trans rfl, (blk_cell BK301.out 1).trans rfl, (blk_cell BK301.out 2).trans rfl, (blk_cell BK301.out 3).trans rfl, (blk_cell BK301.out 4).trans rfl, hx320_0⟩ (fun hHeld => ?_); refine with_tabW spiritlevellaw30_TernsimOnce.tab25 spiritlevellaw30_TernsimOnce.bits25 (fun HT_ HW_ => ?_)
                     generalize wr.drew = w45 at HO_4 HO_6 BK301 HB HL320_0 HR320_0 hx320_0 hHeld ⊢
                     refine pure_ (i := 1) (N := some 86) (v := ?_) (a' := ?_) z37_ rfl rfl (any_of HT_.out (by kernel_rfl)) (fun _ _ _ h => h) (Or.inl ⟨by rfl, ?_⟩) ?_ ?_
                     rotate_left
                     ·intro w'
                      go_simp
                      with_reducible rfl
                     rotate_left
                     ·simp only [Act.put, e1_, e2_, e3_, i64_w, i32_w]
                      rfl
                     refine pure_ (i := 2) (N := some 87) (v := ?_) (a' := ?_) z38_ rfl rfl (any_of HT_.out (by kernel_rfl)) (fun _ _ _ h => h) (Or.inl ⟨by rfl, ?_⟩) ?_ ?_
                     rotate_left
                     ·intro w'
                      go_simp
                      with_reducible rfl
                     rotate_left
                     ·simp only [Act.put, e1_, e2_, e3_, i64_w, i32_w]
                      rfl
                     refine pure_ (i := 3) (N := some 88) (v := ?_) (a' := ?_) z39_ rfl rfl (any_of HT_.out (by kernel_rfl)) (fun _ _ _ h => h) (Or.inl ⟨by rfl, ?_⟩) ?_ ?_
                     rotate_left
                     ·intro w'
                      go_simp
                      with_reducible rfl
                     rotate_left
                     ·simp only [Act.put, e1_, e2_, e3_, i64_w, i32_w]
                      rfl
                     refine pure_ (i := 5) (N := some 90) (v := ?_) (a' := ?_) z40_ rfl rfl (any_of HT_.out (by kernel_rfl)) (fun _ _ _ h => h) (Or.inl ⟨by rfl, ?_⟩) ?_ ?_
                     rotate_left
                     ·intro w'
                      go_simp
                      with_reducible rfl
                     rotate_left
                     ·simp only [Act.put, e1_, e2_, e3_, i64_w, i32_w]
                      rfl
                     refine take_ (i := 0) (N := some 85) (v := ?_) (a' := ?_) z41_ rfl rfl (take_ofW HT_.out HW_.out (by kernel_rfl)) (fun _ _ _ h => h) (Or.inl ⟨by rfl, ?_⟩) hHeld ?_ ?_
                     rotate_left
                     ·rintro w' ⟨s0, s1, s2, s3, s4, s5⟩
                      go_simp
                      with_reducible rfl
                     rotate_left
                     ·simp only [Act.put, e1_, e2_, e3_, i64_w, i32_w]
                      rfl
                     refine take_ (i := 4) (N := some 89) (v := ?_) (a' := ?_) z42_ rfl rfl (take_ofW HT_.out HW_.out (by kernel_rfl)) (fun _ _ _ h => h) (Or.inl ⟨by rfl, ?_⟩) hHeld ?_ ?_
                     rotate_left
                     ·rintro w' ⟨s0, s1, s2, s3, s4, s5⟩
                      go_simp
                      with_reducible rfl
                     rotate_left
                     ·simp only [Act.put, e1_, e2_, e3_, i64_w, i32_w]
                      rfl
                     refine one_ (i := 6) (N := some 91) z43_ rfl rfl (one_of HT_.out (by kernel_rfl)) (by decide) (fun K hK => ?_)
                     refine goes_ Try.func34 (by kernel_rfl) rfl #[.agg #[.int .i64 a0_0, .slice A0_1 l0_1.length c0_1, .slice A0_2 l0_2.length c0_2, .slice A0_3 l0_3.length c0_3, .slice A0_4 l0_4.length c0_4], .slice A320_0 (rd_L4 t304 x10_4).length c320_0, .slice Ao46 x6_2.length co46] (by rfl) rfl rfl (by (try simp only [List.map_toArray, List.map_cons, List.map_nil]); first | done | rfl | (simp only [List.length_drop, List.length_take]; rfl)) ?_
                     with_reducible refine (ternary_Next.calls k5 a0_0 _ _ l0_1 _ _ l0_2 _ _ l0_3 _ _ l0_4 _ _ (rd_L4 t304 x10_4) _ _ x6_2 t321 t324 _ ?side1 ?side2 ?side3 ?side4 ?side5 ?side6 ?side7 ?side8 ?side9 ?side10 ?side11 ?side12 A43.out).mono ?_
                     (case side1 => repeat (first | exact (Kd.C_below HR0_1.out HB.out) | (with_reducible refine c0_ ?_ _) | (with_reducible refine c1_ ?_ _) | (with_reducible refine c2_ ?_)))
                     (case side2 => exact HC0_1.out)
                     (case side3 => repeat (first | exact (Kd.C_below HR0_2.out HB.out) | (with_reducible refine c0_ ?_ _) | (with_reducible refine c1_ ?_ _) | (with_reducible refine c2_ ?_)))
                     (case side4 => exact HC0_2.out)
                     (case side5 => repeat (first | exact (Kd.C_below HR0_3.out HB.out) | (with_reducible refine c0_ ?_ _) | (with_reducible refine c1_ ?_ _) | (with_reducible refine c2_ ?_)))
                     (case side6 => exact HC0_3.out)
                     (case side7 => repeat (first | exact (Kd.C_below HR0_4.out HB.out) | (with_reducible refine c0_ ?_ _) | (with_reducible refine c1_ ?_ _) | (with_reducible refine c2_ ?_)))
                     (case side8 => exact HC0_4.out)
                     (case side9 => repeat (first | exact (by repeat (first | (with_reducible exact HR320_0.out) | (with_reducible refine c0_ ?_ _) | (with_reducible refine c1_ ?_ _) | (with_reducible refine c2_ ?_) | exact HR320_0.out)) | (with_reducible refine c0_ ?_ _) | (with_reducible refine c1_ ?_ _) | (with_reducible refine c2_ ?_)))
                     (case side10 => exact HC320_0.out)
                     (case side11 => repeat (first | exact (Kd.R_reads' HO_6.out).2.2 | (with_reducible refine c0_ ?_ _) | (with_reducible refine c1_ ?_ _) | (with_reducible refine c2_ ?_)))
                     (case side12 => exact (Kd.R_reads' HO_6.out).2.1)
                     rintro e w47 ⟨v322, rfl, ho0, hb⟩
                     have HS5_ := (hb.cell (World.block_lt_of_cell? _ _ (hHeld.2.2.2.2.2))).trans (hHeld.2.2.2.2.2)
                     refine ⟨_, rfl, ?_⟩
                     have n0_ := M_ (Kd.N_elder' (by (with_reducible repeat (first | apply a6_ | apply a7_ | apply a8_)); exact HO_4.out) (Kd.R_base ho0) hb)
                     have n1_ := M_ (Kd.R_elder' (by (with_reducible repeat (first | apply a0_ | apply a1_ | apply a2_)); exact HO_6.out) (Kd.R_base ho0) hb)
                     have n2_ := M_ (Kd.V_elder' (by (with_reducible repeat (first | apply a3_ | apply a4_ | apply a5_)); exact HL320_0.out) (Kd.R_base ho0) hb)
                     have n3_ := M_ (Kd.R_lower (Kd.R_new' ho0 (Kd.R_lt (by (with_reducible repeat (first | apply a0_ | apply a1_ | apply a2_)); exact HO_6.out))) (below_size (by repeat (first | (with_reducible first | exact HB.out | apply b0_ | apply b1_ | apply b2_ | refine below_set ?_ GE301.out) | exact HB.out))))
                     have n4_ := M_ (blk_below (g := gb301) (o := .cells #[.int .i64 a0_0, .slice A0_1 l0_1.length c0_1, .slice A0_2 l0_2.length c0_2, .slice A0_3 l0_3.length c0_3, .slice A0_4 l0_4.length c0_4] 26 (0, 0)) (by (with_reducible repeat (first | refine blk_drewN ?_ _ | refine blk_drew ?_ | refine blk_alloc ?_ _)); exact BK301.out) hb)
                     have n5_ := M_ (Kd.C_below (by repeat (first | (with_reducible exact HR320_0.out) | (with_reducible refine c0_ ?_ _) | (with_reducible refine c1_ ?_ _) | (with_reducible refine c2_ ?_) | exact HR320_0.out)) hb)
                     have n6_ := M_ (below_step (by repeat (first | (with_reducible first | exact HB.out | apply b0_ | apply b1_ | apply b2_ | refine below_set ?_ GE301.out) | exact HB.out)) hb)
                     clear HO_4
                     clear HO_6
                     clear HL320_0
                     clear BK301
                     clear HR320_0
                     clear HB
                     have HO_4 := n0_
                     have HO_6 := n1_
                     have HL320_0 := n2_
                     have HO323 := n3_
                     have BK301 := n4_
                     have HR320_0 := n5_
                     have HB := n6_
                     clear n0_ n1_ n2_ n3_ n4_ n5_ n6_
                     (try clear hb)
                     (try clear hb2)
                     (try clear hk)
                     (try clear hi)
                     (try clear ho0)
                     refine hK.out _ _ ⟨(blk_cell BK301.out 0).trans rfl, (blk_cell BK301.out 1).trans rfl, (blk_cell BK301.out 2).trans rfl, (blk_cell BK301.out 3).trans rfl, (blk_cell BK301.out 4).trans rfl, HS5_⟩ (fun hHeld => ?_)
                     clear hK K
                     refine norm_ (a' := ?_) ?_ ?_
                     rotate_left
                     ·show Act.put _ (some 91) _ = _
                      simp only [Act.put, e1_, e2_, e3_, i64_w, i32_w]
                      rfl
                     refine pure_ (i := 7) (N := some 84) (v := ?_) (a' := ?_) z22_ rfl rfl (any_of HT_.out (by kernel_rfl)) (fun _ _ _ h => h) (Or.inl ⟨by rfl, ?_⟩) ?_ ?_
                     rotate_left
                     ·intro w'
                      go_simp
                      with_reducible rfl
                     rotate_left
                     ·simp only [Act.put, e1_, e2_, e3_, i64_w, i32_w]
                      rfl
                     refine pure_ (i := 8) (N := some 92) (v := ?_) (a' := ?_) z23_ rfl rfl (any_of HT_.out (by kernel_rfl)) (fun _ _ _ h => h) (Or.inl ⟨by rfl, ?_⟩) ?_ ?_
                     rotate_left
                     ·intro w'
                      go_simp
                      with_reducible rfl
                     rotate_left
                     ·simp only [Act.put, e1_, e2_, e3_, i64_w, i32_w]
                      rfl
                     refine pure_ (i := 9) (N := some 93) (v := ?_) (a' := ?_) z24_ rfl rfl (any_of HT_.out (by kernel_rfl)) (fun _ _ _ h => h) (Or.inl ⟨by rfl, ?_⟩) ?_ ?_
                     rotate_left
                     ·intro w'
                      go_simp
                      with_reducible rfl
                     rotate_left
                     ·simp only [Act.put, e1_, e2_, e3_, i64_w, i32_w]
                      rfl
                     refine pure_ (i := 10) (N := some 12) (v := ?_) (a' := ?_) z25_ rfl rfl (any_of HT_.out (by kernel_rfl)) (fun _ _ _ h => h) (Or.inl ⟨by rfl, ?_⟩) ?_ ?_
                     rotate_left
                     ·intro w'
                      go_simp
                      with_reducible rfl
                     rotate_left
                     ·simp only [Act.put, e1_, e2_, e3_, i64_w, i32_w]
                      rfl
                     refine pure_ (i := 11) (N := some 13) (v := ?_) (a' := ?_) z26_ rfl rfl (any_of HT_.out (by kernel_rfl)) (fun _ _ _ h => h) (Or.inl ⟨by rfl, ?_⟩) ?_ ?_
                     rotate_left
                     ·intro w'
                      go_simp
                      with_reducible rfl
                     rotate_left
                     ·simp only [Act.put, e1_, e2_, e3_, i64_w, i32_w]
                      rfl
                     refine done_ (done_of HT_.out (by kernel_rfl)) ?_
                     try go_wp2
                     go_loopg [14, 15] k5 (fun kq v14 v15 w' => ∃ (x14_6 : Bool) (x15_6 : Int), v14 = .bool x14_6 ∧ v15 = .int .i64 x15_6 ∧ Aside0 (spiritlevellaw30_TernsimOnce.l3 kq t302 t304 x6_2 x10_4 t321 x14_6 x15_6 a0_0 l0_1 l0_2 l0_3 l0_4 = some r) ∧ Aside0 (kq ≤ k5) ∧ Aside0 (Kd.N (Kd.slice 5 (Kd.int .u8)) 70 w' w.heap.size (fun k_ => some k_ ≠ ((.slice Ao46 x6_2.length co46) : Value).ownBlock ∧ some k_ ≠ (v322 : Value).ownBlock ∧ k_ ≠ gb301) (.slice (some ad320) t304.length co18) t304) ∧ Aside0 (Kd.R (Kd.int .u8) 5 w' w.heap.size (fun k_ => some k_ ≠ (v322 : Value).ownBlock) (.slice Ao46 x6_2.length co46) x6_2) ∧ Aside0 (Kd.R (Kd.int .u8) 5 w' w.heap.size (fun k_ => some k_ ≠ ((.slice Ao46 x6_2.length co46) : Value).ownBlock) v322 t321) ∧ Aside0 (w'.heap[gb301]? = some (.cells #[.int .i64 a0_0, (.slice A0_1 l0_1.length c0_1), (.slice A0_2 l0_2.length c0_2), (.slice A0_3 l0_3.length c0_3), (.slice A0_4 l0_4.length c0_4)] 26 (0, 0))) ∧ Aside0 (Kd.C (Kd.int .u8) w' A320_0 (rd_L4 t304 x10_4).length (rd_L4 t304 x10_4)) ∧ Aside0 (Below w.heap.size w w'))
                     case atStart => exact ⟨(false), (0), (by first | rfl | (simp; done) | (simp [*]; done)), (by first | rfl | (simp; done) | (simp [*]; done)), H', ⟨Nat.le_refl _⟩, ⟨by (with_reducible repeat (first | apply a6_ | apply a7_ | apply a8_)); exact Kd.N_mono HO_4.out (fun _ hk => ⟨hk.1.1, ⟨hk.2, hk.1.2⟩⟩)⟩, ⟨by (with_reducible repeat (first | apply a0_ | apply a1_ | apply a2_)); exact Kd.R_mono HO_6.out (fun _ hk => hk.2)⟩, ⟨by (with_reducible repeat (first | apply a0_ | apply a1_ | apply a2_)); exact Kd.R_mono HO323.out (fun _ hk => hk.2)⟩, ⟨by (with_reducible repeat (first | refine blk_drewN ?_ _ | refine blk_drew ?_ | refine blk_alloc ?_ _)); exact BK301.out⟩, ⟨by repeat (first | (with_reducible exact HR320_0.out) | (with_reducible refine c0_ ?_ _) | (with_reducible refine c1_ ?_ _) | (with_reducible refine c2_ ?_) | exact HR320_0.out)⟩, ⟨by repeat (first | (with_reducible first | exact HB.out | apply b0_ | apply b1_ | apply b2_ | refine below_set ?_ GE301.out) | exact HB.out)⟩⟩
                     case round =>
                      clear H'
                      try clear c1
                      try clear c2
                      try clear p2
                      try clear c3
                      try clear p3
                      try clear q3
                      try clear hx3
                      try clear qi3
                      try clear c4
                      try clear p6
                      try clear c7
                      try clear c9
                      try clear c10
                      try clear c12
                      try clear c14
                      try clear c14b0
                      try clear c14b1
                      try clear c15
                      try clear c15b0
                      try clear c15b1
                      try clear c15b2
                      try clear c19
                      try clear c19b0
                      try clear c20
                      try clear c27
                      try clear c27b0
                      try clear c27b1
                      try clear c28
                      try clear c28b0
                      try clear c28b1
                      try clear c31
                      try clear p31
                      try clear q31
                      try clear hx31
                      try clear qi31
                      try clear c32
                      try clear c32b0
                      try clear p32
                      try clear q32
                      try clear hx32
                      try clear c33
                      try clear c33b0
                      try clear c34
                      try clear c34b0
                      try clear c35
                      try clear c35b0
                      try clear c36
                      try clear c36b0
                      try clear c37
                      try clear c37b0
                      try clear c39
                      try clear c41
                      try clear c41b0
                      try clear c42
                      try clear c42b0
                      try clear c44
                      try clear c44b0
                      try clear c44b1
                      try clear hcz10_0
                      try clear hcz10_1
                      try clear hcz10_2
                      try clear hcz10_3
                      try clear hcz10_4
                      try clear hcz16_0
                      try clear hcz16_1
                      try clear hcz16_2
                      try clear hcz16_3
                      try clear hcz16_4
                      try clear hcz21_0
                      try clear hcz21_1
                      try clear hcz21_2
                      try clear hcz21_3
                      try clear hcz21_4
                      try clear hcz25_0
                      try clear hcz25_1
                      try clear hcz25_2
                      try clear hcz25_3
                      try clear hcz25_4
                      try clear hcz8_0
                      try clear hcz8_1
                      try clear hcz8_2
                      try clear hcz8_3
                      try clear hcz8_4
                      try clear hfz10_0
                      try clear hfz10_1
                      try clear hfz10_2
                      try clear hfz10_3
                      try clear hfz10_4
                      try clear hfz16_0
                      try clear hfz16_1
                      try clear hfz16_2
                      try clear hfz16_3
                      try clear hfz16_4
                      try clear hfz21_0
                      try clear hfz21_1
                      try clear hfz21_2
                      try clear hfz21_3
                      try clear hfz21_4
                      try clear hfz25_0
                      try clear hfz25_1
                      try clear hfz25_2
                      try clear hfz25_3
                      try clear hfz25_4
                      try clear hfz8_0
                      try clear hfz8_1
                      try clear hfz8_2
                      try clear hfz8_3
                      try clear hfz8_4
                      try clear hx315_0
                      try clear hx317_0
                      try clear hx318_0
                      try clear hx320_0
                      try clear p2
                      try clear p3
                      try clear p31
                      try clear p315
                      try clear p317
                      try clear p318
                      try clear p320
                      try clear p6
                      try clear q3
                      try clear q31
                      try clear q315
                      try clear q317
                      try clear q318
                      try clear q320
                      obtain ⟨x14_6, x15_6, rfl, rfl, HA, HK6, HO_4, HO_6, HO_12, BK301, HR320_0, HB⟩ := hrel
                      cases gk with
                      | zero => exact absurd HA.out (by simp [spiritlevellaw30_TernsimOnce.l3])
                      | succ k6 =>
                       have H := HA.out
                       clear HA
                       simp only [spiritlevellaw30_TernsimOnce.l3] at H
                       by_cases c48 : x15_6 < (t304.length : Int)
                       ·rw [if_pos c48] at H
                        have c48b0 : decide (x15_6 < (t304.length : Int)) = true := decide_eq_true c48
                        clear c48
                        by_cases c49 : x14_6 = true
                        ·subst c49
                         have H1 : (spiritlevellaw30_TernsimOnce.l3 k6 t302 t304 x6_2 x10_4 t321 true (wrap64 (x15_6 + 1)) a0_0 l0_1 l0_2 l0_3 l0_4) = some r := by rw [if_pos rfl] at H; exact H
                         clear H
                         have H := H1
                         clear H1
                         have H' := M_ H
                         clear H
                         go_wp2
                         go_roundg k6
                         case measure => have := HJ2.out; have := HK2.out; have := HJ23.out; have := HK4.out; have := HK5.out; have := HK6.out; omega
                         case rel => exact ⟨(true), (wrap64 (x15_6 + 1)), (by first | rfl | (simp; done) | (simp [*]; done)), (by first | rfl | (simp; done) | (simp [*]; done)), H', ⟨by have := HJ2.out; have := HK2.out; have := HJ23.out; have := HK4.out; have := HK5.out; have := HK6.out; omega⟩, ⟨by (with_reducible repeat (first | apply a6_ | apply a7_ | apply a8_)); exact HO_4.out⟩, ⟨by (with_reducible repeat (first | apply a0_ | apply a1_ | apply a2_)); exact HO_6.out⟩, ⟨by (with_reducible repeat (first | apply a0_ | apply a1_ | apply a2_)); exact HO_12.out⟩, ⟨by (with_reducible repeat (first | refine blk_drewN ?_ _ | refine blk_drew ?_ | refine blk_alloc ?_ _)); exact BK301.out⟩, ⟨by repeat (first | (with_reducible exact HR320_0.out) | (with_reducible refine c0_ ?_ _) | (with_reducible refine c1_ ?_ _) | (with_reducible refine c2_ ?_) | exact HR320_0.out)⟩, ⟨by repeat (first | (with_reducible first | exact HB.out | apply b0_ | apply b1_ | apply b2_ | refine below_set ?_ GE301.out) | exact HB.out)⟩⟩
                        ·replace c49 := Bool.eq_false_iff.mpr c49
                         subst c49
                         have H1 : (if 0 ≤ x15_6 then ((spiritlevelref05_Same.f k6 t321 (rd_L4 t304 x15_6)).bind fun t326 => (spiritlevellaw30_TernsimOnce.l3 k6 t302 t304 x6_2 x10_4 t321 t326 (wrap64 (x15_6 + 1)) a0_0 l0_1 l0_2 l0_3 l0_4)) else (none)) = some r := by rw [if_neg (show ¬ (false = true) by decide)] at H; exact H
                         clear H
                         have H := H1
                         clear H1
                         by_cases c50 : 0 ≤ x15_6
                         ·rw [if_pos c50] at H
                          have c50b0 : decide (0 ≤ x15_6) = true := decide_eq_true c50
                          clear c50
                          replace H := Option.bind_eq_some_iff.mp H
                          obtain ⟨t326, A510, H⟩ := H
                          replace H : (spiritlevellaw30_TernsimOnce.l3 k6 t302 t304 x6_2 x10_4 t321 t326 (wrap64 (x15_6 + 1)) a0_0 l0_1 l0_2 l0_3 l0_4) = some r := H
                          have A51 := M_ A510
                          clear A510
                          have H' := M_ H
                          clear H
                          have p325 : 0 ≤ (x15_6 : Int) := of_decide_eq_true (by first | (with_reducible assumption) | assumption)
                          have q325 : x15_6 < (t304.length : Int) := of_decide_eq_true (by first | (with_reducible assumption) | assumption)
                          obtain ⟨ad325, A325_0, c325_0, e325, hx325_0, hl325_0, hi325_0⟩ := at_L4 (Kd.N_reads' HO_4.out).2.2 x15_6 p325 q325
                          obtain rfl : ad320 = ad325 := (by injection e325)
                          obtain ⟨ce325, hce325, hMe325, hcc325⟩ := Kd.N_get HO_4.out [] x15_6 p325 (by first | exact q325 | exact of_decide_eq_true (by first | (with_reducible assumption) | assumption) | (have e_ := (Kd.N_reads' HO_4.out).1; omega))
                          obtain ⟨ua325_0, uc325_0, rfl, ul325_0, ge325_0⟩ := Kd.FK_slice_open hMe325
                          have hv325_0 := hcc325 0 _ rfl
                          rw [Nat.add_zero, show ((Kd.slice 5 (Kd.int .u8))).sz = 1 from rfl, Nat.mul_one] at hv325_0
                          replace hv325_0 := Option.some.inj (hv325_0.symm.trans hx325_0)
                          injection hv325_0 with hva_ hvn_ hvc_
                          rw [hva_] at ge325_0
                          rw [hvc_] at ul325_0
                          have HL325_0 := M_ (show Kd.V (Kd.int .u8) 5 _ w.heap.size _ _ (rd_L4 t304 x15_6) from Kd.V_mk ul325_0 ge325_0)
                          clear hva_ hvn_ hvc_ ge325_0 ul325_0
                          clear hcc325 hce325
                          have HR325_0 := M_ hi325_0
                          have HC325_0 := M_ hl325_0
                          clear hi325_0 hl325_0
                          replace p325 := eq_true p325
                          replace q325 := eq_true q325
                          obtain ⟨Ao52, co52, eo52⟩ := Kd.R_slice HO_12.out
                          subst eo52
                          go_wp2_with (first | (go_at_call 33; (with_reducible refine (spiritlevelref05_Same.calls k6 _ _ t321 _ _ (rd_L4 t304 x15_6) t326 _ ?side1 ?side2 ?side3 ?side4 A51.out).mono ?_); (case side1 => repeat (first | exact (Kd.R_reads' HO_12.out).2.2 | (with_reducible refine c0_ ?_ _) | (with_reducible refine c1_ ?_ _) | (with_reducible refine c2_ ?_))); (case side2 => exact (Kd.R_reads' HO_12.out).2.1); (case side3 => repeat (first | exact (by repeat (first | (with_reducible exact HR325_0.out) | (with_reducible refine c0_ ?_ _) | (with_reducible refine c1_ ?_ _) | (with_reducible refine c2_ ?_) | exact HR325_0.out)) | (with_reducible refine c0_ ?_ _) | (with_reducible refine c1_ ?_ _) | (with_reducible refine c2_ ?_))); (case side4 => exact HC325_0.out); rintro e w' ⟨rfl, ⟨nd, rfl⟩⟩))
                          go_roundg k6
                          case measure => have := HJ2.out; have := HK2.out; have := HJ23.out; have := HK4.out; have := HK5.out; have := HK6.out; omega
                          case rel => exact ⟨(t326), (wrap64 (x15_6 + 1)), (by first | rfl | (simp; done) | (simp [*]; done)), (by first | rfl | (simp; done) | (simp [*]; done)), H', ⟨by have := HJ2.out; have := HK2.out; have := HJ23.out; have := HK4.out; have := HK5.out; have := HK6.out; omega⟩, ⟨by (with_reducible repeat (first | apply a6_ | apply a7_ | apply a8_)); exact HO_4.out⟩, ⟨by (with_reducible repeat (first | apply a0_ | apply a1_ | apply a2_)); exact HO_6.out⟩, ⟨by (with_reducible repeat (first | apply a0_ | apply a1_ | apply a2_)); exact HO_12.out⟩, ⟨by (with_reducible repeat (first | refine blk_drewN ?_ _ | refine blk_drew ?_ | refine blk_alloc ?_ _)); exact BK301.out⟩, ⟨by repeat (first | (with_reducible exact HR320_0.out) | (with_reducible refine c0_ ?_ _) | (with_reducible refine c1_ ?_ _) | (with_reducible refine c2_ ?_) | exact HR320_0.out)⟩, ⟨by repeat (first | (with_reducible first | exact HB.out | apply b0_ | apply b1_ | apply b2_ | refine below_set ?_ GE301.out) | exact HB.out)⟩⟩
                         ·rw [if_neg c50] at H
                          exact absurd H (by simp)
                       ·rw [if_neg c48] at H
                        have c48b0 : decide (x15_6 < (t304.length : Int)) = false := decide_eq_false c48
                        clear c48
                        by_cases c53 : (wrap64 (x10_4 + 1)) < (t304.length : Int)
                        ·rw [if_pos c53] at H
                         have c53b0 : decide ((wrap64 (x10_4 + 1)) < (t304.length : Int)) = true := decide_eq_true c53
                         clear c53
                         obtain ⟨ji54, hji54⟩ : ∃ j_ : Int, (wrap64 (x10_4 + 1)) = j_ := ⟨_, rfl⟩
                         replace H : (if 0 ≤ (ji54) then ((spiritlevelref05_Same.f k6 t321 (rd_L4 t304 (ji54))).bind fun t328 => (if t328 = true then (if x14_6 = true then (spiritlevellaw30_TernsimOnce.l1 k6 t302 t304 x6_2 ji54 a0_0 l0_1 l0_2 l0_3 l0_4) else (some false)) else (some false))) else (none)) = some r := by first | (rw [hji54] at H; exact H) | (simp only [hji54] at H ⊢; exact H)
                         (try rw [hji54] at c53b0)
                         have hji54w : (IntKind.i64.wrap (x10_4 + 1)) = ji54 := (i64_w _).trans hji54
                         by_cases c55 : 0 ≤ (ji54)
                         ·rw [if_pos c55] at H
                          have c55b0 : decide (0 ≤ (ji54)) = true := decide_eq_true c55
                          clear c55
                          replace H := Option.bind_eq_some_iff.mp H
                          obtain ⟨t328, A560, H⟩ := H
                          replace H : (if t328 = true then (if x14_6 = true then (spiritlevellaw30_TernsimOnce.l1 k6 t302 t304 x6_2 ji54 a0_0 l0_1 l0_2 l0_3 l0_4) else (some false)) else (some false)) = some r := H
                          have A56 := M_ A560
                          clear A560
                          by_cases c57 : t328 = true
                          ·subst c57
                           have H1 : (if x14_6 = true then (spiritlevellaw30_TernsimOnce.l1 k6 t302 t304 x6_2 ji54 a0_0 l0_1 l0_2 l0_3 l0_4) else (some false)) = some r := by rw [if_pos rfl] at H; exact H
                           clear H
                           have H := H1
                           clear H1
                           by_cases c58 : x14_6 = true
                           ·subst c58
                            have H1 : (spiritlevellaw30_TernsimOnce.l1 k6 t302 t304 x6_2 ji54 a0_0 l0_1 l0_2 l0_3 l0_4) = some r := by rw [if_pos rfl] at H; exact H
                            clear H
                            have H := H1
                            clear H1
                            have H' := M_ H
                            clear H
                            have p327 : 0 ≤ ((ji54) : Int) := of_decide_eq_true (by first | (with_reducible assumption) | assumption)
                            have q327 : (ji54) < (t304.length : Int) := of_decide_eq_true (by first | (with_reducible assumption) | assumption)
                            obtain ⟨ad327, A327_0, c327_0, e327, hx327_0, hl327_0, hi327_0⟩ := at_L4 (Kd.N_reads' HO_4.out).2.2 (ji54) p327 q327
                            obtain rfl : ad320 = ad327 := (by injection e327)
                            obtain ⟨ce327, hce327, hMe327, hcc327⟩ := Kd.N_get HO_4.out [] (ji54) p327 (by first | exact q327 | exact of_decide_eq_true (by first | (with_reducible assumption) | assumption) | (have e_ := (Kd.N_reads' HO_4.out).1; omega))
                            obtain ⟨ua327_0, uc327_0, rfl, ul327_0, ge327_0⟩ := Kd.FK_slice_open hMe327
                            have hv327_0 := hcc327 0 _ rfl
                            rw [Nat.add_zero, show ((Kd.slice 5 (Kd.int .u8))).sz = 1 from rfl, Nat.mul_one] at hv327_0
                            replace hv327_0 := Option.some.inj (hv327_0.symm.trans hx327_0)
                            injection hv327_0 with hva_ hvn_ hvc_
                            rw [hva_] at ge327_0
                            rw [hvc_] at ul327_0
                            have HL327_0 := M_ (show Kd.V (Kd.int .u8) 5 _ w.heap.size _ _ (rd_L4 t304 (ji54)) from Kd.V_mk ul327_0 ge327_0)
                            clear hva_ hvn_ hvc_ ge327_0 ul327_0
                            clear hcc327 hce327
                            have HR327_0 := M_ hi327_0
                            have HC327_0 := M_ hl327_0
                            clear hi327_0 hl327_0
                            replace p327 := eq_true p327
                            replace q327 := eq_true q327
                            obtain ⟨Ao59, co59, eo59⟩ := Kd.R_slice HO_12.out
                            subst eo59
                            go_wp2_with (first | (go_at_call 33; (with_reducible refine (spiritlevelref05_Same.calls k6 _ _ t321 _ _ (rd_L4 t304 (ji54)) true _ ?side1 ?side2 ?side3 ?side4 A56.out).mono ?_); (case side1 => repeat (first | exact (Kd.R_reads' HO_12.out).2.2 | (with_reducible refine c0_ ?_ _) | (with_reducible refine c1_ ?_ _) | (with_reducible refine c2_ ?_))); (case side2 => exact (Kd.R_reads' HO_12.out).2.1); (case side3 => repeat (first | exact (by repeat (first | (with_reducible exact HR327_0.out) | (with_reducible refine c0_ ?_ _) | (with_reducible refine c1_ ?_ _) | (with_reducible refine c2_ ?_) | exact HR327_0.out)) | (with_reducible refine c0_ ?_ _) | (with_reducible refine c1_ ?_ _) | (with_reducible refine c2_ ?_))); (case side4 => exact HC327_0.out); rintro e w' ⟨rfl, ⟨nd, rfl⟩⟩))
                            go_roundg k6
                            case measure => have := HJ2.out; have := HK2.out; have := HJ23.out; have := HK4.out; have := HK5.out; have := HK6.out; omega
                            case rel => exact ⟨(ji54), (by first | rfl | (simp; done) | (simp only [← hji54] <;> (first | rfl | (simp; done))) | (congr 1; symm; assumption) | (simp [*]; done)), H', ⟨by have := HJ2.out; have := HK2.out; have := HJ23.out; have := HK4.out; have := HK5.out; have := HK6.out; omega⟩, ⟨by (with_reducible repeat (first | apply a6_ | apply a7_ | apply a8_)); exact Kd.N_mono HO_4.out (fun _ hk => ⟨hk.1, hk.2.2⟩)⟩, ⟨by (with_reducible repeat (first | apply a0_ | apply a1_ | apply a2_)); exact Kd.R_mono HO_6.out (fun _ hk => trivial)⟩, ⟨by (with_reducible repeat (first | refine blk_drewN ?_ _ | refine blk_drew ?_ | refine blk_alloc ?_ _)); exact BK301.out⟩, ⟨by repeat (first | (with_reducible first | exact HB.out | apply b0_ | apply b1_ | apply b2_ | refine below_set ?_ GE301.out) | exact HB.out)⟩⟩
                           ·replace c58 := Bool.eq_false_iff.mpr c58
                            subst c58
                            have H1 : (some false) = some r := by rw [if_neg (show ¬ (false = true) by decide)] at H; exact H
                            clear H
                            have H := H1
                            clear H1
                            exact absurd ((Option.some.inj H).trans HTR_.out) (by decide)
                          ·replace c57 := Bool.eq_false_iff.mpr c57
                           subst c57
                           have H1 : (some false) = some r := by rw [if_neg (show ¬ (false = true) by decide)] at H; exact H
                           clear H
                           have H := H1
                           clear H1
                           exact absurd ((Option.some.inj H).trans HTR_.out) (by decide)
                         ·rw [if_neg c55] at H
                          exact absurd H (by simp)
                        ·rw [if_neg c53] at H
                         have c53b0 : decide ((wrap64 (x10_4 + 1)) < (t304.length : Int)) = false := decide_eq_false c53
                         clear c53
                         by_cases c60 : x14_6 = true
                         ·subst c60
                          have H1 : (spiritlevellaw30_TernsimOnce.l1 k6 t302 t304 x6_2 (wrap64 (x10_4 + 1)) a0_0 l0_1 l0_2 l0_3 l0_4) = some r := by rw [if_pos rfl] at H; exact H
                          clear H
                          have H := H1
                          clear H1
                          have H' := M_ H
                          clear H
                          go_wp2
                          go_roundg k6
                          case measure => have := HJ2.out; have := HK2.out; have := HJ23.out; have := HK4.out; have := HK5.out; have := HK6.out; omega
                          case rel => exact ⟨(wrap64 (x10_4 + 1)), (by first | rfl | (simp; done) | (simp [*]; done)), H', ⟨by have := HJ2.out; have := HK2.out; have := HJ23.out; have := HK4.out; have := HK5.out; have := HK6.out; omega⟩, ⟨by (with_reducible repeat (first | apply a6_ | apply a7_ | apply a8_)); exact Kd.N_mono HO_4.out (fun _ hk => ⟨hk.1, hk.2.2⟩)⟩, ⟨by (with_reducible repeat (first | apply a0_ | apply a1_ | apply a2_)); exact Kd.R_mono HO_6.out (fun _ hk => trivial)⟩, ⟨by (with_reducible repeat (first | refine blk_drewN ?_ _ | refine blk_drew ?_ | refine blk_alloc ?_ _)); exact BK301.out⟩, ⟨by repeat (first | (with_reducible first | exact HB.out | apply b0_ | apply b1_ | apply b2_ | refine below_set ?_ GE301.out) | exact HB.out)⟩⟩
                         ·replace c60 := Bool.eq_false_iff.mpr c60
                          subst c60
                          have H1 : (some false) = some r := by rw [if_neg (show ¬ (false = true) by decide)] at H; exact H
                          clear H
                          have H := H1
                          clear H1
                          exact absurd ((Option.some.inj H).trans HTR_.out) (by decide)
                    ·rw [if_neg c44] at H
                     have c44b0 : (t324 == 0) = false := beq_eq_false_iff_ne.mpr c44
                     have c44b1 : (t324 != 0) = true := bne_iff_ne.mpr c44
                     exact absurd ((Option.some.inj H).trans HTR_.out) (by decide)
                   ·rw [if_neg c42] at H
                    exact absurd H (by simp)
                  ·rw [if_neg c41] at H
                   exact absurd H (by simp)
              ·rw [if_neg c32] at H
               have c32b0 : decide (x10_4 < (t304.length : Int)) = false := decide_eq_false c32
               clear c32
               obtain rfl := Option.some.inj H
               go_wp2
               go_ret
               exact ⟨by first | rfl | (simp [errW_none, errW_some] <;> rfl) | (simp [*, errW_none, errW_some] <;> rfl), by repeat (first | (with_reducible first | exact HB.out | apply b0_ | apply b1_ | apply b2_ | refine below_set ?_ GE301.out) | exact HB.out)⟩
    ·rw [if_neg c14] at H
     have c14b0 : (t307 == 0) = false := beq_eq_false_iff_ne.mpr c14
     have c14b1 : (t307 != 0) = true := bne_iff_ne.mpr c14
     by_cases c61 : t302 = true
     ·subst c61
      have H1 : (some ((t304.length : Int) == 0)) = some r := by rw [if_pos rfl] at H; exact H
      clear H
      have H := H1
      clear H1
      obtain rfl := Option.some.inj H
      have hcz62_0 : wc.cell? ⟨gb301, 0, none⟩ = some (.int .i64 a0_0) := (blk_cell BK301.out 0).trans rfl
      have hcz62_1 : wc.cell? ⟨gb301, 1, none⟩ = some (.slice A0_1 l0_1.length c0_1) := (blk_cell BK301.out 1).trans rfl
      have hcz62_2 : wc.cell? ⟨gb301, 2, none⟩ = some (.slice A0_2 l0_2.length c0_2) := (blk_cell BK301.out 2).trans rfl
      have hcz62_3 : wc.cell? ⟨gb301, 3, none⟩ = some (.slice A0_3 l0_3.length c0_3) := (blk_cell BK301.out 3).trans rfl
      have hcz62_4 : wc.cell? ⟨gb301, 4, none⟩ = some (.slice A0_4 l0_4.length c0_4) := (blk_cell BK301.out 4).trans rfl
      have hfz62_0 := blk_frozen BK301.out 0
      have hfz62_1 := blk_frozen BK301.out 1
      have hfz62_2 := blk_frozen BK301.out 2
      have hfz62_3 := blk_frozen BK301.out 3
      have hfz62_4 := blk_frozen BK301.out 4
      go_wp2_with (first | ((with_reducible refine gate_callee (f := 12) rfl ?_); refine goesL_ (some 26) rfl rfl Try.func12 (by kernel_rfl) rfl #[.agg #[.int .i64 a0_0, .slice A0_1 l0_1.length c0_1, .slice A0_2 l0_2.length c0_2, .slice A0_3 l0_3.length c0_3, .slice A0_4 l0_4.length c0_4]] rfl (by (try simp only [List.map_toArray, List.map_cons, List.map_nil]); first | done | rfl | (simp only [List.length_drop, List.length_take]; rfl)) ?_; (with_reducible refine (ternsim_States.calls kj2 a0_0 _ _ l0_1 _ _ l0_2 _ _ l0_3 _ _ l0_4 t304 t307 _ ?side1 ?side2 ?side3 ?side4 ?side5 ?side6 ?side7 ?side8 A13.out).mono ?_); (case side1 => repeat (first | exact (Kd.C_below HR0_1.out HB.out) | (with_reducible refine c0_ ?_ _) | (with_reducible refine c1_ ?_ _) | (with_reducible refine c2_ ?_))); (case side2 => exact HC0_1.out); (case side3 => repeat (first | exact (Kd.C_below HR0_2.out HB.out) | (with_reducible refine c0_ ?_ _) | (with_reducible refine c1_ ?_ _) | (with_reducible refine c2_ ?_))); (case side4 => exact HC0_2.out); (case side5 => repeat (first | exact (Kd.C_below HR0_3.out HB.out) | (with_reducible refine c0_ ?_ _) | (with_reducible refine c1_ ?_ _) | (with_reducible refine c2_ ?_))); (case side6 => exact HC0_3.out); (case side7 => repeat (first | exact (Kd.C_below HR0_4.out HB.out) | (with_reducible refine c0_ ?_ _) | (with_reducible refine c1_ ?_ _) | (with_reducible refine c2_ ?_))); (case side8 => exact HC0_4.out); rintro e w63 ⟨v305, rfl, ho0, hb⟩; refine ⟨_, rfl, ?_⟩; have n0_ := M_ (Kd.N_lower (Kd.N_mono (ok' := fun k_ => k_ ≠ gb301) ho0 (fun k_ hk_ => (Kd.freshB (g := gb301) (o := .cells #[.int .i64 a0_0, .slice A0_1 l0_1.length c0_1, .slice A0_2 l0_2.length c0_2, .slice A0_3 l0_3.length c0_3, .slice A0_4 l0_4.length c0_4] 26 (0, 0)) (by (with_reducible repeat (first | refine blk_drewN ?_ _ | refine blk_drew ?_ | refine blk_alloc ?_ _)); exact BK301.out) k_ hk_))) (below_size (by repeat (first | (with_reducible first | exact HB.out | apply b0_ | apply b1_ | apply b2_ | refine below_set ?_ GE301.out) | exact HB.out)))); have n1_ := M_ (blk_below (g := gb301) (o := .cells #[.int .i64 a0_0, .slice A0_1 l0_1.length c0_1, .slice A0_2 l0_2.length c0_2, .slice A0_3 l0_3.length c0_3, .slice A0_4 l0_4.length c0_4] 26 (0, 0)) (by (with_reducible repeat (first | refine blk_drewN ?_ _ | refine blk_drew ?_ | refine blk_alloc ?_ _)); exact BK301.out) hb); have n2_ := M_ (below_step (by repeat (first | (with_reducible first | exact HB.out | apply b0_ | apply b1_ | apply b2_ | refine below_set ?_ GE301.out) | exact HB.out)) hb); clear BK301; clear HB; have HO306 := n0_; have BK301 := n1_; have HB := n2_; clear n0_ n1_ n2_; (try clear hb); (try clear hb2); (try clear hk); (try clear hi); (try clear ho0); obtain ⟨Ao64, co64, eo64⟩ := Kd.N_slice HO306.out; subst eo64))
      go_ret
      exact ⟨by first | rfl | (simp [errW_none, errW_some] <;> rfl) | (simp [*, errW_none, errW_some] <;> rfl), by repeat (first | (with_reducible first | exact HB.out | apply b0_ | apply b1_ | apply b2_ | refine below_set ?_ GE301.out) | exact HB.out)⟩
     ·replace c61 := Bool.eq_false_iff.mpr c61
      subst c61
      have H1 : (some false) = some r := by rw [if_neg (show ¬ (false = true) by decide)] at H; exact H
      clear H
      have H := H1
      clear H1
      exact absurd ((Option.some.inj H).trans HTR_.out) (by decide)

/-- THE ONE PURE STATEMENT of spiritlevellaw30_TernsimOnce. -/
def spiritlevellaw30_TernsimOnce.Pure : Prop := ∀ (a0_0 : Int) (l0_1 : List (S36)) (l0_2 : List (S69)) (l0_3 : List Int) (l0_4 : List Int), ((Lit.int .i64 a0_0).wf = true) → (l0_1.length ≤ 9223372036854775807 ∧ l0_1.length * 16 ≤ 140737488351232 ∧ ∀ x0_ ∈ l0_1, ((Lit.int .i64 x0_.f0).wf = true) ∧ ((Lit.int .i64 x0_.f1).wf = true)) → (l0_2.length ≤ 9223372036854775807 ∧ l0_2.length * 16 ≤ 140737488351232 ∧ ∀ x0_ ∈ l0_2, ((Lit.int .i64 x0_.f0).wf = true) ∧ ((Lit.int .i64 x0_.f1).wf = true)) → (l0_3.length ≤ 9223372036854775807 ∧ l0_3.length * 8 ≤ 140737488351232 ∧ ∀ x0_ ∈ l0_3, (Lit.int .i64 x0_).wf = true) → (l0_4.length ≤ 9223372036854775807 ∧ l0_4.length * 8 ≤ 140737488351232 ∧ ∀ x0_ ∈ l0_4, (Lit.int .i64 x0_).wf = true) → ∃ k, spiritlevellaw30_TernsimOnce.f k a0_0 l0_1 l0_2 l0_3 l0_4 = some true
theorem spiritlevellaw30_TernsimOnce.walk (P : spiritlevellaw30_TernsimOnce.Pure) (a0_0 : Int) (A0_1 : Option Addr) (c0_1 : Nat) (l0_1 : List (S36)) (A0_2 : Option Addr) (c0_2 : Nat) (l0_2 : List (S69)) (A0_3 : Option Addr) (c0_3 : Nat) (l0_3 : List Int) (A0_4 : Option Addr) (c0_4 : Nat) (l0_4 : List Int) (w : World) (hr0_1 : Kd.C k36 w A0_1 l0_1.length l0_1) (hc0_1 : l0_1.length ≤ c0_1) (hr0_2 : Kd.C k69 w A0_2 l0_2.length l0_2) (hc0_2 : l0_2.length ≤ c0_2) (hr0_3 : Kd.C (Kd.int .i64) w A0_3 l0_3.length l0_3) (hc0_3 : l0_3.length ≤ c0_3) (hr0_4 : Kd.C (Kd.int .i64) w A0_4 l0_4.length l0_4) (hc0_4 : l0_4.length ≤ c0_4) (ok0_0 : (Lit.int .i64 a0_0).wf = true) (ok0_1 : l0_1.length ≤ 9223372036854775807 ∧ l0_1.length * 16 ≤ 140737488351232 ∧ ∀ x0_ ∈ l0_1, ((Lit.int .i64 x0_.f0).wf = true) ∧ ((Lit.int .i64 x0_.f1).wf = true)) (ok0_2 : l0_2.length ≤ 9223372036854775807 ∧ l0_2.length * 16 ≤ 140737488351232 ∧ ∀ x0_ ∈ l0_2, ((Lit.int .i64 x0_.f0).wf = true) ∧ ((Lit.int .i64 x0_.f1).wf = true)) (ok0_3 : l0_3.length ≤ 9223372036854775807 ∧ l0_3.length * 8 ≤ 140737488351232 ∧ ∀ x0_ ∈ l0_3, (Lit.int .i64 x0_).wf = true) (ok0_4 : l0_4.length ≤ 9223372036854775807 ∧ l0_4.length * 8 ≤ 140737488351232 ∧ ∀ x0_ ∈ l0_4, (Lit.int .i64 x0_).wf = true) :
  Calls Try.prog 7 #[.agg #[.int .i64 a0_0, .slice A0_1 l0_1.length c0_1, .slice A0_2 l0_2.length c0_2, .slice A0_3 l0_3.length c0_3, .slice A0_4 l0_4.length c0_4]] w fun e w' => e = .returned (.bool true) ∧ Below w.heap.size w w' := by
 obtain ⟨k, h⟩ := P a0_0 l0_1 l0_2 l0_3 l0_4 ok0_0 ok0_1 ok0_2 ok0_3 ok0_4
 refine (spiritlevellaw30_TernsimOnce.calls k a0_0 A0_1 c0_1 l0_1 A0_2 c0_2 l0_2 A0_3 c0_3 l0_3 A0_4 c0_4 l0_4 true w hr0_1 hc0_1 hr0_2 hc0_2 hr0_3 hc0_3 hr0_4 hc0_4 rfl h).mono ?_
 rintro e w' ⟨rfl, hd⟩
 exact ⟨rfl, hd⟩

end Go.Proofs.Ytmcdanpecajklaa.QTernsimOnce
