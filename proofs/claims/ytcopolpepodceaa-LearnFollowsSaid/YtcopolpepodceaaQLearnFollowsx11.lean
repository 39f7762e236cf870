-- Made by wip/myprint.sh (a patched print): a text of this session's own.
import Derived.Test.YtcopolpepodceaaQLearnFollowsx0
import Derived.Test.YtcopolpepodceaaQLearnFollowsx1
import Derived.Test.YtcopolpepodceaaQLearnFollowsx6
import Derived.Test.YtcopolpepodceaaQLearnFollowsx7
import Derived.Test.YtcopolpepodceaaQLearnFollowsx10
namespace Go.Proofs.Ytcopolpepodceaa.QLearnFollows
open Go.RowKit Go.Proofs.YtcopolpepodceaaW.PrintWords Go.Proofs.YtcopolpepodceaaW.PrintLast Go.Proofs.YtcopolpepodceaaW.PrintMore
attribute [local go_sem] max2_int min2_int max_two min_two max_three min_three max_four min_four   -- for this text's walks alone
set_option linter.unusedVariables false
set_option linter.unusedSimpArgs false

/-! ### spiritlevellaw17_LearnFollows: function 4 -/
mutual
def spiritlevellaw17_LearnFollows.j0 : Nat → Int → List (List Int) → List Int → Bool → Bool → Option (Bool)
 | 0, _, _, _, _, _ => none
 | k + 1, x0, x1, x2, x7, x24 => if x24 = true then (some x7) else ((learn_Clause.f k x0 x1 x2).bind fun bt269 => ((learn_Conflict.f k x0 x1 x2).bind fun bt273 => (if bt273.2 = 0 then (spiritlevellaw17_LearnFollows.j1 k x0 x1 x2 x7 bt269.1 bt269.2 bt273.1 (bt273.1 != (bt269.2 == 0))) else (spiritlevellaw17_LearnFollows.j1 k x0 x1 x2 x7 bt269.1 bt269.2 bt273.1 true))))
def spiritlevellaw17_LearnFollows.j1 : Nat → Int → List (List Int) → List Int → Bool → List Int → Int → Bool → Bool → Option (Bool)
 | 0, _, _, _, _, _, _, _, _ => none
 | k + 1, x0, x1, x2, x7, x8, x9, x10, x47 => if x47 = true then (some false) else (if x10 = true then ((clause_Check.f k x0 x8).bind fun t275 => (if t275 = 0 then ((spiritlevelref13_Check.f k x0 x8).bind fun t276 => (spiritlevellaw17_LearnFollows.j2 k x0 x1 x2 x7 x8 (t276 != 0))) else (spiritlevellaw17_LearnFollows.j2 k x0 x1 x2 x7 x8 true))) else (if x7 = true then (if x9 = 6 then (some ((x8.length : Int) == 0)) else (some false)) else (some false)))
def spiritlevellaw17_LearnFollows.j2 : Nat → Int → List (List Int) → List Int → Bool → List Int → Bool → Option (Bool)
 | 0, _, _, _, _, _, _ => none
 | k + 1, x0, x1, x2, x7, x8, x69 => if x69 = true then (some false) else (spiritlevellaw17_LearnFollows.l0 k x0 x1 x2 x7 x8 ([] : List Int) 0)
def spiritlevellaw17_LearnFollows.l0 : Nat → Int → List (List Int) → List Int → Bool → List Int → List Int → Int → Option (Bool)
 | 0, _, _, _, _, _, _, _ => none
 | k + 1, x0, x1, x2, x7, x8, x12, x13 => if x13 < (x8.length : Int) then (if 0 ≤ x13 then ((spiritlevelref13_Not.f (rd x8 x13)).bind fun t278 => (if x12.length < 17592186044416 then (spiritlevellaw17_LearnFollows.l0 k x0 x1 x2 x7 x8 (x12 ++ [t278]) (wrap64 (x13 + 1))) else (none))) else (none)) else ((learn_Conflict.f k x0 x1 x12).bind fun bt282 => (if bt282.2 = 0 then (if bt282.1 = true then ((spiritlevelref13_Part.f k x12 x2).bind fun t284 => (spiritlevellaw17_LearnFollows.j4 k x0 x1 x7 x12 (!t284))) else (spiritlevellaw17_LearnFollows.j4 k x0 x1 x7 x12 true)) else (spiritlevellaw17_LearnFollows.j4 k x0 x1 x7 x12 true)))
def spiritlevellaw17_LearnFollows.j4 : Nat → Int → List (List Int) → Bool → List Int → Bool → Option (Bool)
 | 0, _, _, _, _, _ => none
 | k + 1, x0, x1, x7, x12, x102 => if x102 = true then (some false) else (spiritlevellaw17_LearnFollows.l1 k x0 x1 x7 x12 0)
def spiritlevellaw17_LearnFollows.l1 : Nat → Int → List (List Int) → Bool → List Int → Int → Option (Bool)
 | 0, _, _, _, _, _ => none
 | k + 1, x0, x1, x7, x12, x14 => if x14 < (x12.length : Int) then (if 0 ≤ x14 then ((spiritlevelref13_Without.f k x12 (rd x12 x14)).bind fun t286 => ((learn_Conflict.f k x0 x1 t286).bind fun bt289 => (if bt289.2 = 0 then (if bt289.1 = true then (some false) else (spiritlevellaw17_LearnFollows.l1 k x0 x1 x7 x12 (wrap64 (x14 + 1)))) else (some false)))) else (none)) else (some x7)
end
def spiritlevellaw17_LearnFollows.f (k : Nat) (a0 : Int) (l1 : List (List Int)) (l2 : List Int) : Option (Bool) := (spiritlevellaw17_alive.f k).bind fun t267 => ((spiritlevellaw17_fit.f k a0 l1 l2).bind fun t268 => (if t268 = true then (spiritlevellaw17_LearnFollows.j0 k a0 l1 l2 t267 (!t267)) else (spiritlevellaw17_LearnFollows.j0 k a0 l1 l2 t267 true)))
theorem spiritlevellaw17_LearnFollows.mono_l : ∀ k, (∀ y0 y1 y2 y3 y4, LeO (spiritlevellaw17_LearnFollows.j0 k y0 y1 y2 y3 y4) (spiritlevellaw17_LearnFollows.j0 (k + 1) y0 y1 y2 y3 y4)) ∧ (∀ y0 y1 y2 y3 y4 y5 y6 y7, LeO (spiritlevellaw17_LearnFollows.j1 k y0 y1 y2 y3 y4 y5 y6 y7) (spiritlevellaw17_LearnFollows.j1 (k + 1) y0 y1 y2 y3 y4 y5 y6 y7)) ∧ (∀ y0 y1 y2 y3 y4 y5, LeO (spiritlevellaw17_LearnFollows.j2 k y0 y1 y2 y3 y4 y5) (spiritlevellaw17_LearnFollows.j2 (k + 1) y0 y1 y2 y3 y4 y5)) ∧ (∀ y0 y1 y2 y3 y4 y5 y6, LeO (spiritlevellaw17_LearnFollows.l0 k y0 y1 y2 y3 y4 y5 y6) (spiritlevellaw17_LearnFollows.l0 (k + 1) y0 y1 y2 y3 y4 y5 y6)) ∧ (∀ y0 y1 y2 y3 y4, LeO (spiritlevellaw17_LearnFollows.j4 k y0 y1 y2 y3 y4) (spiritlevellaw17_LearnFollows.j4 (k + 1) y0 y1 y2 y3 y4)) ∧ (∀ y0 y1 y2 y3 y4, LeO (spiritlevellaw17_LearnFollows.l1 k y0 y1 y2 y3 y4) (spiritlevellaw17_LearnFollows.l1 (k + 1) y0 y1 y2 y3 y4))
 | 0 => ⟨fun _ _ _ _ _ r h => by simp [spiritlevellaw17_LearnFollows.j0] at h, fun _ _ _ _ _ _ _ _ r h => by simp [spiritlevellaw17_LearnFollows.j1] at h, fun _ _ _ _ _ _ r h => by simp [spiritlevellaw17_LearnFollows.j2] at h, fun _ _ _ _ _ _ _ r h => by simp [spiritlevellaw17_LearnFollows.l0] at h, fun _ _ _ _ _ r h => by simp [spiritlevellaw17_LearnFollows.j4] at h, fun _ _ _ _ _ r h => by simp [spiritlevellaw17_LearnFollows.l1] at h⟩
 | k + 1 => by
  obtain ⟨ih0, ih1, ih2, ih3, ih4, ih5⟩ := spiritlevellaw17_LearnFollows.mono_l k
  refine ⟨?_, ?_, ?_, ?_, ?_, ?_⟩
  ·intro y0 y1 y2 y3 y4
   unfold spiritlevellaw17_LearnFollows.j0
   repeat' first
   | (with_reducible exact ih0 _ _ _ _ _)
   | (with_reducible exact ih1 _ _ _ _ _ _ _ _)
   | (with_reducible exact ih2 _ _ _ _ _ _)
   | (with_reducible exact ih3 _ _ _ _ _ _ _)
   | (with_reducible exact ih4 _ _ _ _ _)
   | (with_reducible exact ih5 _ _ _ _ _)
   | (with_reducible exact clause_Check.mono _ _ _)
   | (with_reducible exact learn_Clause.mono _ _ _ _)
   | (with_reducible exact learn_Conflict.mono _ _ _ _)
   | (with_reducible exact spiritlevellaw17_alive.mono _)
   | (with_reducible exact spiritlevellaw17_fit.mono _ _ _ _)
   | (with_reducible exact spiritlevelref13_Check.mono _ _ _)
   | (with_reducible exact spiritlevelref13_Part.mono _ _ _)
   | (with_reducible exact spiritlevelref13_Without.mono _ _ _)
   | (with_reducible exact LeO.refl _)
   | (with_reducible exact LeO.none _)
   | (with_reducible refine LeO.ite ?_ ?_)
   | (with_reducible refine LeO.bind ?_ (fun _ => ?_))
   | exact ih0 _ _ _ _ _
   | exact ih1 _ _ _ _ _ _ _ _
   | exact ih2 _ _ _ _ _ _
   | exact ih3 _ _ _ _ _ _ _
   | exact ih4 _ _ _ _ _
   | exact ih5 _ _ _ _ _
   | exact clause_Check.mono _ _ _
   | exact learn_Clause.mono _ _ _ _
   | exact learn_Conflict.mono _ _ _ _
   | exact spiritlevellaw17_alive.mono _
   | exact spiritlevellaw17_fit.mono _ _ _ _
   | exact spiritlevelref13_Check.mono _ _ _
   | exact spiritlevelref13_Part.mono _ _ _
   | exact spiritlevelref13_Without.mono _ _ _
   | exact LeO.none _
   | refine LeO.ite ?_ ?_
   | refine LeO.bind ?_ (fun _ => ?_)
  ·intro y0 y1 y2 y3 y4 y5 y6 y7
   unfold spiritlevellaw17_LearnFollows.j1
   repeat' first
   | (with_reducible exact ih0 _ _ _ _ _)
   | (with_reducible exact ih1 _ _ _ _ _ _ _ _)
   | (with_reducible exact ih2 _ _ _ _ _ _)
   | (with_reducible exact ih3 _ _ _ _ _ _ _)
   | (with_reducible exact ih4 _ _ _ _ _)
   | (with_reducible exact ih5 _ _ _ _ _)
   | (with_reducible exact clause_Check.mono _ _ _)
   | (with_reducible exact learn_Clause.mono _ _ _ _)
   | (with_reducible exact learn_Conflict.mono _ _ _ _)
   | (with_reducible exact spiritlevellaw17_alive.mono _)
   | (with_reducible exact spiritlevellaw17_fit.mono _ _ _ _)
   | (with_reducible exact spiritlevelref13_Check.mono _ _ _)
   | (with_reducible exact spiritlevelref13_Part.mono _ _ _)
   | (with_reducible exact spiritlevelref13_Without.mono _ _ _)
   | (with_reducible exact LeO.refl _)
   | (with_reducible exact LeO.none _)
   | (with_reducible refine LeO.ite ?_ ?_)
   | (with_reducible refine LeO.bind ?_ (fun _ => ?_))
   | exact ih0 _ _ _ _ _
   | exact ih1 _ _ _ _ _ _ _ _
   | exact ih2 _ _ _ _ _ _
   | exact ih3 _ _ _ _ _ _ _
   | exact ih4 _ _ _ _ _
   | exact ih5 _ _ _ _ _
   | exact clause_Check.mono _ _ _
   | exact learn_Clause.mono _ _ _ _
   | exact learn_Conflict.mono _ _ _ _
   | exact spiritlevellaw17_alive.mono _
   | exact spiritlevellaw17_fit.mono _ _ _ _
   | exact spiritlevelref13_Check.mono _ _ _
   | exact spiritlevelref13_Part.mono _ _ _
   | exact spiritlevelref13_Without.mono _ _ _
   | exact LeO.none _
   | refine LeO.ite ?_ ?_
   | refine LeO.bind ?_ (fun _ => ?_)
  ·intro y0 y1 y2 y3 y4 y5
   unfold spiritlevellaw17_LearnFollows.j2
   repeat' first
   | (with_reducible exact ih0 _ _ _ _ _)
   | (with_reducible exact ih1 _ _ _ _ _ _ _ _)
   | (with_reducible exact ih2 _ _ _ _ _ _)
   | (with_reducible exact ih3 _ _ _ _ _ _ _)
   | (with_reducible exact ih4 _ _ _ _ _)
   | (with_reducible exact ih5 _ _ _ _ _)
   | (with_reducible exact clause_Check.mono _ _ _)
   | (with_reducible exact learn_Clause.mono _ _ _ _)
   | (with_reducible exact learn_Conflict.mono _ _ _ _)
   | (with_reducible exact spiritlevellaw17_alive.mono _)
   | (with_reducible exact spiritlevellaw17_fit.mono _ _ _ _)
   | (with_reducible exact spiritlevelref13_Check.mono _ _ _)
   | (with_reducible exact spiritlevelref13_Part.mono _ _ _)
   | (with_reducible exact spiritlevelref13_Without.mono _ _ _)
   | (with_reducible exact LeO.refl _)
   | (with_reducible exact LeO.none _)
   | (with_reducible refine LeO.ite ?_ ?_)
   | (with_reducible refine LeO.bind ?_ (fun _ => ?_))
   | exact ih0 _ _ _ _ _
   | exact ih1 _ _ _ _ _ _ _ _
   | exact ih2 _ _ _ _ _ _
   | exact ih3 _ _ _ _ _ _ _
   | exact ih4 _ _ _ _ _
   | exact ih5 _ _ _ _ _
   | exact clause_Check.mono _ _ _
   | exact learn_Clause.mono _ _ _ _
   | exact learn_Conflict.mono _ _ _ _
   | exact spiritlevellaw17_alive.mono _
   | exact spiritlevellaw17_fit.mono _ _ _ _
   | exact spiritlevelref13_Check.mono _ _ _
   | exact spiritlevelref13_Part.mono _ _ _
   | exact spiritlevelref13_Without.mono _ _ _
   | exact LeO.none _
   | refine LeO.ite ?_ ?_
   | refine LeO.bind ?_ (fun _ => ?_)
  ·intro y0 y1 y2 y3 y4 y5 y6
   unfold spiritlevellaw17_LearnFollows.l0
   repeat' first
   | (with_reducible exact ih0 _ _ _ _ _)
   | (with_reducible exact ih1 _ _ _ _ _ _ _ _)
   | (with_reducible exact ih2 _ _ _ _ _ _)
   | (with_reducible exact ih3 _ _ _ _ _ _ _)
   | (with_reducible exact ih4 _ _ _ _ _)
   | (with_reducible exact ih5 _ _ _ _ _)
   | (with_reducible exact clause_Check.mono _ _ _)
   | (with_reducible exact learn_Clause.mono _ _ _ _)
   | (with_reducible exact learn_Conflict.mono _ _ _ _)
   | (with_reducible exact spiritlevellaw17_alive.mono _)
   | (with_reducible exact spiritlevellaw17_fit.mono _ _ _ _)
   | (with_reducible exact spiritlevelref13_Check.mono _ _ _)
   | (with_reducible exact spiritlevelref13_Part.mono _ _ _)
   | (with_reducible exact spiritlevelref13_Without.mono _ _ _)
   | (with_reducible exact LeO.refl _)
   | (with_reducible exact LeO.none _)
   | (with_reducible refine LeO.ite ?_ ?_)
   | (with_reducible refine LeO.bind ?_ (fun _ => ?_))
   | exact ih0 _ _ _ _ _
   | exact ih1 _ _ _ _ _ _ _ _
   | exact ih2 _ _ _ _ _ _
   | exact ih3 _ _ _ _ _ _ _
   | exact ih4 _ _ _ _ _
   | exact ih5 _ _ _ _ _
   | exact clause_Check.mono _ _ _
   | exact learn_Clause.mono _ _ _ _
   | exact learn_Conflict.mono _ _ _ _
   | exact spiritlevellaw17_alive.mono _
   | exact spiritlevellaw17_fit.mono _ _ _ _
   | exact spiritlevelref13_Check.mono _ _ _
   | exact spiritlevelref13_Part.mono _ _ _
   | exact spiritlevelref13_Without.mono _ _ _
   | exact LeO.none _
   | refine LeO.ite ?_ ?_
   | refine LeO.bind ?_ (fun _ => ?_)
  ·intro y0 y1 y2 y3 y4
   unfold spiritlevellaw17_LearnFollows.j4
   repeat' first
   | (with_reducible exact ih0 _ _ _ _ _)
   | (with_reducible exact ih1 _ _ _ _ _ _ _ _)
   | (with_reducible exact ih2 _ _ _ _ _ _)
   | (with_reducible exact ih3 _ _ _ _ _ _ _)
   | (with_reducible exact ih4 _ _ _ _ _)
   | (with_reducible exact ih5 _ _ _ _ _)
   | (with_reducible exact clause_Check.mono _ _ _)
   | (with_reducible exact learn_Clause.mono _ _ _ _)
   | (with_reducible exact learn_Conflict.mono _ _ _ _)
   | (with_reducible exact spiritlevellaw17_alive.mono _)
   | (with_reducible exact spiritlevellaw17_fit.mono _ _ _ _)
   | (with_reducible exact spiritlevelref13_Check.mono _ _ _)
   | (with_reducible exact spiritlevelref13_Part.mono _ _ _)
   | (with_reducible exact spiritlevelref13_Without.mono _ _ _)
   | (with_reducible exact LeO.refl _)
   | (with_reducible exact LeO.none _)
   | (with_reducible refine LeO.ite ?_ ?_)
   | (with_reducible refine LeO.bind ?_ (fun _ => ?_))
   | exact ih0 _ _ _ _ _
   | exact ih1 _ _ _ _ _ _ _ _
   | exact ih2 _ _ _ _ _ _
   | exact ih3 _ _ _ _ _ _ _
   | exact ih4 _ _ _ _ _
   | exact ih5 _ _ _ _ _
   | exact clause_Check.mono _ _ _
   | exact learn_Clause.mono _ _ _ _
   | exact learn_Conflict.mono _ _ _ _
   | exact spiritlevellaw17_alive.mono _
   | exact spiritlevellaw17_fit.mono _ _ _ _
   | exact spiritlevelref13_Check.mono _ _ _
   | exact spiritlevelref13_Part.mono _ _ _
   | exact spiritlevelref13_Without.mono _ _ _
   | exact LeO.none _
   | refine LeO.ite ?_ ?_
   | refine LeO.bind ?_ (fun _ => ?_)
  ·intro y0 y1 y2 y3 y4
   unfold spiritlevellaw17_LearnFollows.l1
   repeat' first
   | (with_reducible exact ih0 _ _ _ _ _)
   | (with_reducible exact ih1 _ _ _ _ _ _ _ _)
   | (with_reducible exact ih2 _ _ _ _ _ _)
   | (with_reducible exact ih3 _ _ _ _ _ _ _)
   | (with_reducible exact ih4 _ _ _ _ _)
   | (with_reducible exact ih5 _ _ _ _ _)
   | (with_reducible exact clause_Check.mono _ _ _)
   | (with_reducible exact learn_Clause.mono _ _ _ _)
   | (with_reducible exact learn_Conflict.mono _ _ _ _)
   | (with_reducible exact spiritlevellaw17_alive.mono _)
   | (with_reducible exact spiritlevellaw17_fit.mono _ _ _ _)
   | (with_reducible exact spiritlevelref13_Check.mono _ _ _)
   | (with_reducible exact spiritlevelref13_Part.mono _ _ _)
   | (with_reducible exact spiritlevelref13_Without.mono _ _ _)
   | (with_reducible exact LeO.refl _)
   | (with_reducible exact LeO.none _)
   | (with_reducible refine LeO.ite ?_ ?_)
   | (with_reducible refine LeO.bind ?_ (fun _ => ?_))
   | exact ih0 _ _ _ _ _
   | exact ih1 _ _ _ _ _ _ _ _
   | exact ih2 _ _ _ _ _ _
   | exact ih3 _ _ _ _ _ _ _
   | exact ih4 _ _ _ _ _
   | exact ih5 _ _ _ _ _
   | exact clause_Check.mono _ _ _
   | exact learn_Clause.mono _ _ _ _
   | exact learn_Conflict.mono _ _ _ _
   | exact spiritlevellaw17_alive.mono _
   | exact spiritlevellaw17_fit.mono _ _ _ _
   | exact spiritlevelref13_Check.mono _ _ _
   | exact spiritlevelref13_Part.mono _ _ _
   | exact spiritlevelref13_Without.mono _ _ _
   | exact LeO.none _
   | refine LeO.ite ?_ ?_
   | refine LeO.bind ?_ (fun _ => ?_)
theorem spiritlevellaw17_LearnFollows.mono : ∀ a0 a1 a2 k, LeO (spiritlevellaw17_LearnFollows.f k a0 a1 a2) (spiritlevellaw17_LearnFollows.f (k + 1) a0 a1 a2) := by
 intro a0 a1 a2 k
 obtain ⟨ih0, ih1, ih2, ih3, ih4, ih5⟩ := spiritlevellaw17_LearnFollows.mono_l k
 unfold spiritlevellaw17_LearnFollows.f
 repeat' first
   | (with_reducible exact ih0 _ _ _ _ _)
   | (with_reducible exact ih1 _ _ _ _ _ _ _ _)
   | (with_reducible exact ih2 _ _ _ _ _ _)
   | (with_reducible exact ih3 _ _ _ _ _ _ _)
   | (with_reducible exact ih4 _ _ _ _ _)
   | (with_reducible exact ih5 _ _ _ _ _)
   | (with_reducible exact clause_Check.mono _ _ _)
   | (with_reducible exact learn_Clause.mono _ _ _ _)
   | (with_reducible exact learn_Conflict.mono _ _ _ _)
   | (with_reducible exact spiritlevellaw17_alive.mono _)
   | (with_reducible exact spiritlevellaw17_fit.mono _ _ _ _)
   | (with_reducible exact spiritlevelref13_Check.mono _ _ _)
   | (with_reducible exact spiritlevelref13_Part.mono _ _ _)
   | (with_reducible exact spiritlevelref13_Without.mono _ _ _)
   | (with_reducible exact LeO.refl _)
   | (with_reducible exact LeO.none _)
   | (with_reducible refine LeO.ite ?_ ?_)
   | (with_reducible refine LeO.bind ?_ (fun _ => ?_))
   | exact ih0 _ _ _ _ _
   | exact ih1 _ _ _ _ _ _ _ _
   | exact ih2 _ _ _ _ _ _
   | exact ih3 _ _ _ _ _ _ _
   | exact ih4 _ _ _ _ _
   | exact ih5 _ _ _ _ _
   | exact clause_Check.mono _ _ _
   | exact learn_Clause.mono _ _ _ _
   | exact learn_Conflict.mono _ _ _ _
   | exact spiritlevellaw17_alive.mono _
   | exact spiritlevellaw17_fit.mono _ _ _ _
   | exact spiritlevelref13_Check.mono _ _ _
   | exact spiritlevelref13_Part.mono _ _ _
   | exact spiritlevelref13_Without.mono _ _ _
   | exact LeO.none _
   | refine LeO.ite ?_ ?_
   | refine LeO.bind ?_ (fun _ => ?_)
set_option maxHeartbeats 8000000 in
set_option maxRecDepth 100000 in
theorem spiritlevellaw17_LearnFollows.calls (k : Nat) (a0 : Int) (A1 : Option Addr) (c1 : Nat) (l1 : List (List Int)) (A2 : Option Addr) (c2 : Nat) (l2 : List Int) (r : Bool) (w : World) (hr1 : Kd.C (Kd.slice 3 (Kd.int .i64)) w A1 l1.length l1) (hc1 : l1.length ≤ c1) (hr2 : Kd.C (Kd.int .i64) w A2 l2.length l2) (hc2 : l2.length ≤ c2) (ht_ : r = true) (h : spiritlevellaw17_LearnFollows.f k a0 l1 l2 = some r) :
  Calls Try.prog 4 #[.int .i64 a0, .slice A1 l1.length c1, .slice A2 l2.length c2] w fun e w' => e = .returned (.bool r) ∧ Below w.heap.size w w' := by
 have HTR_ := M_ ht_
 clear ht_
 have HR1 := M_ hr1
 have HC1 := M_ hc1
 clear hr1 hc1
 have HR2 := M_ hr2
 have HC2 := M_ hc2
 clear hr2 hc2
 have HB := M_ (Below.refl w.heap.size w)
 have H : ((spiritlevellaw17_alive.f k).bind fun t267 => ((spiritlevellaw17_fit.f k a0 l1 l2).bind fun t268 => (if t268 = true then (spiritlevellaw17_LearnFollows.j0 k a0 l1 l2 t267 (!t267)) else (spiritlevellaw17_LearnFollows.j0 k a0 l1 l2 t267 true)))) = some r := h
 clear h
 replace H := Option.bind_eq_some_iff.mp H
 obtain ⟨t267, A40, H⟩ := H
 replace H : ((spiritlevellaw17_fit.f k a0 l1 l2).bind fun t268 => (if t268 = true then (spiritlevellaw17_LearnFollows.j0 k a0 l1 l2 t267 (!t267)) else (spiritlevellaw17_LearnFollows.j0 k a0 l1 l2 t267 true))) = some r := H
 have A4 := M_ A40
 clear A40
 have HC5 := M_ H
 clear H
 go_enter Try.func4, Try.ntmps4
 go_upto_region 2 with (first | ((with_reducible refine gate_callee (f := 14) rfl ?_); refine goesL_ (some 15) rfl rfl Try.func14 (by kernel_rfl) rfl #[] rfl (by (try simp only [List.map_toArray, List.map_cons, List.map_nil]); first | done | rfl | (simp only [List.length_drop, List.length_take]; rfl)) ?_; (with_reducible refine (spiritlevellaw17_alive.calls k  t267 _ A4.out).mono ?_); rintro e w6 ⟨rfl, hb⟩; refine ⟨_, rfl, ?_⟩; have n0_ := M_ (below_step (by repeat (first | (with_reducible first | exact HB.out | apply b0_ | apply b1_ | apply b2_) | exact HB.out)) hb); clear HB; have HB := n0_; clear n0_; (try clear hb); (try clear hb2); (try clear hk); (try clear hi)))
 (try simp only [Act.put, e1_, e2_, e3_])
 go_cut [24] (fun v24 wc => ∃ (kq : Nat) (x24_4 : Bool), v24 = .bool x24_4 ∧ Aside0 (spiritlevellaw17_LearnFollows.j0 kq a0 l1 l2 t267 x24_4 = some r) ∧ Aside0 (kq ≤ k) ∧ Aside0 (Below w.heap.size w wc))
 case first =>
  have H := HC5.out
  clear HC5
  replace H := Option.bind_eq_some_iff.mp H
  obtain ⟨t268, A70, H⟩ := H
  replace H : (if t268 = true then (spiritlevellaw17_LearnFollows.j0 k a0 l1 l2 t267 (!t267)) else (spiritlevellaw17_LearnFollows.j0 k a0 l1 l2 t267 true)) = some r := H
  have A7 := M_ A70
  clear A70
  by_cases c8 : t268 = true
  ·subst c8
   have H1 : (spiritlevellaw17_LearnFollows.j0 k a0 l1 l2 t267 (!t267)) = some r := by rw [if_pos rfl] at H; exact H
   clear H
   have H := H1
   clear H1
   have H' := M_ H
   clear H
   go_wp2_with (first | ((with_reducible refine gate_callee (f := 15) rfl ?_); refine goesL_ (some 19) rfl rfl Try.func15 (by kernel_rfl) rfl #[.int .i64 a0, .slice A1 l1.length c1, .slice A2 l2.length c2] rfl (by (try simp only [List.map_toArray, List.map_cons, List.map_nil]); first | done | rfl | (simp only [List.length_drop, List.length_take]; rfl)) ?_; (with_reducible refine (spiritlevellaw17_fit.calls k a0 _ _ l1 _ _ l2 true _ ?side1 ?side2 ?side3 ?side4 A7.out).mono ?_); (case side1 => repeat (first | exact (Kd.C_below HR1.out HB.out) | (with_reducible refine c0_ ?_ _) | (with_reducible refine c1_ ?_ _) | (with_reducible refine c2_ ?_))); (case side2 => exact HC1.out); (case side3 => repeat (first | exact (Kd.C_below HR2.out HB.out) | (with_reducible refine c0_ ?_ _) | (with_reducible refine c1_ ?_ _) | (with_reducible refine c2_ ?_))); (case side4 => exact HC2.out); rintro e w9 ⟨rfl, hb⟩; refine ⟨_, rfl, ?_⟩; have n0_ := M_ (below_step (by repeat (first | (with_reducible first | exact HB.out | apply b0_ | apply b1_ | apply b2_) | exact HB.out)) hb); clear HB; have HB := n0_; clear n0_; (try clear hb); (try clear hb2); (try clear hk); (try clear hi)))
   go_meet
   case rel => exact ⟨_, (!t267), (by first | rfl | (simp; done) | (simp [*]; done)), H', ⟨by first | omega | exact Nat.le_refl _⟩, ⟨by repeat (first | (with_reducible first | exact HB.out | apply b0_ | apply b1_ | apply b2_) | exact HB.out)⟩⟩
  ·replace c8 := Bool.eq_false_iff.mpr c8
   subst c8
   have H1 : (spiritlevellaw17_LearnFollows.j0 k a0 l1 l2 t267 true) = some r := by rw [if_neg (show ¬ (false = true) by decide)] at H; exact H
   clear H
   have H := H1
   clear H1
   have H' := M_ H
   clear H
   go_wp2_with (first | ((with_reducible refine gate_callee (f := 15) rfl ?_); refine goesL_ (some 19) rfl rfl Try.func15 (by kernel_rfl) rfl #[.int .i64 a0, .slice A1 l1.length c1, .slice A2 l2.length c2] rfl (by (try simp only [List.map_toArray, List.map_cons, List.map_nil]); first | done | rfl | (simp only [List.length_drop, List.length_take]; rfl)) ?_; (with_reducible refine (spiritlevellaw17_fit.calls k a0 _ _ l1 _ _ l2 false _ ?side1 ?side2 ?side3 ?side4 A7.out).mono ?_); (case side1 => repeat (first | exact (Kd.C_below HR1.out HB.out) | (with_reducible refine c0_ ?_ _) | (with_reducible refine c1_ ?_ _) | (with_reducible refine c2_ ?_))); (case side2 => exact HC1.out); (case side3 => repeat (first | exact (Kd.C_below HR2.out HB.out) | (with_reducible refine c0_ ?_ _) | (with_reducible refine c1_ ?_ _) | (with_reducible refine c2_ ?_))); (case side4 => exact HC2.out); rintro e w10 ⟨rfl, hb⟩; refine ⟨_, rfl, ?_⟩; have n0_ := M_ (below_step (by repeat (first | (with_reducible first | exact HB.out | apply b0_ | apply b1_ | apply b2_) | exact HB.out)) hb); clear HB; have HB := n0_; clear n0_; (try clear hb); (try clear hb2); (try clear hk); (try clear hi)))
   go_meet
   case rel => exact ⟨_, (true), (by first | rfl | (simp; done) | (simp [*]; done)), H', ⟨by first | omega | exact Nat.le_refl _⟩, ⟨by repeat (first | (with_reducible first | exact HB.out | apply b0_ | apply b1_ | apply b2_) | exact HB.out)⟩⟩
 case rest =>
  clear HC5
  try clear c1
  try clear c2
  try clear p2
  try clear c4
  try clear c8
  obtain ⟨kq, x24_4, rfl, HA, HJ4, HB⟩ := hcut
  cases kq with
  | zero => exact absurd HA.out (by simp [spiritlevellaw17_LearnFollows.j0])
  | succ kj4 =>
   have H := HA.out
   clear HA
   simp only [spiritlevellaw17_LearnFollows.j0] at H
   by_cases c11 : x24_4 = true
   ·subst c11
    have H1 : (some t267) = some r := by rw [if_pos rfl] at H; exact H
    clear H
    have H := H1
    clear H1
    obtain rfl := Option.some.inj H
    go_wp2
    go_ret
    exact ⟨by first | rfl | (simp [errW_none, errW_some] <;> rfl) | (simp [*, errW_none, errW_some] <;> rfl), by repeat (first | (with_reducible first | exact HB.out | apply b0_ | apply b1_ | apply b2_) | exact HB.out)⟩
   ·replace c11 := Bool.eq_false_iff.mpr c11
    subst c11
    have H1 : ((learn_Clause.f kj4 a0 l1 l2).bind fun bt269 => ((learn_Conflict.f kj4 a0 l1 l2).bind fun bt273 => (if bt273.2 = 0 then (spiritlevellaw17_LearnFollows.j1 kj4 a0 l1 l2 t267 bt269.1 bt269.2 bt273.1 (bt273.1 != (bt269.2 == 0))) else (spiritlevellaw17_LearnFollows.j1 kj4 a0 l1 l2 t267 bt269.1 bt269.2 bt273.1 true)))) = some r := by rw [if_neg (show ¬ (false = true) by decide)] at H; exact H
    clear H
    have H := H1
    clear H1
    replace H := Option.bind_eq_some_iff.mp H
    obtain ⟨⟨t269, t270⟩, A120, H⟩ := H
    replace H : ((learn_Conflict.f kj4 a0 l1 l2).bind fun bt273 => (if bt273.2 = 0 then (spiritlevellaw17_LearnFollows.j1 kj4 a0 l1 l2 t267 t269 t270 bt273.1 (bt273.1 != (t270 == 0))) else (spiritlevellaw17_LearnFollows.j1 kj4 a0 l1 l2 t267 t269 t270 bt273.1 true))) = some r := H
    have A12 := M_ A120
    clear A120
    replace H := Option.bind_eq_some_iff.mp H
    obtain ⟨⟨t273, t274⟩, A130, H⟩ := H
    replace H : (if t274 = 0 then (spiritlevellaw17_LearnFollows.j1 kj4 a0 l1 l2 t267 t269 t270 t273 (t273 != (t270 == 0))) else (spiritlevellaw17_LearnFollows.j1 kj4 a0 l1 l2 t267 t269 t270 t273 true)) = some r := H
    have A13 := M_ A130
    clear A130
    have HC14 := M_ H
    clear H
    go_upto_region 6 with (first | ((with_reducible refine gate_callee (f := 11) rfl ?_); refine goesL_ (some 30) rfl rfl Try.func11 (by kernel_rfl) rfl #[.int .i64 a0, .slice A1 l1.length c1, .slice A2 l2.length c2] rfl (by (try simp only [List.map_toArray, List.map_cons, List.map_nil]); first | done | rfl | (simp only [List.length_drop, List.length_take]; rfl)) ?_; (with_reducible refine (learn_Clause.calls kj4 a0 _ _ l1 _ _ l2 t269 t270 _ ?side1 ?side2 ?side3 ?side4 A12.out).mono ?_); (case side1 => repeat (first | exact (Kd.C_below HR1.out HB.out) | (with_reducible refine c0_ ?_ _) | (with_reducible refine c1_ ?_ _) | (with_reducible refine c2_ ?_))); (case side2 => exact HC1.out); (case side3 => repeat (first | exact (Kd.C_below HR2.out HB.out) | (with_reducible refine c0_ ?_ _) | (with_reducible refine c1_ ?_ _) | (with_reducible refine c2_ ?_))); (case side4 => exact HC2.out); rintro e w15 ⟨v271, rfl, ho0, hb⟩; refine ⟨_, rfl, ?_⟩; have n0_ := M_ (Kd.R_lower ho0 (below_size (by repeat (first | (with_reducible first | exact HB.out | apply b0_ | apply b1_ | apply b2_) | exact HB.out)))); have n1_ := M_ (below_step (by repeat (first | (with_reducible first | exact HB.out | apply b0_ | apply b1_ | apply b2_) | exact HB.out)) hb); clear HB; have HO272 := n0_; have HB := n1_; clear n0_ n1_; (try clear hb); (try clear hb2); (try clear hk); (try clear hi); (try clear ho0)) | ((with_reducible refine gate_callee (f := 9) rfl ?_); refine goesL_ (some 37) rfl rfl Try.func9 (by kernel_rfl) rfl #[.int .i64 a0, .slice A1 l1.length c1, .slice A2 l2.length c2] rfl (by (try simp only [List.map_toArray, List.map_cons, List.map_nil]); first | done | rfl | (simp only [List.length_drop, List.length_take]; rfl)) ?_; (with_reducible refine (learn_Conflict.calls kj4 a0 _ _ l1 _ _ l2 t273 t274 _ ?side1 ?side2 ?side3 ?side4 A13.out).mono ?_); (case side1 => repeat (first | exact (Kd.C_below HR1.out HB.out) | (with_reducible refine c0_ ?_ _) | (with_reducible refine c1_ ?_ _) | (with_reducible refine c2_ ?_))); (case side2 => exact HC1.out); (case side3 => repeat (first | exact (Kd.C_below HR2.out HB.out) | (with_reducible refine c0_ ?_ _) | (with_reducible refine c1_ ?_ _) | (with_reducible refine c2_ ?_))); (case side4 => exact HC2.out); rintro e w16 ⟨rfl, hb⟩; refine ⟨_, rfl, ?_⟩; have n0_ := M_ (Kd.R_below (by (with_reducible repeat (first | apply a0_ | apply a1_ | apply a2_)); exact HO272.out) hb); have n1_ := M_ (below_step (by repeat (first | (with_reducible first | exact HB.out | apply b0_ | apply b1_ | apply b2_) | exact HB.out)) hb); clear HO272; clear HB; have HO272 := n0_; have HB := n1_; clear n0_ n1_; (try clear hb); (try clear hb2); (try clear hk); (try clear hi)))
    (try simp only [Act.put, e1_, e2_, e3_])
    go_cut [47] (fun v47 wc => ∃ (kq : Nat) (x47_13 : Bool), v47 = .bool x47_13 ∧ Aside0 (spiritlevellaw17_LearnFollows.j1 kq a0 l1 l2 t267 t269 t270 t273 x47_13 = some r) ∧ Aside0 (kq ≤ kj4) ∧ Aside0 (Kd.R (Kd.int .i64) 3 wc w.heap.size (fun _ => True) v271 t269) ∧ Aside0 (Below w.heap.size w wc))
    case first =>
     have H := HC14.out
     clear HC14
     by_cases c17 : t274 = 0
     ·rw [if_pos c17] at H
      have c17b0 : (t274 == 0) = true := beq_iff_eq.mpr c17
      have c17b1 : (t274 != 0) = false := bne_eq_false_iff_eq.mpr c17
      clear c17
      (first | rw [c17b0] | (simp only [i64_w, i32_w]; rw [c17b0]) | skip)
      have H' := M_ H
      clear H
      go_wp2
      go_meet
      case rel => exact ⟨_, ((t273 != (t270 == 0))), (by first | rfl | (simp; done) | (simp [*]; done)), H', ⟨by have := HJ4.out; first | omega | exact Nat.le_refl _⟩, ⟨by (with_reducible repeat (first | apply a0_ | apply a1_ | apply a2_)); exact HO272.out⟩, ⟨by repeat (first | (with_reducible first | exact HB.out | apply b0_ | apply b1_ | apply b2_) | exact HB.out)⟩⟩
     ·rw [if_neg c17] at H
      have c17b0 : (t274 == 0) = false := beq_eq_false_iff_ne.mpr c17
      have c17b1 : (t274 != 0) = true := bne_iff_ne.mpr c17
      (first | rw [c17b0] | (simp only [i64_w, i32_w]; rw [c17b0]) | skip)
      have H' := M_ H
      clear H
      go_wp2
      go_meet
      case rel => exact ⟨_, (true), (by first | rfl | (simp; done) | (simp [*]; done)), H', ⟨by have := HJ4.out; first | omega | exact Nat.le_refl _⟩, ⟨by (with_reducible repeat (first | apply a0_ | apply a1_ | apply a2_)); exact HO272.out⟩, ⟨by repeat (first | (with_reducible first | exact HB.out | apply b0_ | apply b1_ | apply b2_) | exact HB.out)⟩⟩
    case rest =>
     clear HC14
     try clear c1
     try clear c2
     try clear p2
     try clear c4
     try clear c8
     try clear c9
     try clear c11
     try clear c14
     try clear c15
     try clear c17
     try clear c17b0
     try clear c17b1
     try clear p2
     obtain ⟨kq, x47_13, rfl, HA, HJ13, HO_8, HB⟩ := hcut
     cases kq with
     | zero => exact absurd HA.out (by simp [spiritlevellaw17_LearnFollows.j1])
     | succ kj13 =>
      have H := HA.out
      clear HA
      simp only [spiritlevellaw17_LearnFollows.j1] at H
      by_cases c18 : x47_13 = true
      ·subst c18
       have H1 : (some false) = some r := by rw [if_pos rfl] at H; exact H
       clear H
       have H := H1
       clear H1
       exact absurd ((Option.some.inj H).trans HTR_.out) (by decide)
      ·replace c18 := Bool.eq_false_iff.mpr c18
       subst c18
       have H1 : (if t273 = true then ((clause_Check.f kj13 a0 t269).bind fun t275 => (if t275 = 0 then ((spiritlevelref13_Check.f kj13 a0 t269).bind fun t276 => (spiritlevellaw17_LearnFollows.j2 kj13 a0 l1 l2 t267 t269 (t276 != 0))) else (spiritlevellaw17_LearnFollows.j2 kj13 a0 l1 l2 t267 t269 true))) else (if t267 = true then (if t270 = 6 then (some ((t269.length : Int) == 0)) else (some false)) else (some false))) = some r := by rw [if_neg (show ¬ (false = true) by decide)] at H; exact H
       clear H
       have H := H1
       clear H1
       by_cases c19 : t273 = true
       ·subst c19
        have H1 : ((clause_Check.f kj13 a0 t269).bind fun t275 => (if t275 = 0 then ((spiritlevelref13_Check.f kj13 a0 t269).bind fun t276 => (spiritlevellaw17_LearnFollows.j2 kj13 a0 l1 l2 t267 t269 (t276 != 0))) else (spiritlevellaw17_LearnFollows.j2 kj13 a0 l1 l2 t267 t269 true))) = some r := by rw [if_pos rfl] at H; exact H
        clear H
        have H := H1
        clear H1
        have HC20 := M_ H
        clear H
        go_upto_region 10 with (fail)
        go_cut [69] (fun v69 wc => ∃ (kq : Nat) (x69_19 : Bool), v69 = .bool x69_19 ∧ Aside0 (spiritlevellaw17_LearnFollows.j2 kq a0 l1 l2 t267 t269 x69_19 = some r) ∧ Aside0 (kq ≤ kj13) ∧ Aside0 (Kd.R (Kd.int .i64) 3 wc w.heap.size (fun _ => True) v271 t269) ∧ Aside0 (Below w.heap.size w wc))
        case first =>
         have H := HC20.out
         clear HC20
         replace H := Option.bind_eq_some_iff.mp H
         obtain ⟨t275, A210, H⟩ := H
         replace H : (if t275 = 0 then ((spiritlevelref13_Check.f kj13 a0 t269).bind fun t276 => (spiritlevellaw17_LearnFollows.j2 kj13 a0 l1 l2 t267 t269 (t276 != 0))) else (spiritlevellaw17_LearnFollows.j2 kj13 a0 l1 l2 t267 t269 true)) = some r := H
         have A21 := M_ A210
         clear A210
         by_cases c22 : t275 = 0
         ·rw [if_pos c22] at H
          have c22b0 : (t275 == 0) = true := beq_iff_eq.mpr c22
          have c22b1 : (t275 != 0) = false := bne_eq_false_iff_eq.mpr c22
          clear c22
          (first | rw [c22b0] | (simp only [i64_w, i32_w]; rw [c22b0]) | skip)
          replace H := Option.bind_eq_some_iff.mp H
          obtain ⟨t276, A230, H⟩ := H
          replace H : (spiritlevellaw17_LearnFollows.j2 kj13 a0 l1 l2 t267 t269 (t276 != 0)) = some r := H
          have A23 := M_ A230
          clear A230
          have H' := M_ H
          clear H
          obtain ⟨Ao24, co24, eo24⟩ := Kd.R_slice HO_8.out
          subst eo24
          go_wp2_with (first | ((with_reducible refine gate_callee (f := 16) rfl ?_); refine goesL_ (some 62) rfl rfl Try.func16 (by kernel_rfl) rfl #[.int .i64 a0, .slice Ao24 t269.length co24] rfl (by (try simp only [List.map_toArray, List.map_cons, List.map_nil]); first | done | rfl | (simp only [List.length_drop, List.length_take]; rfl)) ?_; (with_reducible refine (clause_Check.calls kj13 a0 _ _ t269 t275 _ ?side1 ?side2 A21.out).mono ?_); (case side1 => repeat (first | exact (Kd.R_reads' HO_8.out).2.2 | (with_reducible refine c0_ ?_ _) | (with_reducible refine c1_ ?_ _) | (with_reducible refine c2_ ?_))); (case side2 => exact (Kd.R_reads' HO_8.out).2.1); rintro e w' ⟨rfl, ⟨nd, rfl⟩⟩; refine ⟨_, rfl, ?_⟩) | (go_at_call 17; (with_reducible refine (spiritlevelref13_Check.calls kj13 a0 _ _ t269 t276 _ ?side1 ?side2 A23.out).mono ?_); (case side1 => repeat (first | exact (Kd.R_reads' HO_8.out).2.2 | (with_reducible refine c0_ ?_ _) | (with_reducible refine c1_ ?_ _) | (with_reducible refine c2_ ?_))); (case side2 => exact (Kd.R_reads' HO_8.out).2.1); rintro e w25 ⟨rfl, hb⟩; have n0_ := M_ (Kd.R_below (by (with_reducible repeat (first | apply a0_ | apply a1_ | apply a2_)); exact HO_8.out) hb); have n1_ := M_ (below_step (by repeat (first | (with_reducible first | exact HB.out | apply b0_ | apply b1_ | apply b2_) | exact HB.out)) hb); clear HO_8; clear HB; have HO_8 := n0_; have HB := n1_; clear n0_ n1_; (try clear hb); (try clear hb2); (try clear hk); (try clear hi)))
          go_meet
          case rel => exact ⟨_, ((t276 != 0)), (by first | rfl | (simp; done) | (simp [*]; done)), H', ⟨by have := HJ4.out; have := HJ13.out; first | omega | exact Nat.le_refl _⟩, ⟨by (with_reducible repeat (first | apply a0_ | apply a1_ | apply a2_)); exact HO_8.out⟩, ⟨by repeat (first | (with_reducible first | exact HB.out | apply b0_ | apply b1_ | apply b2_) | exact HB.out)⟩⟩
         ·rw [if_neg c22] at H
          have c22b0 : (t275 == 0) = false := beq_eq_false_iff_ne.mpr c22
          have c22b1 : (t275 != 0) = true := bne_iff_ne.mpr c22
          (first | rw [c22b0] | (simp only [i64_w, i32_w]; rw [c22b0]) | skip)
          have H' := M_ H
          clear H
          obtain ⟨Ao26, co26, eo26⟩ := Kd.R_slice HO_8.out
          subst eo26
          go_wp2_with (first | ((with_reducible refine gate_callee (f := 16) rfl ?_); refine goesL_ (some 62) rfl rfl Try.func16 (by kernel_rfl) rfl #[.int .i64 a0, .slice Ao26 t269.length co26] rfl (by (try simp only [List.map_toArray, List.map_cons, List.map_nil]); first | done | rfl | (simp only [List.length_drop, List.length_take]; rfl)) ?_; (with_reducible refine (clause_Check.calls kj13 a0 _ _ t269 t275 _ ?side1 ?side2 A21.out).mono ?_); (case side1 => repeat (first | exact (Kd.R_reads' HO_8.out).2.2 | (with_reducible refine c0_ ?_ _) | (with_reducible refine c1_ ?_ _) | (with_reducible refine c2_ ?_))); (case side2 => exact (Kd.R_reads' HO_8.out).2.1); rintro e w' ⟨rfl, ⟨nd, rfl⟩⟩; refine ⟨_, rfl, ?_⟩))
          go_meet
          case rel => exact ⟨_, (true), (by first | rfl | (simp; done) | (simp [*]; done)), H', ⟨by have := HJ4.out; have := HJ13.out; first | omega | exact Nat.le_refl _⟩, ⟨by (with_reducible repeat (first | apply a0_ | apply a1_ | apply a2_)); exact HO_8.out⟩, ⟨by repeat (first | (with_reducible first | exact HB.out | apply b0_ | apply b1_ | apply b2_) | exact HB.out)⟩⟩
        case rest =>
         clear HC20
         try clear c1
         try clear c2
         try clear p2
         try clear c4
         try clear c8
         try clear c9
         try clear c11
         try clear c14
         try clear c15
         try clear c16
         try clear c17
         try clear c17b0
         try clear c17b1
         try clear c18
         try clear c19
         try clear c22
         try clear c22b0
         try clear c22b1
         try clear p2
         obtain ⟨kq, x69_19, rfl, HA, HJ19, HO_8, HB⟩ := hcut
         cases kq with
         | zero => exact absurd HA.out (by simp [spiritlevellaw17_LearnFollows.j2])
         | succ kj19 =>
          have H := HA.out
          clear HA
          simp only [spiritlevellaw17_LearnFollows.j2] at H
          by_cases c27 : x69_19 = true
          ·subst c27
           have H1 : (some false) = some r := by rw [if_pos rfl] at H; exact H
           clear H
           have H := H1
           clear H1
           exact absurd ((Option.some.inj H).trans HTR_.out) (by decide)
          ·replace c27 := Bool.eq_false_iff.mpr c27
           subst c27
           have H1 : (spiritlevellaw17_LearnFollows.l0 kj19 a0 l1 l2 t267 t269 ([] : List Int) 0) = some r := by rw [if_neg (show ¬ (false = true) by decide)] at H; exact H
           clear H
           have H := H1
           clear H1
           have H' := M_ H
           clear H
           go_wp2
           go_loopg [12, 13] kj19 (fun kq v12 v13 w' => ∃ (x12_4 : List Int) (x13_4 : Int), v13 = .int .i64 x13_4 ∧ Aside0 (spiritlevellaw17_LearnFollows.l0 kq a0 l1 l2 t267 t269 x12_4 x13_4 = some r) ∧ Aside0 (kq ≤ kj19) ∧ Aside0 (Kd.R (Kd.int .i64) 3 w' w.heap.size (fun k_ => some k_ ≠ (v12 : Value).ownBlock) v271 t269) ∧ Aside0 (Kd.R (Kd.int .i64) 3 w' w.heap.size (fun k_ => some k_ ≠ (v271 : Value).ownBlock) v12 x12_4) ∧ Aside0 (Below w.heap.size w w'))
           case atStart => exact ⟨(([] : List Int)), (0), (by first | rfl | (simp; done) | (simp [*]; done)), H', ⟨Nat.le_refl _⟩, ⟨by (with_reducible repeat (first | apply a0_ | apply a1_ | apply a2_)); exact Kd.R_mono HO_8.out (fun _ hk => (by simp [Value.ownBlock]))⟩, ⟨by first | exact Kd.R_nil _ _ _ _ _ | exact Kd.N_nil _ _ _ _ _ | exact Kd.V_nil _ _ _ _ _ | exact Kd.Q_nil _ _ _ _ _ | exact Kd.S_nil _ _ _ _ _⟩, ⟨by repeat (first | (with_reducible first | exact HB.out | apply b0_ | apply b1_ | apply b2_) | exact HB.out)⟩⟩
           case round =>
            clear H'
            try clear c1
            try clear c2
            try clear p2
            try clear c4
            try clear c8
            try clear c9
            try clear c11
            try clear c14
            try clear c15
            try clear c16
            try clear c17
            try clear c17b0
            try clear c17b1
            try clear c18
            try clear c19
            try clear c22
            try clear c22b0
            try clear c22b1
            try clear c27
            try clear p2
            obtain ⟨x12_4, x13_4, rfl, HA, HK4, HO_8, HO_12, HB⟩ := hrel
            cases gk with
            | zero => exact absurd HA.out (by simp [spiritlevellaw17_LearnFollows.l0])
            | succ k4 =>
             have H := HA.out
             clear HA
             simp only [spiritlevellaw17_LearnFollows.l0] at H
             by_cases c28 : x13_4 < (t269.length : Int)
             ·rw [if_pos c28] at H
              have c28b0 : decide (x13_4 < (t269.length : Int)) = true := decide_eq_true c28
              clear c28
              by_cases c29 : 0 ≤ x13_4
              ·rw [if_pos c29] at H
               have c29b0 : decide (0 ≤ x13_4) = true := decide_eq_true c29
               clear c29
               replace H := Option.bind_eq_some_iff.mp H
               obtain ⟨t278, A300, H⟩ := H
               replace H : (if x12_4.length < 17592186044416 then (spiritlevellaw17_LearnFollows.l0 k4 a0 l1 l2 t267 t269 (x12_4 ++ [t278]) (wrap64 (x13_4 + 1))) else (none)) = some r := H
               have A30 := M_ A300
               clear A300
               by_cases c31 : x12_4.length < 17592186044416
               ·rw [if_pos c31] at H
                have LMc31 := M_ c31
                clear c31
                obtain ⟨y279, hy279⟩ : ∃ y_ : List Int, y_ = (x12_4 ++ [t278]) := ⟨_, rfl⟩
                replace H : (spiritlevellaw17_LearnFollows.l0 k4 a0 l1 l2 t267 t269 y279 (wrap64 (x13_4 + 1))) = some r := by first | (rw [hy279]; with_reducible exact H) | (have H2_ := (Option.bind_some _ _).symm.trans H; rw [hy279]; with_reducible exact H2_) | (have H2_ := (Option.bind_some _ _).symm.trans H; with_reducible exact H2_) | with_reducible exact H | (rw [hy279]; exact H) | exact H
                have Ny279 := M_ hy279
                clear hy279
                have H' := M_ H
                clear H
                obtain ⟨Ao32, co32, eo32⟩ := Kd.R_slice HO_8.out
                subst eo32
                have p277 : 0 ≤ (x13_4 : Int) := of_decide_eq_true (by first | (with_reducible assumption) | assumption)
                have q277 : x13_4 < (t269.length : Int) := of_decide_eq_true (by first | (with_reducible assumption) | assumption)
                obtain ⟨ad277, e277, hx277_0⟩ := Kd.at_int (Kd.R_reads' HO_8.out).2.2 x13_4 p277 q277
                cases e277
                replace p277 := eq_true p277
                replace q277 := eq_true q277
                go_wp2_with (first | ((with_reducible refine gate_callee (f := 18) rfl ?_); refine goesL_ (some 81) rfl rfl Try.func18 (by kernel_rfl) rfl #[.int .i64 (rd t269 x13_4)] rfl (by (try simp only [List.map_toArray, List.map_cons, List.map_nil]); first | done | rfl | (simp only [List.length_drop, List.length_take]; rfl)) ?_; (with_reducible refine (spiritlevelref13_Not.calls (rd t269 x13_4) t278 _ A30.out).mono ?_); rintro e w' ⟨rfl, ⟨nd, rfl⟩⟩; refine ⟨_, rfl, ?_⟩) | ((with_reducible refine gate_builtin (b := .append) (xs := #[.tmp 76, .tmp 82]) rfl ?_); (try (refine gate_guard (by rfl) ?_; dsimp only)); at_builtin; refine Kd.R_append (Kd.int .i64) (w0 := w) w.heap.size rfl (.tmp 76) (.tmp 82) 23 3 (.int .i64 0) 8 rfl Try.underlying23 info3 rfl (by decide) (by omega) u12 x12_4 t278 [.int .i64 t278] (fun k_ => some k_ ≠ (.slice (some ad277) t269.length co32 : Value).ownBlock) (fun _ => False) rfl rfl ?aP (fun _ hk => hk.elim) ?aF ?aO ?aB ?aS ?aL ?_; (case aP => exact rfl); (case aB => exact (by repeat (first | (with_reducible first | exact HB.out | apply b0_ | apply b1_ | apply b2_) | exact HB.out))); (case aF => exact (fun k_ hk => Kd.fresh' (Kd.R_lt (by (with_reducible repeat (first | apply a0_ | apply a1_ | apply a2_)); exact HO_8.out)) k_ hk)); (case aO => exact (by (with_reducible repeat (first | apply a0_ | apply a1_ | apply a2_)); exact HO_12.out)); (case aS => exact (below_size (by repeat (first | (with_reducible first | exact HB.out | apply b0_ | apply b1_ | apply b2_) | exact HB.out)))); (case aL => have := LMc31.out; omega); intro v280 w33 ho hb hg hat; rw [← Ny279.out] at ho; have n0_ := M_ (Kd.R_after (ok := (fun _ => True)) (by (with_reducible repeat (first | apply a0_ | apply a1_ | apply a2_)); exact Kd.R_mono HO_8.out (fun _ hk => ⟨trivial, hk⟩)) hg hat); have n1_ := M_ (hb); have n2_ := M_ (ho); clear HO_8; clear HB; clear HO_12; have HO_8 := n0_; have HB := n1_; have HO281 := n2_; clear n0_ n1_ n2_; clear ho hb hg hat))
                go_roundg k4
                case measure => have := HJ4.out; have := HJ13.out; have := HJ19.out; have := HK4.out; omega
                case rel => exact ⟨(y279), (wrap64 (x13_4 + 1)), (by first | rfl | (simp; done) | (simp [*]; done)), H', ⟨by have := HJ4.out; have := HJ13.out; have := HJ19.out; have := HK4.out; omega⟩, ⟨by (with_reducible repeat (first | apply a0_ | apply a1_ | apply a2_)); exact Kd.R_mono HO_8.out (fun _ hk => hk.2)⟩, ⟨by (with_reducible repeat (first | apply a0_ | apply a1_ | apply a2_)); exact HO281.out⟩, ⟨by repeat (first | (with_reducible first | exact HB.out | apply b0_ | apply b1_ | apply b2_) | exact HB.out)⟩⟩
               ·rw [if_neg c31] at H
                exact absurd H (by simp)
              ·rw [if_neg c29] at H
               exact absurd H (by simp)
             ·rw [if_neg c28] at H
              have c28b0 : decide (x13_4 < (t269.length : Int)) = false := decide_eq_false c28
              clear c28
              replace H := Option.bind_eq_some_iff.mp H
              obtain ⟨⟨t282, t283⟩, A340, H⟩ := H
              replace H : (if t283 = 0 then (if t282 = true then ((spiritlevelref13_Part.f k4 x12_4 l2).bind fun t284 => (spiritlevellaw17_LearnFollows.j4 k4 a0 l1 t267 x12_4 (!t284))) else (spiritlevellaw17_LearnFollows.j4 k4 a0 l1 t267 x12_4 true)) else (spiritlevellaw17_LearnFollows.j4 k4 a0 l1 t267 x12_4 true)) = some r := H
              have A34 := M_ A340
              clear A340
              have HC35 := M_ H
              clear H
              obtain ⟨Ao36, co36, eo36⟩ := Kd.R_slice HO_8.out
              subst eo36
              obtain ⟨Ao37, co37, eo37⟩ := Kd.R_slice HO_12.out
              subst eo37
              go_upto_region 18 with (first | ((with_reducible refine gate_callee (f := 9) rfl ?_); refine goesL_ (some 88) rfl rfl Try.func9 (by kernel_rfl) rfl #[.int .i64 a0, .slice A1 l1.length c1, .slice Ao37 x12_4.length co37] rfl (by (try simp only [List.map_toArray, List.map_cons, List.map_nil]); first | done | rfl | (simp only [List.length_drop, List.length_take]; rfl)) ?_; (with_reducible refine (learn_Conflict.calls k4 a0 _ _ l1 _ _ x12_4 t282 t283 _ ?side1 ?side2 ?side3 ?side4 A34.out).mono ?_); (case side1 => repeat (first | exact (Kd.C_below HR1.out HB.out) | (with_reducible refine c0_ ?_ _) | (with_reducible refine c1_ ?_ _) | (with_reducible refine c2_ ?_))); (case side2 => exact HC1.out); (case side3 => repeat (first | exact (Kd.R_reads' HO_12.out).2.2 | (with_reducible refine c0_ ?_ _) | (with_reducible refine c1_ ?_ _) | (with_reducible refine c2_ ?_))); (case side4 => exact (Kd.R_reads' HO_12.out).2.1); rintro e w38 ⟨rfl, hb⟩; refine ⟨_, rfl, ?_⟩; have n0_ := M_ (Kd.R_below (by (with_reducible repeat (first | apply a0_ | apply a1_ | apply a2_)); exact HO_8.out) hb); have n1_ := M_ (Kd.R_below (by (with_reducible repeat (first | apply a0_ | apply a1_ | apply a2_)); exact HO_12.out) hb); have n2_ := M_ (below_step (by repeat (first | (with_reducible first | exact HB.out | apply b0_ | apply b1_ | apply b2_) | exact HB.out)) hb); clear HO_8; clear HO_12; clear HB; have HO_8 := n0_; have HO_12 := n1_; have HB := n2_; clear n0_ n1_ n2_; (try clear hb); (try clear hb2); (try clear hk); (try clear hi)))
              (try simp only [Act.put, e1_, e2_, e3_])
              go_cut [102] (fun v102 wc => ∃ (kq : Nat) (x102_34 : Bool), v102 = .bool x102_34 ∧ Aside0 (spiritlevellaw17_LearnFollows.j4 kq a0 l1 t267 x12_4 x102_34 = some r) ∧ Aside0 (kq ≤ k4) ∧ Aside0 (Kd.R (Kd.int .i64) 3 wc w.heap.size (fun _ => True) (.slice Ao37 x12_4.length co37) x12_4) ∧ Aside0 (Below w.heap.size w wc))
              case first =>
               have H := HC35.out
               clear HC35
               by_cases c39 : t283 = 0
               ·rw [if_pos c39] at H
                have c39b0 : (t283 == 0) = true := beq_iff_eq.mpr c39
                have c39b1 : (t283 != 0) = false := bne_eq_false_iff_eq.mpr c39
                clear c39
                (first | rw [c39b0] | (simp only [i64_w, i32_w]; rw [c39b0]) | skip)
                by_cases c40 : t282 = true
                ·subst c40
                 have H1 : ((spiritlevelref13_Part.f k4 x12_4 l2).bind fun t284 => (spiritlevellaw17_LearnFollows.j4 k4 a0 l1 t267 x12_4 (!t284))) = some r := by rw [if_pos rfl] at H; exact H
                 clear H
                 have H := H1
                 clear H1
                 replace H := Option.bind_eq_some_iff.mp H
                 obtain ⟨t284, A410, H⟩ := H
                 replace H : (spiritlevellaw17_LearnFollows.j4 k4 a0 l1 t267 x12_4 (!t284)) = some r := H
                 have A41 := M_ A410
                 clear A410
                 have H' := M_ H
                 clear H
                 go_wp2_with (first | (go_at_call 19; (with_reducible refine (spiritlevelref13_Part.calls k4 _ _ x12_4 _ _ l2 t284 _ ?side1 ?side2 ?side3 ?side4 A41.out).mono ?_); (case side1 => repeat (first | exact (Kd.R_reads' HO_12.out).2.2 | (with_reducible refine c0_ ?_ _) | (with_reducible refine c1_ ?_ _) | (with_reducible refine c2_ ?_))); (case side2 => exact (Kd.R_reads' HO_12.out).2.1); (case side3 => repeat (first | exact (Kd.C_below HR2.out HB.out) | (with_reducible refine c0_ ?_ _) | (with_reducible refine c1_ ?_ _) | (with_reducible refine c2_ ?_))); (case side4 => exact HC2.out); rintro e w' ⟨rfl, ⟨nd, rfl⟩⟩))
                 go_meet
                 case rel => exact ⟨_, (!t284), (by first | rfl | (simp; done) | (simp [*]; done)), H', ⟨by have := HJ4.out; have := HJ13.out; have := HJ19.out; have := HK4.out; first | omega | exact Nat.le_refl _⟩, ⟨by (with_reducible repeat (first | apply a0_ | apply a1_ | apply a2_)); exact Kd.R_mono HO_12.out (fun _ hk => trivial)⟩, ⟨by repeat (first | (with_reducible first | exact HB.out | apply b0_ | apply b1_ | apply b2_) | exact HB.out)⟩⟩
                ·replace c40 := Bool.eq_false_iff.mpr c40
                 subst c40
                 have H1 : (spiritlevellaw17_LearnFollows.j4 k4 a0 l1 t267 x12_4 true) = some r := by rw [if_neg (show ¬ (false = true) by decide)] at H; exact H
                 clear H
                 have H := H1
                 clear H1
                 have H' := M_ H
                 clear H
                 go_wp2
                 go_meet
                 case rel => exact ⟨_, (true), (by first | rfl | (simp; done) | (simp [*]; done)), H', ⟨by have := HJ4.out; have := HJ13.out; have := HJ19.out; have := HK4.out; first | omega | exact Nat.le_refl _⟩, ⟨by (with_reducible repeat (first | apply a0_ | apply a1_ | apply a2_)); exact Kd.R_mono HO_12.out (fun _ hk => trivial)⟩, ⟨by repeat (first | (with_reducible first | exact HB.out | apply b0_ | apply b1_ | apply b2_) | exact HB.out)⟩⟩
               ·rw [if_neg c39] at H
                have c39b0 : (t283 == 0) = false := beq_eq_false_iff_ne.mpr c39
                have c39b1 : (t283 != 0) = true := bne_iff_ne.mpr c39
                (first | rw [c39b0] | (simp only [i64_w, i32_w]; rw [c39b0]) | skip)
                have H' := M_ H
                clear H
                go_wp2
                go_meet
                case rel => exact ⟨_, (true), (by first | rfl | (simp; done) | (simp [*]; done)), H', ⟨by have := HJ4.out; have := HJ13.out; have := HJ19.out; have := HK4.out; first | omega | exact Nat.le_refl _⟩, ⟨by (with_reducible repeat (first | apply a0_ | apply a1_ | apply a2_)); exact Kd.R_mono HO_12.out (fun _ hk => trivial)⟩, ⟨by repeat (first | (with_reducible first | exact HB.out | apply b0_ | apply b1_ | apply b2_) | exact HB.out)⟩⟩
              case rest =>
               clear HC35
               try clear c1
               try clear c2
               try clear p2
               try clear q2
               try clear hx2
               try clear c3
               try clear c4
               try clear p6
               try clear c8
               try clear c9
               try clear c11
               try clear c14
               try clear c15
               try clear c16
               try clear c17
               try clear c17b0
               try clear c17b1
               try clear c18
               try clear c19
               try clear c22
               try clear c22b0
               try clear c22b1
               try clear c27
               try clear p27
               try clear q27
               try clear hx27
               try clear c28
               try clear c28b0
               try clear c29
               try clear c29b0
               try clear c31
               try clear c39
               try clear c39b0
               try clear c39b1
               try clear c40
               try clear hx277_0
               try clear p2
               try clear p277
               try clear q277
               obtain ⟨kq, x102_34, rfl, HA, HJ34, HO_12, HB⟩ := hcut
               cases kq with
               | zero => exact absurd HA.out (by simp [spiritlevellaw17_LearnFollows.j4])
               | succ kj34 =>
                have H := HA.out
                clear HA
                simp only [spiritlevellaw17_LearnFollows.j4] at H
                by_cases c42 : x102_34 = true
                ·subst c42
                 have H1 : (some false) = some r := by rw [if_pos rfl] at H; exact H
                 clear H
                 have H := H1
                 clear H1
                 exact absurd ((Option.some.inj H).trans HTR_.out) (by decide)
                ·replace c42 := Bool.eq_false_iff.mpr c42
                 subst c42
                 have H1 : (spiritlevellaw17_LearnFollows.l1 kj34 a0 l1 t267 x12_4 0) = some r := by rw [if_neg (show ¬ (false = true) by decide)] at H; exact H
                 clear H
                 have H := H1
                 clear H1
                 have H' := M_ H
                 clear H
                 go_wp2
                 go_loopg [14] kj34 (fun kq v14 w' => ∃ (x14_6 : Int), v14 = .int .i64 x14_6 ∧ Aside0 (spiritlevellaw17_LearnFollows.l1 kq a0 l1 t267 x12_4 x14_6 = some r) ∧ Aside0 (kq ≤ kj34) ∧ Aside0 (Kd.R (Kd.int .i64) 3 w' w.heap.size (fun _ => True) (.slice Ao37 x12_4.length co37) x12_4) ∧ Aside0 (Below w.heap.size w w'))
                 case atStart => exact ⟨(0), (by first | rfl | (simp; done) | (simp [*]; done)), H', ⟨Nat.le_refl _⟩, ⟨by (with_reducible repeat (first | apply a0_ | apply a1_ | apply a2_)); exact HO_12.out⟩, ⟨by repeat (first | (with_reducible first | exact HB.out | apply b0_ | apply b1_ | apply b2_) | exact HB.out)⟩⟩
                 case round =>
                  clear H'
                  try clear c1
                  try clear c2
                  try clear p2
                  try clear q2
                  try clear hx2
                  try clear c3
                  try clear c4
                  try clear p6
                  try clear c8
                  try clear c9
                  try clear c11
                  try clear c14
                  try clear c15
                  try clear c16
                  try clear c17
                  try clear c17b0
                  try clear c17b1
                  try clear c18
                  try clear c19
                  try clear c22
                  try clear c22b0
                  try clear c22b1
                  try clear c27
                  try clear p27
                  try clear q27
                  try clear hx27
                  try clear c28
                  try clear c28b0
                  try clear c29
                  try clear c29b0
                  try clear c31
                  try clear c39
                  try clear c39b0
                  try clear c39b1
                  try clear c40
                  try clear c42
                  try clear hx277_0
                  try clear p2
                  try clear p27
                  try clear p277
                  try clear p6
                  try clear q2
                  try clear q27
                  try clear q277
                  obtain ⟨x14_6, rfl, HA, HK6, HO_12, HB⟩ := hrel
                  cases gk with
                  | zero => exact absurd HA.out (by simp [spiritlevellaw17_LearnFollows.l1])
                  | succ k6 =>
                   have H := HA.out
                   clear HA
                   simp only [spiritlevellaw17_LearnFollows.l1] at H
                   by_cases c43 : x14_6 < (x12_4.length : Int)
                   ·rw [if_pos c43] at H
                    have c43b0 : decide (x14_6 < (x12_4.length : Int)) = true := decide_eq_true c43
                    clear c43
                    by_cases c44 : 0 ≤ x14_6
                    ·rw [if_pos c44] at H
                     have c44b0 : decide (0 ≤ x14_6) = true := decide_eq_true c44
                     clear c44
                     replace H := Option.bind_eq_some_iff.mp H
                     obtain ⟨t286, A450, H⟩ := H
                     replace H : ((learn_Conflict.f k6 a0 l1 t286).bind fun bt289 => (if bt289.2 = 0 then (if bt289.1 = true then (some false) else (spiritlevellaw17_LearnFollows.l1 k6 a0 l1 t267 x12_4 (wrap64 (x14_6 + 1)))) else (some false))) = some r := H
                     have A45 := M_ A450
                     clear A450
                     replace H := Option.bind_eq_some_iff.mp H
                     obtain ⟨⟨t289, t290⟩, A460, H⟩ := H
                     replace H : (if t290 = 0 then (if t289 = true then (some false) else (spiritlevellaw17_LearnFollows.l1 k6 a0 l1 t267 x12_4 (wrap64 (x14_6 + 1)))) else (some false)) = some r := H
                     have A46 := M_ A460
                     clear A460
                     by_cases c47 : t290 = 0
                     ·rw [if_pos c47] at H
                      have c47b0 : (t290 == 0) = true := beq_iff_eq.mpr c47
                      have c47b1 : (t290 != 0) = false := bne_eq_false_iff_eq.mpr c47
                      clear c47
                      by_cases c48 : t289 = true
                      ·subst c48
                       have H1 : (some false) = some r := by rw [if_pos rfl] at H; exact H
                       clear H
                       have H := H1
                       clear H1
                       exact absurd ((Option.some.inj H).trans HTR_.out) (by decide)
                      ·replace c48 := Bool.eq_false_iff.mpr c48
                       subst c48
                       have H1 : (spiritlevellaw17_LearnFollows.l1 k6 a0 l1 t267 x12_4 (wrap64 (x14_6 + 1))) = some r := by rw [if_neg (show ¬ (false = true) by decide)] at H; exact H
                       clear H
                       have H := H1
                       clear H1
                       have H' := M_ H
                       clear H
                       have p285 : 0 ≤ (x14_6 : Int) := of_decide_eq_true (by first | (with_reducible assumption) | assumption)
                       have q285 : x14_6 < (x12_4.length : Int) := of_decide_eq_true (by first | (with_reducible assumption) | assumption)
                       obtain ⟨ad285, e285, hx285_0⟩ := Kd.at_int (Kd.R_reads' HO_12.out).2.2 x14_6 p285 q285
                       cases e285
                       replace p285 := eq_true p285
                       replace q285 := eq_true q285
                       go_wp2_with (first | ((with_reducible refine gate_callee (f := 20) rfl ?_); refine goesL_ (some 117) rfl rfl Try.func20 (by kernel_rfl) rfl #[.slice (some ad285) x12_4.length co37, .int .i64 (rd x12_4 x14_6)] rfl (by (try simp only [List.map_toArray, List.map_cons, List.map_nil]); first | done | rfl | (simp only [List.length_drop, List.length_take]; rfl)) ?_; (with_reducible refine (spiritlevelref13_Without.calls k6 _ _ x12_4 (rd x12_4 x14_6) t286 _ ?side1 ?side2 A45.out).mono ?_); (case side1 => repeat (first | exact (Kd.R_reads' HO_12.out).2.2 | (with_reducible refine c0_ ?_ _) | (with_reducible refine c1_ ?_ _) | (with_reducible refine c2_ ?_))); (case side2 => exact (Kd.R_reads' HO_12.out).2.1); rintro e w49 ⟨v287, rfl, ho0, hb⟩; refine ⟨_, rfl, ?_⟩; have n0_ := M_ (Kd.R_elder' (by (with_reducible repeat (first | apply a0_ | apply a1_ | apply a2_)); exact HO_12.out) (Kd.R_base ho0) hb); have n1_ := M_ (Kd.R_lower (Kd.R_new' ho0 (Kd.R_lt (by (with_reducible repeat (first | apply a0_ | apply a1_ | apply a2_)); exact HO_12.out))) (below_size (by repeat (first | (with_reducible first | exact HB.out | apply b0_ | apply b1_ | apply b2_) | exact HB.out)))); have n2_ := M_ (below_step (by repeat (first | (with_reducible first | exact HB.out | apply b0_ | apply b1_ | apply b2_) | exact HB.out)) hb); clear HO_12; clear HB; have HO_12 := n0_; have HO288 := n1_; have HB := n2_; clear n0_ n1_ n2_; (try clear hb); (try clear hb2); (try clear hk); (try clear hi); (try clear ho0); obtain ⟨Ao50, co50, eo50⟩ := Kd.R_slice HO288.out; subst eo50) | ((with_reducible refine gate_callee (f := 9) rfl ?_); refine goesL_ (some 118) rfl rfl Try.func9 (by kernel_rfl) rfl #[.int .i64 a0, .slice A1 l1.length c1, .slice Ao50 t286.length co50] rfl (by (try simp only [List.map_toArray, List.map_cons, List.map_nil]); first | done | rfl | (simp only [List.length_drop, List.length_take]; rfl)) ?_; (with_reducible refine (learn_Conflict.calls k6 a0 _ _ l1 _ _ t286 false t290 _ ?side1 ?side2 ?side3 ?side4 A46.out).mono ?_); (case side1 => repeat (first | exact (Kd.C_below HR1.out HB.out) | (with_reducible refine c0_ ?_ _) | (with_reducible refine c1_ ?_ _) | (with_reducible refine c2_ ?_))); (case side2 => exact HC1.out); (case side3 => repeat (first | exact (Kd.R_reads' HO288.out).2.2 | (with_reducible refine c0_ ?_ _) | (with_reducible refine c1_ ?_ _) | (with_reducible refine c2_ ?_))); (case side4 => exact (Kd.R_reads' HO288.out).2.1); rintro e w51 ⟨rfl, hb⟩; refine ⟨_, rfl, ?_⟩; have n0_ := M_ (Kd.R_below (by (with_reducible repeat (first | apply a0_ | apply a1_ | apply a2_)); exact HO_12.out) hb); have n1_ := M_ (Kd.R_below (by (with_reducible repeat (first | apply a0_ | apply a1_ | apply a2_)); exact HO288.out) hb); have n2_ := M_ (below_step (by repeat (first | (with_reducible first | exact HB.out | apply b0_ | apply b1_ | apply b2_) | exact HB.out)) hb); clear HO_12; clear HO288; clear HB; have HO_12 := n0_; have HO288 := n1_; have HB := n2_; clear n0_ n1_ n2_; (try clear hb); (try clear hb2); (try clear hk); (try clear hi)))
                       go_roundg k6
                       case measure => have := HJ4.out; have := HJ13.out; have := HJ19.out; have := HK4.out; have := HJ34.out; have := HK6.out; omega
                       case rel => exact ⟨(wrap64 (x14_6 + 1)), (by first | rfl | (simp; done) | (simp [*]; done)), H', ⟨by have := HJ4.out; have := HJ13.out; have := HJ19.out; have := HK4.out; have := HJ34.out; have := HK6.out; omega⟩, ⟨by (with_reducible repeat (first | apply a0_ | apply a1_ | apply a2_)); exact Kd.R_mono HO_12.out (fun _ hk => trivial)⟩, ⟨by repeat (first | (with_reducible first | exact HB.out | apply b0_ | apply b1_ | apply b2_) | exact HB.out)⟩⟩
                     ·rw [if_neg c47] at H
                      have c47b0 : (t290 == 0) = false := beq_eq_false_iff_ne.mpr c47
                      have c47b1 : (t290 != 0) = true := bne_iff_ne.mpr c47
                      exact absurd ((Option.some.inj H).trans HTR_.out) (by decide)
                    ·rw [if_neg c44] at H
                     exact absurd H (by simp)
                   ·rw [if_neg c43] at H
                    have c43b0 : decide (x14_6 < (x12_4.length : Int)) = false := decide_eq_false c43
                    clear c43
                    obtain rfl := Option.some.inj H
                    go_wp2
                    go_ret
                    exact ⟨by first | rfl | (simp [errW_none, errW_some] <;> rfl) | (simp [*, errW_none, errW_some] <;> rfl), by repeat (first | (with_reducible first | exact HB.out | apply b0_ | apply b1_ | apply b2_) | exact HB.out)⟩
       ·replace c19 := Bool.eq_false_iff.mpr c19
        subst c19
        have H1 : (if t267 = true then (if t270 = 6 then (some ((t269.length : Int) == 0)) else (some false)) else (some false)) = some r := by rw [if_neg (show ¬ (false = true) by decide)] at H; exact H
        clear H
        have H := H1
        clear H1
        by_cases c52 : t267 = true
        ·subst c52
         have H1 : (if t270 = 6 then (some ((t269.length : Int) == 0)) else (some false)) = some r := by rw [if_pos rfl] at H; exact H
         clear H
         have H := H1
         clear H1
         by_cases c53 : t270 = 6
         ·rw [if_pos c53] at H
          have c53b0 : (t270 == 6) = true := beq_iff_eq.mpr c53
          have c53b1 : (t270 != 6) = false := bne_eq_false_iff_eq.mpr c53
          clear c53
          obtain rfl := Option.some.inj H
          obtain ⟨Ao54, co54, eo54⟩ := Kd.R_slice HO_8.out
          subst eo54
          go_wp2
          go_ret
          exact ⟨by first | rfl | (simp [errW_none, errW_some] <;> rfl) | (simp [*, errW_none, errW_some] <;> rfl), by repeat (first | (with_reducible first | exact HB.out | apply b0_ | apply b1_ | apply b2_) | exact HB.out)⟩
         ·rw [if_neg c53] at H
          have c53b0 : (t270 == 6) = false := beq_eq_false_iff_ne.mpr c53
          have c53b1 : (t270 != 6) = true := bne_iff_ne.mpr c53
          exact absurd ((Option.some.inj H).trans HTR_.out) (by decide)
        ·replace c52 := Bool.eq_false_iff.mpr c52
         subst c52
         have H1 : (some false) = some r := by rw [if_neg (show ¬ (false = true) by decide)] at H; exact H
         clear H
         have H := H1
         clear H1
         exact absurd ((Option.some.inj H).trans HTR_.out) (by decide)

/-- THE ONE PURE STATEMENT of spiritlevellaw17_LearnFollows. -/
def spiritlevellaw17_LearnFollows.Pure : Prop := ∀ (a0 : Int) (l1 : List (List Int)) (l2 : List Int), ((Lit.int .i64 a0).wf = true) → (l1.length ≤ 9223372036854775807 ∧ l1.length * 24 ≤ 140737488351232 ∧ ∀ x0_ ∈ l1, x0_.length ≤ 9223372036854775807 ∧ x0_.length * 8 ≤ 140737488351232 ∧ ∀ x1_ ∈ x0_, (Lit.int .i64 x1_).wf = true) → (l2.length ≤ 9223372036854775807 ∧ l2.length * 8 ≤ 140737488351232 ∧ ∀ x0_ ∈ l2, (Lit.int .i64 x0_).wf = true) → ∃ k, spiritlevellaw17_LearnFollows.f k a0 l1 l2 = some true
theorem spiritlevellaw17_LearnFollows.walk (P : spiritlevellaw17_LearnFollows.Pure) (a0 : Int) (A1 : Option Addr) (c1 : Nat) (l1 : List (List Int)) (A2 : Option Addr) (c2 : Nat) (l2 : List Int) (w : World) (hr1 : Kd.C (Kd.slice 3 (Kd.int .i64)) w A1 l1.length l1) (hc1 : l1.length ≤ c1) (hr2 : Kd.C (Kd.int .i64) w A2 l2.length l2) (hc2 : l2.length ≤ c2) (ok0 : (Lit.int .i64 a0).wf = true) (ok1 : l1.length ≤ 9223372036854775807 ∧ l1.length * 24 ≤ 140737488351232 ∧ ∀ x0_ ∈ l1, x0_.length ≤ 9223372036854775807 ∧ x0_.length * 8 ≤ 140737488351232 ∧ ∀ x1_ ∈ x0_, (Lit.int .i64 x1_).wf = true) (ok2 : l2.length ≤ 9223372036854775807 ∧ l2.length * 8 ≤ 140737488351232 ∧ ∀ x0_ ∈ l2, (Lit.int .i64 x0_).wf = true) :
  Calls Try.prog 4 #[.int .i64 a0, .slice A1 l1.length c1, .slice A2 l2.length c2] w fun e w' => e = .returned (.bool true) ∧ Below w.heap.size w w' := by
 obtain ⟨k, h⟩ := P a0 l1 l2 ok0 ok1 ok2
 refine (spiritlevellaw17_LearnFollows.calls k a0 A1 c1 l1 A2 c2 l2 true w hr1 hc1 hr2 hc2 rfl h).mono ?_
 rintro e w' ⟨rfl, hd⟩
 exact ⟨rfl, hd⟩

end Go.Proofs.Ytcopolpepodceaa.QLearnFollows
