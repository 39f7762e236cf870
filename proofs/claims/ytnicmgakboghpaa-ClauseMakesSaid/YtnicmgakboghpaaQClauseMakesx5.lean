-- Made by wip/myprint.sh (a patched print): a text of this session's own.
import Derived.Test.YtnicmgakboghpaaQClauseMakesx0
import Derived.Test.YtnicmgakboghpaaQClauseMakesx1
import Derived.Test.YtnicmgakboghpaaQClauseMakesx2
import Derived.Test.YtnicmgakboghpaaQClauseMakesx3
import Derived.Test.YtnicmgakboghpaaQClauseMakesx4
namespace Go.Proofs.Ytnicmgakboghpaa.QClauseMakes
open Go.RowKit Go.Proofs.YtnicmgakboghpaaW.PrintWords Go.Proofs.YtnicmgakboghpaaW.PrintLast Go.Proofs.YtnicmgakboghpaaW.PrintMore
attribute [local go_sem] max2_int min2_int max_two min_two max_three min_three max_four min_four   -- for this text's walks alone
set_option linter.unusedVariables false
set_option linter.unusedSimpArgs false

/-! ### spiritlevellaw13_ClauseMakes: function 5 -/
mutual
def spiritlevellaw13_ClauseMakes.j0 : Nat → Int → List Int → Int → Bool → Bool → Option (Bool)
  | 0, _, _, _, _, _ => none
  | k + 1, x0, x1, x2, x7, x47 => if x47 = true then (some x7) else (spiritlevellaw13_ClauseMakes.l0 k x0 x1 x2 x7 0)
def spiritlevellaw13_ClauseMakes.l0 : Nat → Int → List Int → Int → Bool → Int → Option (Bool)
  | 0, _, _, _, _, _ => none
  | k + 1, x0, x1, x2, x7, x8 => if x8 < (x1.length : Int) then (if 0 ≤ x8 then ((spiritlevelref13_Lit.f x0 (rd x1 x8)).bind fun t181 => (if t181 = true then (spiritlevellaw13_ClauseMakes.l0 k x0 x1 x2 x7 (wrap64 (x8 + 1))) else (some x7))) else (none)) else ((clause_Make.f k x0 x1).bind fun bt182 => ((some (([] : List Int) : List Int)).bind fun y187 => (if 0 ≤ x2 then (if x2 ≤ (x1.length : Int) then (if y187.length + (x1.drop (x2 : Int).toNat).length < 17592186044416 then ((some (y187 ++ (x1.drop (x2 : Int).toNat) : List Int)).bind fun y191 => (if y191.length + (x1.take (x2 : Int).toNat).length < 17592186044416 then ((some (y191 ++ (x1.take (x2 : Int).toNat) : List Int)).bind fun y195 => (if y195.length + (x1.take (x2 : Int).toNat).length < 17592186044416 then ((clause_Make.f k x0 (y195 ++ (x1.take (x2 : Int).toNat))).bind fun bt202 => (if bt182.2.2 = 0 then (if bt202.2.2 = 0 then (if (bt182.2.1 != bt202.2.1) = true then (spiritlevellaw13_ClauseMakes.j2 k x0 x1 x7 bt182.1 bt182.2.1 true) else ((spiritlevelref13_Same.f k bt182.1 bt202.1).bind fun t207 => (spiritlevellaw13_ClauseMakes.j2 k x0 x1 x7 bt182.1 bt182.2.1 (!t207)))) else (spiritlevellaw13_ClauseMakes.j2 k x0 x1 x7 bt182.1 bt182.2.1 true)) else (spiritlevellaw13_ClauseMakes.j2 k x0 x1 x7 bt182.1 bt182.2.1 true))) else (none))) else (none))) else (none)) else (none)) else (none))))
def spiritlevellaw13_ClauseMakes.j2 : Nat → Int → List Int → Bool → List Int → Bool → Bool → Option (Bool)
  | 0, _, _, _, _, _, _ => none
  | k + 1, x0, x1, x7, x9, x10, x105 => if x105 = true then (some false) else (spiritlevellaw13_ClauseMakes.l1 k x0 x1 x7 x9 x10 0)
def spiritlevellaw13_ClauseMakes.l1 : Nat → Int → List Int → Bool → List Int → Bool → Int → Option (Bool)
  | 0, _, _, _, _, _, _ => none
  | k + 1, x0, x1, x7, x9, x10, x15 => if 0 ≤ (IntKind.u64.wrap (x0)) then (if x15 < (shl .i64 1 (IntKind.u64.wrap (x0))) then ((spiritlevelref13_Values.f k x0 x15).bind fun t208 => ((clause_True.f k x9 t208).bind fun bt211 => (if x10 = true then ((spiritlevelref13_Holds.f k x1 t208).bind fun t213 => (if t213 = true then (spiritlevellaw13_ClauseMakes.l1 k x0 x1 x7 x9 x10 (wrap64 (x15 + 1))) else (some false))) else (if bt211.2 = 0 then ((spiritlevelref13_Holds.f k x1 t208).bind fun t214 => (if (bt211.1 != t214) = true then (some false) else (spiritlevellaw13_ClauseMakes.l1 k x0 x1 x7 x9 x10 (wrap64 (x15 + 1))))) else (some false))))) else (if x10 = true then (if x7 = true then (some ((x9.length : Int) == 0)) else (some false)) else ((clause_Make.f k x0 x9).bind fun bt215 => (if x7 = true then ((clause_Check.f k x0 x9).bind fun t220 => (if t220 = 0 then (if bt215.2.2 = 0 then (if bt215.2.1 = true then (some false) else ((spiritlevelref13_Same.f k bt215.1 x9).bind fun t221 => (some t221))) else (some false)) else (some false))) else (some false))))) else (none)
end
def spiritlevellaw13_ClauseMakes.f (k : Nat) (a0 : Int) (l1 : List Int) (a2 : Int) : Option (Bool) := (spiritlevellaw13_alive.f k).bind fun t179 => (if a0 < 0 then (spiritlevellaw13_ClauseMakes.j0 k a0 l1 a2 t179 true) else (if a0 > 8 then (spiritlevellaw13_ClauseMakes.j0 k a0 l1 a2 t179 true) else (if (l1.length : Int) > 30 then (spiritlevellaw13_ClauseMakes.j0 k a0 l1 a2 t179 true) else (if a2 < 0 then (spiritlevellaw13_ClauseMakes.j0 k a0 l1 a2 t179 true) else (if a2 > (l1.length : Int) then (spiritlevellaw13_ClauseMakes.j0 k a0 l1 a2 t179 true) else (spiritlevellaw13_ClauseMakes.j0 k a0 l1 a2 t179 (!t179)))))))
theorem spiritlevellaw13_ClauseMakes.mono_l : ∀ k, (∀ y0 y1 y2 y3 y4, LeO (spiritlevellaw13_ClauseMakes.j0 k y0 y1 y2 y3 y4) (spiritlevellaw13_ClauseMakes.j0 (k + 1) y0 y1 y2 y3 y4)) ∧ (∀ y0 y1 y2 y3 y4, LeO (spiritlevellaw13_ClauseMakes.l0 k y0 y1 y2 y3 y4) (spiritlevellaw13_ClauseMakes.l0 (k + 1) y0 y1 y2 y3 y4)) ∧ (∀ y0 y1 y2 y3 y4 y5, LeO (spiritlevellaw13_ClauseMakes.j2 k y0 y1 y2 y3 y4 y5) (spiritlevellaw13_ClauseMakes.j2 (k + 1) y0 y1 y2 y3 y4 y5)) ∧ (∀ y0 y1 y2 y3 y4 y5, LeO (spiritlevellaw13_ClauseMakes.l1 k y0 y1 y2 y3 y4 y5) (spiritlevellaw13_ClauseMakes.l1 (k + 1) y0 y1 y2 y3 y4 y5))
  | 0 => ⟨fun _ _ _ _ _ r h => by simp [spiritlevellaw13_ClauseMakes.j0] at h, fun _ _ _ _ _ r h => by simp [spiritlevellaw13_ClauseMakes.l0] at h, fun _ _ _ _ _ _ r h => by simp [spiritlevellaw13_ClauseMakes.j2] at h, fun _ _ _ _ _ _ r h => by simp [spiritlevellaw13_ClauseMakes.l1] at h⟩
  | k + 1 => by
    obtain ⟨ih0, ih1, ih2, ih3⟩ := spiritlevellaw13_ClauseMakes.mono_l k
    refine ⟨?_, ?_, ?_, ?_⟩
    · intro y0 y1 y2 y3 y4
      unfold spiritlevellaw13_ClauseMakes.j0
      repeat' first
      | (with_reducible exact ih0 _ _ _ _ _)
      | (with_reducible exact ih1 _ _ _ _ _)
      | (with_reducible exact ih2 _ _ _ _ _ _)
      | (with_reducible exact ih3 _ _ _ _ _ _)
      | (with_reducible exact clause_Check.mono _ _ _)
      | (with_reducible exact clause_Make.mono _ _ _)
      | (with_reducible exact clause_True.mono _ _ _)
      | (with_reducible exact spiritlevellaw13_alive.mono _)
      | (with_reducible exact spiritlevelref13_Holds.mono _ _ _)
      | (with_reducible exact spiritlevelref13_Same.mono _ _ _)
      | (with_reducible exact spiritlevelref13_Values.mono _ _ _)
      | (with_reducible exact LeO.refl _)
      | (with_reducible exact LeO.none _)
      | (with_reducible refine LeO.ite ?_ ?_)
      | (with_reducible refine LeO.bind ?_ (fun _ => ?_))
      | exact ih0 _ _ _ _ _
      | exact ih1 _ _ _ _ _
      | exact ih2 _ _ _ _ _ _
      | exact ih3 _ _ _ _ _ _
      | exact clause_Check.mono _ _ _
      | exact clause_Make.mono _ _ _
      | exact clause_True.mono _ _ _
      | exact spiritlevellaw13_alive.mono _
      | exact spiritlevelref13_Holds.mono _ _ _
      | exact spiritlevelref13_Same.mono _ _ _
      | exact spiritlevelref13_Values.mono _ _ _
      | exact LeO.none _
      | refine LeO.ite ?_ ?_
      | refine LeO.bind ?_ (fun _ => ?_)
    · intro y0 y1 y2 y3 y4
      unfold spiritlevellaw13_ClauseMakes.l0
      repeat' first
      | (with_reducible exact ih0 _ _ _ _ _)
      | (with_reducible exact ih1 _ _ _ _ _)
      | (with_reducible exact ih2 _ _ _ _ _ _)
      | (with_reducible exact ih3 _ _ _ _ _ _)
      | (with_reducible exact clause_Check.mono _ _ _)
      | (with_reducible exact clause_Make.mono _ _ _)
      | (with_reducible exact clause_True.mono _ _ _)
      | (with_reducible exact spiritlevellaw13_alive.mono _)
      | (with_reducible exact spiritlevelref13_Holds.mono _ _ _)
      | (with_reducible exact spiritlevelref13_Same.mono _ _ _)
      | (with_reducible exact spiritlevelref13_Values.mono _ _ _)
      | (with_reducible exact LeO.refl _)
      | (with_reducible exact LeO.none _)
      | (with_reducible refine LeO.ite ?_ ?_)
      | (with_reducible refine LeO.bind ?_ (fun _ => ?_))
      | exact ih0 _ _ _ _ _
      | exact ih1 _ _ _ _ _
      | exact ih2 _ _ _ _ _ _
      | exact ih3 _ _ _ _ _ _
      | exact clause_Check.mono _ _ _
      | exact clause_Make.mono _ _ _
      | exact clause_True.mono _ _ _
      | exact spiritlevellaw13_alive.mono _
      | exact spiritlevelref13_Holds.mono _ _ _
      | exact spiritlevelref13_Same.mono _ _ _
      | exact spiritlevelref13_Values.mono _ _ _
      | exact LeO.none _
      | refine LeO.ite ?_ ?_
      | refine LeO.bind ?_ (fun _ => ?_)
    · intro y0 y1 y2 y3 y4 y5
      unfold spiritlevellaw13_ClauseMakes.j2
      repeat' first
      | (with_reducible exact ih0 _ _ _ _ _)
      | (with_reducible exact ih1 _ _ _ _ _)
      | (with_reducible exact ih2 _ _ _ _ _ _)
      | (with_reducible exact ih3 _ _ _ _ _ _)
      | (with_reducible exact clause_Check.mono _ _ _)
      | (with_reducible exact clause_Make.mono _ _ _)
      | (with_reducible exact clause_True.mono _ _ _)
      | (with_reducible exact spiritlevellaw13_alive.mono _)
      | (with_reducible exact spiritlevelref13_Holds.mono _ _ _)
      | (with_reducible exact spiritlevelref13_Same.mono _ _ _)
      | (with_reducible exact spiritlevelref13_Values.mono _ _ _)
      | (with_reducible exact LeO.refl _)
      | (with_reducible exact LeO.none _)
      | (with_reducible refine LeO.ite ?_ ?_)
      | (with_reducible refine LeO.bind ?_ (fun _ => ?_))
      | exact ih0 _ _ _ _ _
      | exact ih1 _ _ _ _ _
      | exact ih2 _ _ _ _ _ _
      | exact ih3 _ _ _ _ _ _
      | exact clause_Check.mono _ _ _
      | exact clause_Make.mono _ _ _
      | exact clause_True.mono _ _ _
      | exact spiritlevellaw13_alive.mono _
      | exact spiritlevelref13_Holds.mono _ _ _
      | exact spiritlevelref13_Same.mono _ _ _
      | exact spiritlevelref13_Values.mono _ _ _
      | exact LeO.none _
      | refine LeO.ite ?_ ?_
      | refine LeO.bind ?_ (fun _ => ?_)
    · intro y0 y1 y2 y3 y4 y5
      unfold spiritlevellaw13_ClauseMakes.l1
      repeat' first
      | (with_reducible exact ih0 _ _ _ _ _)
      | (with_reducible exact ih1 _ _ _ _ _)
      | (with_reducible exact ih2 _ _ _ _ _ _)
      | (with_reducible exact ih3 _ _ _ _ _ _)
      | (with_reducible exact clause_Check.mono _ _ _)
      | (with_reducible exact clause_Make.mono _ _ _)
      | (with_reducible exact clause_True.mono _ _ _)
      | (with_reducible exact spiritlevellaw13_alive.mono _)
      | (with_reducible exact spiritlevelref13_Holds.mono _ _ _)
      | (with_reducible exact spiritlevelref13_Same.mono _ _ _)
      | (with_reducible exact spiritlevelref13_Values.mono _ _ _)
      | (with_reducible exact LeO.refl _)
      | (with_reducible exact LeO.none _)
      | (with_reducible refine LeO.ite ?_ ?_)
      | (with_reducible refine LeO.bind ?_ (fun _ => ?_))
      | exact ih0 _ _ _ _ _
      | exact ih1 _ _ _ _ _
      | exact ih2 _ _ _ _ _ _
      | exact ih3 _ _ _ _ _ _
      | exact clause_Check.mono _ _ _
      | exact clause_Make.mono _ _ _
      | exact clause_True.mono _ _ _
      | exact spiritlevellaw13_alive.mono _
      | exact spiritlevelref13_Holds.mono _ _ _
      | exact spiritlevelref13_Same.mono _ _ _
      | exact spiritlevelref13_Values.mono _ _ _
      | exact LeO.none _
      | refine LeO.ite ?_ ?_
      | refine LeO.bind ?_ (fun _ => ?_)
theorem spiritlevellaw13_ClauseMakes.mono : ∀ a0 a1 a2 k, LeO (spiritlevellaw13_ClauseMakes.f k a0 a1 a2) (spiritlevellaw13_ClauseMakes.f (k + 1) a0 a1 a2) := by
  intro a0 a1 a2 k
  obtain ⟨ih0, ih1, ih2, ih3⟩ := spiritlevellaw13_ClauseMakes.mono_l k
  unfold spiritlevellaw13_ClauseMakes.f
  repeat' first
      | (with_reducible exact ih0 _ _ _ _ _)
      | (with_reducible exact ih1 _ _ _ _ _)
      | (with_reducible exact ih2 _ _ _ _ _ _)
      | (with_reducible exact ih3 _ _ _ _ _ _)
      | (with_reducible exact clause_Check.mono _ _ _)
      | (with_reducible exact clause_Make.mono _ _ _)
      | (with_reducible exact clause_True.mono _ _ _)
      | (with_reducible exact spiritlevellaw13_alive.mono _)
      | (with_reducible exact spiritlevelref13_Holds.mono _ _ _)
      | (with_reducible exact spiritlevelref13_Same.mono _ _ _)
      | (with_reducible exact spiritlevelref13_Values.mono _ _ _)
      | (with_reducible exact LeO.refl _)
      | (with_reducible exact LeO.none _)
      | (with_reducible refine LeO.ite ?_ ?_)
      | (with_reducible refine LeO.bind ?_ (fun _ => ?_))
      | exact ih0 _ _ _ _ _
      | exact ih1 _ _ _ _ _
      | exact ih2 _ _ _ _ _ _
      | exact ih3 _ _ _ _ _ _
      | exact clause_Check.mono _ _ _
      | exact clause_Make.mono _ _ _
      | exact clause_True.mono _ _ _
      | exact spiritlevellaw13_alive.mono _
      | exact spiritlevelref13_Holds.mono _ _ _
      | exact spiritlevelref13_Same.mono _ _ _
      | exact spiritlevelref13_Values.mono _ _ _
      | exact LeO.none _
      | refine LeO.ite ?_ ?_
      | refine LeO.bind ?_ (fun _ => ?_)
def spiritlevellaw13_ClauseMakes.T10 : Bool × List (List Nat × List Nat) := (true, [([], []), ([], []), ([], []), ([], []), ([2, 3], [2, 3]), ([1, 4], [1, 4]), ([], []), ([], []), ([6, 7], [6, 7]), ([5, 8, 5], [5, 8]), ([], []), ([], []), ([10, 11], [10, 11]), ([9, 12, 9], [9, 12]), ([0, 13, 13], [0, 13]), ([14], [14]), ([15], [15]), ([15], [15]), ([15], [15]), ([16, 14, 0, 1, 2, 3, 4, 5, 6, 7, 8, 9, 10, 11, 12, 13, 14, 15, 16], [16]), ([17, 19, 0, 1, 2, 3, 4, 5, 6, 7, 8, 9, 10, 11, 12, 13, 14, 15, 16, 17, 19], [17]), ([18, 20, 0, 1, 2, 3, 4, 5, 6, 7, 8, 9, 10, 11, 12, 13, 14, 15, 16, 17, 18, 19, 20], [18])])
def spiritlevellaw13_ClauseMakes.B10 : List Nat := [0, 0, 0, 0, 12, 30, 0, 0, 192, 510, 0, 0, 3072, 8190, 16383, 32767, 65535, 65535, 65535, 131071, 786431, 2097151]
theorem spiritlevellaw13_ClauseMakes.tab10 : rtab .any (opsOf Try.f5 10) = spiritlevellaw13_ClauseMakes.T10 := by kernel_rfl
theorem spiritlevellaw13_ClauseMakes.bits10 : waitsOk spiritlevellaw13_ClauseMakes.T10.2 spiritlevellaw13_ClauseMakes.B10 = true := by kernel_rfl
set_option maxHeartbeats 8000000 in
set_option maxRecDepth 100000 in
theorem spiritlevellaw13_ClauseMakes.calls (k : Nat) (a0 : Int) (A1 : Option Addr) (c1 : Nat) (l1 : List Int) (a2 : Int) (r : Bool) (w : World) (hr1 : Kd.C (Kd.int .i64) w A1 l1.length l1) (hc1 : l1.length ≤ c1) (ht_ : r = true) (h : spiritlevellaw13_ClauseMakes.f k a0 l1 a2 = some r) :
    Calls Try.prog 5 #[.int .i64 a0, .slice A1 l1.length c1, .int .i64 a2] w fun e w' => e = .returned (.bool r) ∧ Below w.heap.size w w' := by
  have HTR_ := Aside0.mk ht_
  clear ht_
  have HR1 := Aside0.mk hr1
  have HC1 := Aside0.mk hc1
  clear hr1 hc1
  have HB := Aside0.mk (Below.refl w.heap.size w)
  have H : ((spiritlevellaw13_alive.f k).bind fun t179 => (if a0 < 0 then (spiritlevellaw13_ClauseMakes.j0 k a0 l1 a2 t179 true) else (if a0 > 8 then (spiritlevellaw13_ClauseMakes.j0 k a0 l1 a2 t179 true) else (if (l1.length : Int) > 30 then (spiritlevellaw13_ClauseMakes.j0 k a0 l1 a2 t179 true) else (if a2 < 0 then (spiritlevellaw13_ClauseMakes.j0 k a0 l1 a2 t179 true) else (if a2 > (l1.length : Int) then (spiritlevellaw13_ClauseMakes.j0 k a0 l1 a2 t179 true) else (spiritlevellaw13_ClauseMakes.j0 k a0 l1 a2 t179 (!t179)))))))) = some r := h
  clear h
  replace H := Option.bind_eq_some_iff.mp H
  obtain ⟨t179, A40, H⟩ := H
  replace H : (if a0 < 0 then (spiritlevellaw13_ClauseMakes.j0 k a0 l1 a2 t179 true) else (if a0 > 8 then (spiritlevellaw13_ClauseMakes.j0 k a0 l1 a2 t179 true) else (if (l1.length : Int) > 30 then (spiritlevellaw13_ClauseMakes.j0 k a0 l1 a2 t179 true) else (if a2 < 0 then (spiritlevellaw13_ClauseMakes.j0 k a0 l1 a2 t179 true) else (if a2 > (l1.length : Int) then (spiritlevellaw13_ClauseMakes.j0 k a0 l1 a2 t179 true) else (spiritlevellaw13_ClauseMakes.j0 k a0 l1 a2 t179 (!t179))))))) = some r := H
  have A4 := Aside0.mk A40
  clear A40
  have HC5 := Aside0.mk H
  clear H
  go_enter Try.func5, Try.ntmps5
  go_upto_region 2 with (first | ((with_reducible refine gate_callee (f := 17) rfl ?_); refine goesL_ (some 22) rfl rfl Try.func17 (by kernel_rfl) rfl #[] rfl (by (try simp only [List.map_toArray, List.map_cons, List.map_nil]); first | done | rfl | (simp only [List.length_drop, List.length_take]; rfl)) ?_; (with_reducible refine (spiritlevellaw13_alive.calls k  t179 _ A4.out).mono ?_); rintro e w6 ⟨rfl, hb⟩; refine ⟨_, rfl, ?_⟩; have n0_ := Aside0.mk (below_step (by repeat (first | (with_reducible first | exact HB.out | apply below_alloc | apply pw_below_drewN | apply below_drew1) | exact HB.out)) hb); clear HB; have HB := n0_; clear n0_; (try clear hb); (try clear hb2); (try clear hk); (try clear hi)))
  (try simp only [Act.put, List.setIfInBounds_toArray, List.set_cons_zero, List.set_cons_succ])
  go_cut [47] (fun v47 wc => ∃ (kq : Nat) (x47_4 : Bool), v47 = .bool x47_4 ∧ Aside0 (spiritlevellaw13_ClauseMakes.j0 kq a0 l1 a2 t179 x47_4 = some r) ∧ Aside0 (kq ≤ k) ∧ Aside0 (Below w.heap.size w wc))
  case first =>
    have H := HC5.out
    clear HC5
    by_cases c7 : a0 < 0
    · rw [if_pos c7] at H
      have c7b0 : decide (a0 < 0) = true := decide_eq_true c7
      clear c7
      (first | rw [c7b0] | (simp only [i64_w, i32_w]; rw [c7b0]) | skip)
      have H' := Aside0.mk H
      clear H
      go_wp2
      go_meet
      case rel => exact ⟨_, (true), (by first | rfl | (simp; done) | (simp [*]; done)), H', ⟨by first | omega | exact Nat.le_refl _⟩, ⟨by repeat (first | (with_reducible first | exact HB.out | apply below_alloc | apply pw_below_drewN | apply below_drew1) | exact HB.out)⟩⟩
    · rw [if_neg c7] at H
      have c7b0 : decide (a0 < 0) = false := decide_eq_false c7
      clear c7
      (first | rw [c7b0] | (simp only [i64_w, i32_w]; rw [c7b0]) | skip)
      by_cases c8 : a0 > 8
      · rw [if_pos c8] at H
        have c8b0 : decide (8 < a0) = true := decide_eq_true c8
        clear c8
        have H' := Aside0.mk H
        clear H
        go_wp2
        go_meet
        case rel => exact ⟨_, (true), (by first | rfl | (simp; done) | (simp [*]; done)), H', ⟨by first | omega | exact Nat.le_refl _⟩, ⟨by repeat (first | (with_reducible first | exact HB.out | apply below_alloc | apply pw_below_drewN | apply below_drew1) | exact HB.out)⟩⟩
      · rw [if_neg c8] at H
        have c8b0 : decide (8 < a0) = false := decide_eq_false c8
        clear c8
        by_cases c9 : (l1.length : Int) > 30
        · rw [if_pos c9] at H
          have c9b0 : decide (30 < (l1.length : Int)) = true := decide_eq_true c9
          have c9b1 : decide (30 < l1.length) = true := decide_eq_true (by omega)
          clear c9
          have H' := Aside0.mk H
          clear H
          go_wp2
          go_meet
          case rel => exact ⟨_, (true), (by first | rfl | (simp; done) | (simp [*]; done)), H', ⟨by first | omega | exact Nat.le_refl _⟩, ⟨by repeat (first | (with_reducible first | exact HB.out | apply below_alloc | apply pw_below_drewN | apply below_drew1) | exact HB.out)⟩⟩
        · rw [if_neg c9] at H
          have c9b0 : decide (30 < (l1.length : Int)) = false := decide_eq_false c9
          have c9b1 : decide (30 < l1.length) = false := decide_eq_false (by omega)
          clear c9
          by_cases c10 : a2 < 0
          · rw [if_pos c10] at H
            have c10b0 : decide (a2 < 0) = true := decide_eq_true c10
            clear c10
            have H' := Aside0.mk H
            clear H
            go_wp2
            go_meet
            case rel => exact ⟨_, (true), (by first | rfl | (simp; done) | (simp [*]; done)), H', ⟨by first | omega | exact Nat.le_refl _⟩, ⟨by repeat (first | (with_reducible first | exact HB.out | apply below_alloc | apply pw_below_drewN | apply below_drew1) | exact HB.out)⟩⟩
          · rw [if_neg c10] at H
            have c10b0 : decide (a2 < 0) = false := decide_eq_false c10
            clear c10
            by_cases c11 : a2 > (l1.length : Int)
            · rw [if_pos c11] at H
              have c11b0 : decide ((l1.length : Int) < a2) = true := decide_eq_true c11
              clear c11
              have H' := Aside0.mk H
              clear H
              go_wp2
              go_meet
              case rel => exact ⟨_, (true), (by first | rfl | (simp; done) | (simp [*]; done)), H', ⟨by first | omega | exact Nat.le_refl _⟩, ⟨by repeat (first | (with_reducible first | exact HB.out | apply below_alloc | apply pw_below_drewN | apply below_drew1) | exact HB.out)⟩⟩
            · rw [if_neg c11] at H
              have c11b0 : decide ((l1.length : Int) < a2) = false := decide_eq_false c11
              clear c11
              have H' := Aside0.mk H
              clear H
              go_wp2
              go_meet
              case rel => exact ⟨_, (!t179), (by first | rfl | (simp; done) | (simp [*]; done)), H', ⟨by first | omega | exact Nat.le_refl _⟩, ⟨by repeat (first | (with_reducible first | exact HB.out | apply below_alloc | apply pw_below_drewN | apply below_drew1) | exact HB.out)⟩⟩
  case rest =>
    clear HC5
    try clear c1
    try clear p2
    try clear c5
    try clear c7
    try clear c7b0
    try clear c8
    try clear c8b0
    try clear c9
    try clear c9b0
    try clear c9b1
    try clear c10
    try clear c10b0
    try clear c11
    try clear c11b0
    obtain ⟨kq, x47_4, rfl, HA, HJ4, HB⟩ := hcut
    cases kq with
    | zero => exact absurd HA.out (by simp [spiritlevellaw13_ClauseMakes.j0])
    | succ kj4 =>
      have H := HA.out
      clear HA
      simp only [spiritlevellaw13_ClauseMakes.j0] at H
      by_cases c12 : x47_4 = true
      · subst c12
        have H1 : (some t179) = some r := by rw [if_pos rfl] at H; exact H
        clear H
        have H := H1
        clear H1
        obtain rfl := Option.some.inj H
        go_wp2
        go_ret
        exact ⟨by first | rfl | (simp [errW_none, errW_some] <;> rfl) | (simp [*, errW_none, errW_some] <;> rfl), by repeat (first | (with_reducible first | exact HB.out | apply below_alloc | apply pw_below_drewN | apply below_drew1) | exact HB.out)⟩
      · replace c12 := Bool.eq_false_iff.mpr c12
        subst c12
        have H1 : (spiritlevellaw13_ClauseMakes.l0 kj4 a0 l1 a2 t179 0) = some r := by rw [if_neg (show ¬ (false = true) by decide)] at H; exact H
        clear H
        have H := H1
        clear H1
        have H' := Aside0.mk H
        clear H
        go_wp2
        go_loopg [8] kj4 (fun kq v8 w' => ∃ (x8_2 : Int), v8 = .int .i64 x8_2 ∧ Aside0 (spiritlevellaw13_ClauseMakes.l0 kq a0 l1 a2 t179 x8_2 = some r) ∧ Aside0 (kq ≤ kj4) ∧ Aside0 (Below w.heap.size w w'))
        case atStart => exact ⟨(0), (by first | rfl | (simp; done) | (simp [*]; done)), H', ⟨Nat.le_refl _⟩, ⟨by repeat (first | (with_reducible first | exact HB.out | apply below_alloc | apply pw_below_drewN | apply below_drew1) | exact HB.out)⟩⟩
        case round =>
          clear H'
          try clear c1
          try clear p2
          try clear c5
          try clear c7
          try clear c7b0
          try clear c8
          try clear c8b0
          try clear c9
          try clear c9b0
          try clear c9b1
          try clear c10
          try clear c10b0
          try clear c11
          try clear c11b0
          try clear c12
          try clear p2
          obtain ⟨x8_2, rfl, HA, HK2, HB⟩ := hrel
          cases gk with
          | zero => exact absurd HA.out (by simp [spiritlevellaw13_ClauseMakes.l0])
          | succ k2 =>
            have H := HA.out
            clear HA
            simp only [spiritlevellaw13_ClauseMakes.l0] at H
            by_cases c13 : x8_2 < (l1.length : Int)
            · rw [if_pos c13] at H
              have c13b0 : decide (x8_2 < (l1.length : Int)) = true := decide_eq_true c13
              clear c13
              by_cases c14 : 0 ≤ x8_2
              · rw [if_pos c14] at H
                have c14b0 : decide (0 ≤ x8_2) = true := decide_eq_true c14
                clear c14
                replace H := Option.bind_eq_some_iff.mp H
                obtain ⟨t181, A150, H⟩ := H
                replace H : (if t181 = true then (spiritlevellaw13_ClauseMakes.l0 k2 a0 l1 a2 t179 (wrap64 (x8_2 + 1))) else (some t179)) = some r := H
                have A15 := Aside0.mk A150
                clear A150
                by_cases c16 : t181 = true
                · subst c16
                  have H1 : (spiritlevellaw13_ClauseMakes.l0 k2 a0 l1 a2 t179 (wrap64 (x8_2 + 1))) = some r := by rw [if_pos rfl] at H; exact H
                  clear H
                  have H := H1
                  clear H1
                  have H' := Aside0.mk H
                  clear H
                  have p180 : 0 ≤ (x8_2 : Int) := of_decide_eq_true (by first | (with_reducible assumption) | assumption)
                  have q180 : x8_2 < (l1.length : Int) := of_decide_eq_true (by first | (with_reducible assumption) | assumption)
                  obtain ⟨ad180, e180, hx180_0⟩ := Kd.at_int HR1.out x8_2 p180 q180
                  cases e180
                  replace hx180_0 := (HB.out.cell (World.block_lt_of_cell? w _ hx180_0)).trans hx180_0
                  replace p180 := eq_true p180
                  replace q180 := eq_true q180
                  go_wp2_with (first | ((with_reducible refine gate_callee (f := 21) rfl ?_); refine goesL_ (some 60) rfl rfl Try.func21 (by kernel_rfl) rfl #[.int .i64 a0, .int .i64 (rd l1 x8_2)] rfl (by (try simp only [List.map_toArray, List.map_cons, List.map_nil]); first | done | rfl | (simp only [List.length_drop, List.length_take]; rfl)) ?_; (with_reducible refine (spiritlevelref13_Lit.calls a0 (rd l1 x8_2) true _ A15.out).mono ?_); rintro e w' ⟨rfl, ⟨nd, rfl⟩⟩; refine ⟨_, rfl, ?_⟩))
                  go_roundg k2
                  case measure => have := HJ4.out; have := HK2.out; omega
                  case rel => exact ⟨(wrap64 (x8_2 + 1)), (by first | rfl | (simp; done) | (simp [*]; done)), H', ⟨by have := HJ4.out; have := HK2.out; omega⟩, ⟨by repeat (first | (with_reducible first | exact HB.out | apply below_alloc | apply pw_below_drewN | apply below_drew1) | exact HB.out)⟩⟩
                · replace c16 := Bool.eq_false_iff.mpr c16
                  subst c16
                  have H1 : (some t179) = some r := by rw [if_neg (show ¬ (false = true) by decide)] at H; exact H
                  clear H
                  have H := H1
                  clear H1
                  obtain rfl := Option.some.inj H
                  have p180 : 0 ≤ (x8_2 : Int) := of_decide_eq_true (by first | (with_reducible assumption) | assumption)
                  have q180 : x8_2 < (l1.length : Int) := of_decide_eq_true (by first | (with_reducible assumption) | assumption)
                  obtain ⟨ad180, e180, hx180_0⟩ := Kd.at_int HR1.out x8_2 p180 q180
                  cases e180
                  replace hx180_0 := (HB.out.cell (World.block_lt_of_cell? w _ hx180_0)).trans hx180_0
                  replace p180 := eq_true p180
                  replace q180 := eq_true q180
                  go_wp2_with (first | ((with_reducible refine gate_callee (f := 21) rfl ?_); refine goesL_ (some 60) rfl rfl Try.func21 (by kernel_rfl) rfl #[.int .i64 a0, .int .i64 (rd l1 x8_2)] rfl (by (try simp only [List.map_toArray, List.map_cons, List.map_nil]); first | done | rfl | (simp only [List.length_drop, List.length_take]; rfl)) ?_; (with_reducible refine (spiritlevelref13_Lit.calls a0 (rd l1 x8_2) false _ A15.out).mono ?_); rintro e w' ⟨rfl, ⟨nd, rfl⟩⟩; refine ⟨_, rfl, ?_⟩))
                  go_ret
                  exact ⟨by first | rfl | (simp [errW_none, errW_some] <;> rfl) | (simp [*, errW_none, errW_some] <;> rfl), by repeat (first | (with_reducible first | exact HB.out | apply below_alloc | apply pw_below_drewN | apply below_drew1) | exact HB.out)⟩
              · rw [if_neg c14] at H
                exact absurd H (by simp)
            · rw [if_neg c13] at H
              have c13b0 : decide (x8_2 < (l1.length : Int)) = false := decide_eq_false c13
              clear c13
              replace H := Option.bind_eq_some_iff.mp H
              obtain ⟨⟨t182, t183, t184⟩, A170, H⟩ := H
              replace H : ((some (([] : List Int) : List Int)).bind fun y187 => (if 0 ≤ a2 then (if a2 ≤ (l1.length : Int) then (if y187.length + (l1.drop (a2 : Int).toNat).length < 17592186044416 then ((some (y187 ++ (l1.drop (a2 : Int).toNat) : List Int)).bind fun y191 => (if y191.length + (l1.take (a2 : Int).toNat).length < 17592186044416 then ((some (y191 ++ (l1.take (a2 : Int).toNat) : List Int)).bind fun y195 => (if y195.length + (l1.take (a2 : Int).toNat).length < 17592186044416 then ((clause_Make.f k2 a0 (y195 ++ (l1.take (a2 : Int).toNat))).bind fun bt202 => (if t184 = 0 then (if bt202.2.2 = 0 then (if (t183 != bt202.2.1) = true then (spiritlevellaw13_ClauseMakes.j2 k2 a0 l1 t179 t182 t183 true) else ((spiritlevelref13_Same.f k2 t182 bt202.1).bind fun t207 => (spiritlevellaw13_ClauseMakes.j2 k2 a0 l1 t179 t182 t183 (!t207)))) else (spiritlevellaw13_ClauseMakes.j2 k2 a0 l1 t179 t182 t183 true)) else (spiritlevellaw13_ClauseMakes.j2 k2 a0 l1 t179 t182 t183 true))) else (none))) else (none))) else (none)) else (none)) else (none))) = some r := H
              have A17 := Aside0.mk A170
              clear A170
              obtain ⟨y187, hy187⟩ : ∃ y_ : List Int, y_ = (([] : List Int)) := ⟨_, rfl⟩
              replace H : (if 0 ≤ a2 then (if a2 ≤ (l1.length : Int) then (if y187.length + (l1.drop (a2 : Int).toNat).length < 17592186044416 then ((some (y187 ++ (l1.drop (a2 : Int).toNat) : List Int)).bind fun y191 => (if y191.length + (l1.take (a2 : Int).toNat).length < 17592186044416 then ((some (y191 ++ (l1.take (a2 : Int).toNat) : List Int)).bind fun y195 => (if y195.length + (l1.take (a2 : Int).toNat).length < 17592186044416 then ((clause_Make.f k2 a0 (y195 ++ (l1.take (a2 : Int).toNat))).bind fun bt202 => (if t184 = 0 then (if bt202.2.2 = 0 then (if (t183 != bt202.2.1) = true then (spiritlevellaw13_ClauseMakes.j2 k2 a0 l1 t179 t182 t183 true) else ((spiritlevelref13_Same.f k2 t182 bt202.1).bind fun t207 => (spiritlevellaw13_ClauseMakes.j2 k2 a0 l1 t179 t182 t183 (!t207)))) else (spiritlevellaw13_ClauseMakes.j2 k2 a0 l1 t179 t182 t183 true)) else (spiritlevellaw13_ClauseMakes.j2 k2 a0 l1 t179 t182 t183 true))) else (none))) else (none))) else (none)) else (none)) else (none)) = some r := by first | (rw [hy187]; with_reducible exact H) | (have H2_ := (Option.bind_some _ _).symm.trans H; rw [hy187]; with_reducible exact H2_) | (have H2_ := (Option.bind_some _ _).symm.trans H; with_reducible exact H2_) | with_reducible exact H | (rw [hy187]; exact H) | exact H
              have Ny187 := Aside0.mk hy187
              clear hy187
              by_cases c18 : 0 ≤ a2
              · rw [if_pos c18] at H
                have c18b0 := eq_true c18
                have c18b1 : decide (0 ≤ a2) = true := decide_eq_true c18
                clear c18
                by_cases c19 : a2 ≤ (l1.length : Int)
                · rw [if_pos c19] at H
                  have c19b0 := eq_true c19
                  have c19b1 : decide (a2 ≤ (l1.length : Int)) = true := decide_eq_true c19
                  clear c19
                  by_cases c20 : y187.length + (l1.drop (a2 : Int).toNat).length < 17592186044416
                  · rw [if_pos c20] at H
                    have LMc20 := Aside0.mk c20
                    clear c20
                    obtain ⟨y191, hy191⟩ : ∃ y_ : List Int, y_ = (y187 ++ (l1.drop (a2 : Int).toNat)) := ⟨_, rfl⟩
                    replace H : (if y191.length + (l1.take (a2 : Int).toNat).length < 17592186044416 then ((some (y191 ++ (l1.take (a2 : Int).toNat) : List Int)).bind fun y195 => (if y195.length + (l1.take (a2 : Int).toNat).length < 17592186044416 then ((clause_Make.f k2 a0 (y195 ++ (l1.take (a2 : Int).toNat))).bind fun bt202 => (if t184 = 0 then (if bt202.2.2 = 0 then (if (t183 != bt202.2.1) = true then (spiritlevellaw13_ClauseMakes.j2 k2 a0 l1 t179 t182 t183 true) else ((spiritlevelref13_Same.f k2 t182 bt202.1).bind fun t207 => (spiritlevellaw13_ClauseMakes.j2 k2 a0 l1 t179 t182 t183 (!t207)))) else (spiritlevellaw13_ClauseMakes.j2 k2 a0 l1 t179 t182 t183 true)) else (spiritlevellaw13_ClauseMakes.j2 k2 a0 l1 t179 t182 t183 true))) else (none))) else (none)) = some r := by first | (rw [hy191]; with_reducible exact H) | (have H2_ := (Option.bind_some _ _).symm.trans H; rw [hy191]; with_reducible exact H2_) | (have H2_ := (Option.bind_some _ _).symm.trans H; with_reducible exact H2_) | with_reducible exact H | (rw [hy191]; exact H) | exact H
                    have Ny191 := Aside0.mk hy191
                    clear hy191
                    have c21b0 := eq_true (of_decide_eq_true (by first | (with_reducible assumption) | assumption) : 0 ≤ a2)
                    have c22b0 := eq_true (of_decide_eq_true (by first | (with_reducible assumption) | assumption) : a2 ≤ (l1.length : Int))
                    by_cases c23 : y191.length + (l1.take (a2 : Int).toNat).length < 17592186044416
                    · rw [if_pos c23] at H
                      have LMc23 := Aside0.mk c23
                      clear c23
                      obtain ⟨y195, hy195⟩ : ∃ y_ : List Int, y_ = (y191 ++ (l1.take (a2 : Int).toNat)) := ⟨_, rfl⟩
                      replace H : (if y195.length + (l1.take (a2 : Int).toNat).length < 17592186044416 then ((clause_Make.f k2 a0 (y195 ++ (l1.take (a2 : Int).toNat))).bind fun bt202 => (if t184 = 0 then (if bt202.2.2 = 0 then (if (t183 != bt202.2.1) = true then (spiritlevellaw13_ClauseMakes.j2 k2 a0 l1 t179 t182 t183 true) else ((spiritlevelref13_Same.f k2 t182 bt202.1).bind fun t207 => (spiritlevellaw13_ClauseMakes.j2 k2 a0 l1 t179 t182 t183 (!t207)))) else (spiritlevellaw13_ClauseMakes.j2 k2 a0 l1 t179 t182 t183 true)) else (spiritlevellaw13_ClauseMakes.j2 k2 a0 l1 t179 t182 t183 true))) else (none)) = some r := by first | (rw [hy195]; with_reducible exact H) | (have H2_ := (Option.bind_some _ _).symm.trans H; rw [hy195]; with_reducible exact H2_) | (have H2_ := (Option.bind_some _ _).symm.trans H; with_reducible exact H2_) | with_reducible exact H | (rw [hy195]; exact H) | exact H
                      have Ny195 := Aside0.mk hy195
                      clear hy195
                      have c24b0 := eq_true (of_decide_eq_true (by first | (with_reducible assumption) | assumption) : 0 ≤ a2)
                      have c25b0 := eq_true (of_decide_eq_true (by first | (with_reducible assumption) | assumption) : a2 ≤ (l1.length : Int))
                      by_cases c26 : y195.length + (l1.take (a2 : Int).toNat).length < 17592186044416
                      · rw [if_pos c26] at H
                        have LMc26 := Aside0.mk c26
                        clear c26
                        obtain ⟨y199, hy199⟩ : ∃ y_ : List Int, y_ = (y195 ++ (l1.take (a2 : Int).toNat)) := ⟨_, rfl⟩
                        replace H : ((clause_Make.f k2 a0 y199).bind fun bt202 => (if t184 = 0 then (if bt202.2.2 = 0 then (if (t183 != bt202.2.1) = true then (spiritlevellaw13_ClauseMakes.j2 k2 a0 l1 t179 t182 t183 true) else ((spiritlevelref13_Same.f k2 t182 bt202.1).bind fun t207 => (spiritlevellaw13_ClauseMakes.j2 k2 a0 l1 t179 t182 t183 (!t207)))) else (spiritlevellaw13_ClauseMakes.j2 k2 a0 l1 t179 t182 t183 true)) else (spiritlevellaw13_ClauseMakes.j2 k2 a0 l1 t179 t182 t183 true))) = some r := by first | (rw [hy199]; with_reducible exact H) | (have H2_ := (Option.bind_some _ _).symm.trans H; rw [hy199]; with_reducible exact H2_) | (have H2_ := (Option.bind_some _ _).symm.trans H; with_reducible exact H2_) | with_reducible exact H | (rw [hy199]; exact H) | exact H
                        have Ny199 := Aside0.mk hy199
                        clear hy199
                        replace H := Option.bind_eq_some_iff.mp H
                        obtain ⟨⟨t202, t203, t204⟩, A270, H⟩ := H
                        replace H : (if t184 = 0 then (if t204 = 0 then (if (t183 != t203) = true then (spiritlevellaw13_ClauseMakes.j2 k2 a0 l1 t179 t182 t183 true) else ((spiritlevelref13_Same.f k2 t182 t202).bind fun t207 => (spiritlevellaw13_ClauseMakes.j2 k2 a0 l1 t179 t182 t183 (!t207)))) else (spiritlevellaw13_ClauseMakes.j2 k2 a0 l1 t179 t182 t183 true)) else (spiritlevellaw13_ClauseMakes.j2 k2 a0 l1 t179 t182 t183 true)) = some r := H
                        have A27 := Aside0.mk A270
                        clear A270
                        have HC28 := Aside0.mk H
                        clear H
                        try go_wp2_with (first | ((with_reducible refine gate_callee (f := 10) rfl ?_); refine goesL_ (some 66) rfl rfl Try.func10 (by kernel_rfl) rfl #[.int .i64 a0, .slice A1 l1.length c1] rfl (by (try simp only [List.map_toArray, List.map_cons, List.map_nil]); first | done | rfl | (simp only [List.length_drop, List.length_take]; rfl)) ?_; (with_reducible refine (clause_Make.calls k2 a0 _ _ l1 t182 t183 t184 _ ?side1 ?side2 A17.out).mono ?_); (case side1 => repeat (first | exact (Kd.C_below HR1.out HB.out) | (with_reducible refine Kd.C_alloc ?_ _) | (with_reducible refine Kd.C_drewN ?_ _) | (with_reducible refine Kd.C_drew ?_))); (case side2 => exact HC1.out); rintro e w29 ⟨v185, rfl, ho0, hb⟩; refine ⟨_, rfl, ?_⟩; have n0_ := Aside0.mk (Kd.R_lower ho0 (below_size (by repeat (first | (with_reducible first | exact HB.out | apply below_alloc | apply pw_below_drewN | apply below_drew1) | exact HB.out)))); have n1_ := Aside0.mk (below_step (by repeat (first | (with_reducible first | exact HB.out | apply below_alloc | apply pw_below_drewN | apply below_drew1) | exact HB.out)) hb); clear HB; have HO186 := n0_; have HB := n1_; clear n0_ n1_; (try clear hb); (try clear hb2); (try clear hk); (try clear hi); (try clear ho0)))
                        have n0_ := Aside0.mk (Kd.R_drew HO186.out)
                        have n1_ := Aside0.mk (below_drew1 HB.out)
                        clear HO186
                        clear HB
                        have HO186 := n0_
                        have HB := n1_
                        clear n0_ n1_
                        obtain ⟨i031, hi031, _, hsz31, _⟩ := info_parts info3
                        obtain ⟨A31, hcut31, hA31, hC31⟩ := print_drop_of (P := Try.prog) (Value.int .i64) 0 22 3 .i64 Try.underlying22 hi031 hsz31 A1 c1 l1 a2 (of_decide_eq_true (by first | (with_reducible assumption) | assumption)) (of_decide_eq_true (by first | (with_reducible assumption) | assumption)) HC1.out
                        have HR190 := Aside0.mk (Kd.C_of_reads (h1 := fun _ => rfl) (hA31 _ (Kd.reads_of_C HR1.out)))
                        have HC190 := Aside0.mk hC31
                        clear hA31 hC31 hi031 hsz31
                        obtain ⟨i032, hi032, _, hsz32, _⟩ := info_parts info3
                        obtain ⟨hcut32, hA32, hC32⟩ := print_take_of (P := Try.prog) (Value.int .i64) 0 22 3 .i64 Try.underlying22 hi032 hsz32 A1 c1 l1 a2 (of_decide_eq_true (by first | (with_reducible assumption) | assumption)) (of_decide_eq_true (by first | (with_reducible assumption) | assumption)) HC1.out
                        have HR194 := Aside0.mk (Kd.C_of_reads (h1 := fun _ => rfl) (hA32 _ (Kd.reads_of_C HR1.out)))
                        have HC194 := Aside0.mk hC32
                        clear hA32 hC32 hi032 hsz32
                        obtain ⟨i033, hi033, _, hsz33, _⟩ := info_parts info3
                        obtain ⟨hcut33, hA33, hC33⟩ := print_take_of (P := Try.prog) (Value.int .i64) 0 22 3 .i64 Try.underlying22 hi033 hsz33 A1 c1 l1 a2 (of_decide_eq_true (by first | (with_reducible assumption) | assumption)) (of_decide_eq_true (by first | (with_reducible assumption) | assumption)) HC1.out
                        have HR198 := Aside0.mk (Kd.C_of_reads (h1 := fun _ => rfl) (hA33 _ (Kd.reads_of_C HR1.out)))
                        have HC198 := Aside0.mk hC33
                        clear hA33 hC33 hi033 hsz33
                        refine start_ (n := 22) (S := fun w' => True) (ds := []) #[false, false, false, false, false, false, false, false, false, false, false, false, false, false, false, false, false, false, false, false, false, false] (by kernel_rfl) rfl rfl trivial (fun hHeld => ?_); refine with_tabW spiritlevellaw13_ClauseMakes.tab10 spiritlevellaw13_ClauseMakes.bits10 (fun HT_ HW_ => ?_)
                        generalize w29.drew = w30 at HO186 HB HR190 HR194 HR198 hHeld ⊢
                        refine pure_ (i := 0) (N := some 71) (v := ?_) (a' := ?_) #[true, false, false, false, false, false, false, false, false, false, false, false, false, false, false, false, false, false, false, false, false, false] rfl rfl (any_of HT_.out (by kernel_rfl)) (fun _ _ _ h => h) (Or.inl ⟨by rfl, ?_⟩) ?_ ?_
                        rotate_left
                        · intro w'
                          go_simp
                          with_reducible rfl
                        rotate_left
                        · simp only [Act.put, List.setIfInBounds_toArray, List.set_cons_zero, List.set_cons_succ, i64_w, i32_w]
                          rfl
                        refine pure_ (i := 2) (N := some 73) (v := ?_) (a' := ?_) #[true, false, true, false, false, false, false, false, false, false, false, false, false, false, false, false, false, false, false, false, false, false] rfl rfl (any_of HT_.out (by kernel_rfl)) (fun _ _ _ h => h) (Or.inl ⟨by rfl, ?_⟩) ?_ ?_
                        rotate_left
                        · intro w'
                          go_simp
                          with_reducible rfl
                        rotate_left
                        · simp only [Act.put, List.setIfInBounds_toArray, List.set_cons_zero, List.set_cons_succ, i64_w, i32_w]
                          rfl
                        refine pure_ (i := 3) (N := some 74) (v := ?_) (a' := ?_) #[true, false, true, true, false, false, false, false, false, false, false, false, false, false, false, false, false, false, false, false, false, false] rfl rfl (any_of HT_.out (by kernel_rfl)) (fun _ _ _ h => h) (Or.inl ⟨by rfl, ?_⟩) ?_ ?_
                        rotate_left
                        · intro w'
                          go_simp
                          with_reducible rfl
                        rotate_left
                        · simp only [Act.put, List.setIfInBounds_toArray, List.set_cons_zero, List.set_cons_succ, i64_w, i32_w]
                          rfl
                        refine pure_ (i := 4) (N := some 75) (v := ?_) (a' := ?_) #[true, false, true, true, true, false, false, false, false, false, false, false, false, false, false, false, false, false, false, false, false, false] rfl rfl (any_of HT_.out (by kernel_rfl)) (fun _ _ _ h => h) (Or.inl ⟨by rfl, ?_⟩) ?_ ?_
                        rotate_left
                        · intro w'
                          go_simp
                          with_reducible rfl
                        rotate_left
                        · simp only [Act.put, List.setIfInBounds_toArray, List.set_cons_zero, List.set_cons_succ, i64_w, i32_w]
                          rfl
                        refine pure_ (i := 6) (N := some 77) (v := ?_) (a' := ?_) #[true, false, true, true, true, false, true, false, false, false, false, false, false, false, false, false, false, false, false, false, false, false] rfl rfl (any_of HT_.out (by kernel_rfl)) (fun _ _ _ h => h) (Or.inl ⟨by rfl, ?_⟩) ?_ ?_
                        rotate_left
                        · intro w'
                          go_simp
                          with_reducible rfl
                        rotate_left
                        · simp only [Act.put, List.setIfInBounds_toArray, List.set_cons_zero, List.set_cons_succ, i64_w, i32_w]
                          rfl
                        refine pure_ (i := 7) (N := some 78) (v := ?_) (a' := ?_) #[true, false, true, true, true, false, true, true, false, false, false, false, false, false, false, false, false, false, false, false, false, false] rfl rfl (any_of HT_.out (by kernel_rfl)) (fun _ _ _ h => h) (Or.inl ⟨by rfl, ?_⟩) ?_ ?_
                        rotate_left
                        · intro w'
                          go_simp
                          with_reducible rfl
                        rotate_left
                        · simp only [Act.put, List.setIfInBounds_toArray, List.set_cons_zero, List.set_cons_succ, i64_w, i32_w]
                          rfl
                        refine pure_ (i := 8) (N := some 79) (v := ?_) (a' := ?_) #[true, false, true, true, true, false, true, true, true, false, false, false, false, false, false, false, false, false, false, false, false, false] rfl rfl (any_of HT_.out (by kernel_rfl)) (fun _ _ _ h => h) (Or.inl ⟨by rfl, ?_⟩) ?_ ?_
                        rotate_left
                        · intro w'
                          go_simp
                          with_reducible rfl
                        rotate_left
                        · simp only [Act.put, List.setIfInBounds_toArray, List.set_cons_zero, List.set_cons_succ, i64_w, i32_w]
                          rfl
                        refine pure_ (i := 10) (N := some 81) (v := ?_) (a' := ?_) #[true, false, true, true, true, false, true, true, true, false, true, false, false, false, false, false, false, false, false, false, false, false] rfl rfl (any_of HT_.out (by kernel_rfl)) (fun _ _ _ h => h) (Or.inl ⟨by rfl, ?_⟩) ?_ ?_
                        rotate_left
                        · intro w'
                          go_simp
                          with_reducible rfl
                        rotate_left
                        · simp only [Act.put, List.setIfInBounds_toArray, List.set_cons_zero, List.set_cons_succ, i64_w, i32_w]
                          rfl
                        refine pure_ (i := 11) (N := some 82) (v := ?_) (a' := ?_) #[true, false, true, true, true, false, true, true, true, false, true, true, false, false, false, false, false, false, false, false, false, false] rfl rfl (any_of HT_.out (by kernel_rfl)) (fun _ _ _ h => h) (Or.inl ⟨by rfl, ?_⟩) ?_ ?_
                        rotate_left
                        · intro w'
                          go_simp
                          with_reducible rfl
                        rotate_left
                        · simp only [Act.put, List.setIfInBounds_toArray, List.set_cons_zero, List.set_cons_succ, i64_w, i32_w]
                          rfl
                        refine pure_ (i := 12) (N := some 83) (v := ?_) (a' := ?_) #[true, false, true, true, true, false, true, true, true, false, true, true, true, false, false, false, false, false, false, false, false, false] rfl rfl (any_of HT_.out (by kernel_rfl)) (fun _ _ _ h => h) (Or.inl ⟨by rfl, ?_⟩) ?_ ?_
                        rotate_left
                        · intro w'
                          go_simp
                          with_reducible rfl
                        rotate_left
                        · simp only [Act.put, List.setIfInBounds_toArray, List.set_cons_zero, List.set_cons_succ, i64_w, i32_w]
                          rfl
                        refine one_ (i := 1) (N := some 72) #[true, true, true, true, true, false, true, true, true, false, true, true, true, false, false, false, false, false, false, false, false, false] rfl rfl (one_of HT_.out (by kernel_rfl)) (by decide) (fun K hK => ?_)
                        refine Kd.R_lit_step (Kd.int .i64) _ 3 ?hg (N := 72) ?hd (xs := ([] : List Int)) (inner := []) (ok := fun _ => True) (okp := fun _ => True) ?hr ?hp (fun _ hk => hk) trivial (Below.refl _ _) (Nat.le_refl _) (by simp) ?_; (case hd => rfl); (case hg => rfl); (case hr => first | (go_simp; done) | (go_simp; rfl)); (case hp => exact (Reps.none _ _))
                        intro v188 w34 ho35 hb hg_ hnew_
                        clear hg_ hnew_
                        (first | rw [← Ny187.out] at ho35 | (simp only [Int.reduceToNat] at ho35; rw [← Ny187.out] at ho35))
                        have n0_ := Aside0.mk (Kd.R_elder' (by (with_reducible repeat (first | apply Kd.R_alloc | apply Kd.R_drewN | apply Kd.R_drew)); exact HO186.out) (Kd.R_base ho35) hb)
                        have n1_ := Aside0.mk (Kd.R_lower (Kd.R_new' ho35 (Kd.R_lt (by (with_reducible repeat (first | apply Kd.R_alloc | apply Kd.R_drewN | apply Kd.R_drew)); exact HO186.out))) (below_size (by repeat (first | (with_reducible first | exact HB.out | apply below_alloc | apply pw_below_drewN | apply below_drew1) | exact HB.out))))
                        have n2_ := Aside0.mk (below_step (by repeat (first | (with_reducible first | exact HB.out | apply below_alloc | apply pw_below_drewN | apply below_drew1) | exact HB.out)) hb)
                        clear HO186
                        clear HB
                        have HO186 := n0_
                        have HO189 := n1_
                        have HB := n2_
                        clear n0_ n1_ n2_
                        clear hb ho35
                        refine hK.out _ _ trivial (fun hHeld => ?_)
                        clear hK K
                        refine norm_ (a' := ?_) ?_ ?_
                        rotate_left
                        · show Act.put _ (some 72) _ = _
                          simp only [Act.put, List.setIfInBounds_toArray, List.set_cons_zero, List.set_cons_succ, i64_w, i32_w]
                          rfl
                        refine one_ (i := 5) (N := some 76) #[true, true, true, true, true, true, true, true, true, false, true, true, true, false, false, false, false, false, false, false, false, false] rfl rfl (one_of HT_.out (by kernel_rfl)) (by decide) (fun K hK => ?_)
                        refine Kd.R_append_rows_step (Kd.int .i64) (w0 := w) w.heap.size (by rfl) (.tmp 72) (.tmp 75) 22 3 (.int .i64 0) 8 rfl Try.underlying22 info3 rfl (by decide) (by omega) v188 y187 (l1.drop (a2 : Int).toNat) _ _ _ (fun k_ => some k_ ≠ (v185 : Value).ownBlock) (fun _ => False) rfl rfl ?aO ?aR (fun _ _ h => h) (fun _ h => h.elim) ?aF ?aB ?aS ?aL ?_
                        (case aR => first | (rw [← show (l1.drop (a2 : Int).toNat).length = (l1.length - a2.toNat) from List.length_drop]; repeat (first | exact (Kd.C_below HR190.out HB.out) | (with_reducible refine Kd.C_alloc ?_ _) | (with_reducible refine Kd.C_drewN ?_ _) | (with_reducible refine Kd.C_drew ?_))) | (repeat (first | exact (Kd.C_below HR190.out HB.out) | (with_reducible refine Kd.C_alloc ?_ _) | (with_reducible refine Kd.C_drewN ?_ _) | (with_reducible refine Kd.C_drew ?_))))
                        (case aB => exact (by repeat (first | (with_reducible first | exact HB.out | apply below_alloc | apply pw_below_drewN | apply below_drew1) | exact HB.out)))
                        (case aF => exact (fun k_ hk => Kd.fresh' (Kd.R_lt (by (with_reducible repeat (first | apply Kd.R_alloc | apply Kd.R_drewN | apply Kd.R_drew)); exact HO186.out)) k_ hk))
                        (case aO => exact (by (with_reducible repeat (first | apply Kd.R_alloc | apply Kd.R_drewN | apply Kd.R_drew)); exact Kd.R_mono HO189.out (fun _ hk => hk.2)))
                        (case aS => exact (below_size (by repeat (first | (with_reducible first | exact HB.out | apply below_alloc | apply pw_below_drewN | apply below_drew1) | exact HB.out))))
                        (case aL => have := LMc20.out; have hlx_ := (show (l1.drop (a2 : Int).toNat).length = (l1.length - a2.toNat) from List.length_drop); omega)
                        intro v192 w36 ho hb hg hat
                        rw [← Ny191.out] at ho
                        have n0_ := Aside0.mk (Kd.R_after (ok := (fun _ => True)) (by (with_reducible repeat (first | apply Kd.R_alloc | apply Kd.R_drewN | apply Kd.R_drew)); exact HO186.out) hg hat)
                        have n1_ := Aside0.mk (hb)
                        have n2_ := Aside0.mk (ho)
                        clear HO186
                        clear HB
                        clear HO189
                        have HO186 := n0_
                        have HB := n1_
                        have HO193 := n2_
                        clear n0_ n1_ n2_
                        clear ho hb hg hat
                        refine hK.out _ _ trivial (fun hHeld => ?_)
                        clear hK K
                        refine norm_ (a' := ?_) ?_ ?_
                        rotate_left
                        · show Act.put _ (some 76) _ = _
                          simp only [Act.put, List.setIfInBounds_toArray, List.set_cons_zero, List.set_cons_succ, i64_w, i32_w]
                          rfl
                        refine one_ (i := 9) (N := some 80) #[true, true, true, true, true, true, true, true, true, true, true, true, true, false, false, false, false, false, false, false, false, false] rfl rfl (one_of HT_.out (by kernel_rfl)) (by decide) (fun K hK => ?_)
                        refine Kd.R_append_rows_step (Kd.int .i64) (w0 := w) w.heap.size (by rfl) (.tmp 76) (.tmp 79) 22 3 (.int .i64 0) 8 rfl Try.underlying22 info3 rfl (by decide) (by omega) v192 y191 (l1.take (a2 : Int).toNat) _ _ _ (fun k_ => some k_ ≠ (v185 : Value).ownBlock) (fun _ => False) rfl rfl ?aO ?aR (fun _ _ h => h) (fun _ h => h.elim) ?aF ?aB ?aS ?aL ?_
                        (case aR => have hc_ := Kd.C_below HR194.out HB.out; rw [show (l1.take (a2 : Int).toNat).length = a2.toNat from (by rw [List.length_take]; have h_ : (a2 : Int) ≤ (l1.length : Int) := of_decide_eq_true (by first | (with_reducible assumption) | assumption); omega)] at hc_; exact hc_)
                        (case aB => exact (by repeat (first | (with_reducible first | exact HB.out | apply below_alloc | apply pw_below_drewN | apply below_drew1) | exact HB.out)))
                        (case aF => exact (fun k_ hk => Kd.fresh' (Kd.R_lt (by (with_reducible repeat (first | apply Kd.R_alloc | apply Kd.R_drewN | apply Kd.R_drew)); exact HO186.out)) k_ hk))
                        (case aO => exact (by (with_reducible repeat (first | apply Kd.R_alloc | apply Kd.R_drewN | apply Kd.R_drew)); exact HO193.out))
                        (case aS => exact (below_size (by repeat (first | (with_reducible first | exact HB.out | apply below_alloc | apply pw_below_drewN | apply below_drew1) | exact HB.out))))
                        (case aL => have := LMc23.out; have hlx_ := (show (l1.take (a2 : Int).toNat).length = a2.toNat from (by rw [List.length_take]; have h_ : (a2 : Int) ≤ (l1.length : Int) := of_decide_eq_true (by first | (with_reducible assumption) | assumption); omega)); omega)
                        intro v196 w37 ho hb hg hat
                        rw [← Ny195.out] at ho
                        have n0_ := Aside0.mk (Kd.R_after (ok := (fun _ => True)) (by (with_reducible repeat (first | apply Kd.R_alloc | apply Kd.R_drewN | apply Kd.R_drew)); exact HO186.out) hg hat)
                        have n1_ := Aside0.mk (hb)
                        have n2_ := Aside0.mk (ho)
                        clear HO186
                        clear HB
                        clear HO193
                        have HO186 := n0_
                        have HB := n1_
                        have HO197 := n2_
                        clear n0_ n1_ n2_
                        clear ho hb hg hat
                        refine hK.out _ _ trivial (fun hHeld => ?_)
                        clear hK K
                        refine norm_ (a' := ?_) ?_ ?_
                        rotate_left
                        · show Act.put _ (some 80) _ = _
                          simp only [Act.put, List.setIfInBounds_toArray, List.set_cons_zero, List.set_cons_succ, i64_w, i32_w]
                          rfl
                        refine one_ (i := 13) (N := some 84) #[true, true, true, true, true, true, true, true, true, true, true, true, true, true, false, false, false, false, false, false, false, false] rfl rfl (one_of HT_.out (by kernel_rfl)) (by decide) (fun K hK => ?_)
                        refine Kd.R_append_rows_step (Kd.int .i64) (w0 := w) w.heap.size (by rfl) (.tmp 80) (.tmp 83) 22 3 (.int .i64 0) 8 rfl Try.underlying22 info3 rfl (by decide) (by omega) v196 y195 (l1.take (a2 : Int).toNat) _ _ _ (fun k_ => some k_ ≠ (v185 : Value).ownBlock) (fun _ => False) rfl rfl ?aO ?aR (fun _ _ h => h) (fun _ h => h.elim) ?aF ?aB ?aS ?aL ?_
                        (case aR => have hc_ := Kd.C_below HR198.out HB.out; rw [show (l1.take (a2 : Int).toNat).length = a2.toNat from (by rw [List.length_take]; have h_ : (a2 : Int) ≤ (l1.length : Int) := of_decide_eq_true (by first | (with_reducible assumption) | assumption); omega)] at hc_; exact hc_)
                        (case aB => exact (by repeat (first | (with_reducible first | exact HB.out | apply below_alloc | apply pw_below_drewN | apply below_drew1) | exact HB.out)))
                        (case aF => exact (fun k_ hk => Kd.fresh' (Kd.R_lt (by (with_reducible repeat (first | apply Kd.R_alloc | apply Kd.R_drewN | apply Kd.R_drew)); exact HO186.out)) k_ hk))
                        (case aO => exact (by (with_reducible repeat (first | apply Kd.R_alloc | apply Kd.R_drewN | apply Kd.R_drew)); exact HO197.out))
                        (case aS => exact (below_size (by repeat (first | (with_reducible first | exact HB.out | apply below_alloc | apply pw_below_drewN | apply below_drew1) | exact HB.out))))
                        (case aL => have := LMc26.out; have hlx_ := (show (l1.take (a2 : Int).toNat).length = a2.toNat from (by rw [List.length_take]; have h_ : (a2 : Int) ≤ (l1.length : Int) := of_decide_eq_true (by first | (with_reducible assumption) | assumption); omega)); omega)
                        intro v200 w38 ho hb hg hat
                        rw [← Ny199.out] at ho
                        have n0_ := Aside0.mk (Kd.R_after (ok := (fun _ => True)) (by (with_reducible repeat (first | apply Kd.R_alloc | apply Kd.R_drewN | apply Kd.R_drew)); exact HO186.out) hg hat)
                        have n1_ := Aside0.mk (hb)
                        have n2_ := Aside0.mk (ho)
                        clear HO186
                        clear HB
                        clear HO197
                        have HO186 := n0_
                        have HB := n1_
                        have HO201 := n2_
                        clear n0_ n1_ n2_
                        clear ho hb hg hat
                        obtain ⟨Ao39, co39, eo39⟩ := Kd.R_slice HO201.out
                        (first | subst eo39 | (injection eo39 with f1_ f2_ f3_; have f4_ := f1_.symm; have f5_ := f3_.symm; clear f1_ f2_ f3_; subst f4_; subst f5_))
                        refine hK.out _ _ trivial (fun hHeld => ?_)
                        clear hK K
                        refine norm_ (a' := ?_) ?_ ?_
                        rotate_left
                        · show Act.put _ (some 84) _ = _
                          simp only [Act.put, List.setIfInBounds_toArray, List.set_cons_zero, List.set_cons_succ, i64_w, i32_w]
                          rfl
                        refine one_ (i := 14) (N := some 85) #[true, true, true, true, true, true, true, true, true, true, true, true, true, true, true, false, false, false, false, false, false, false] rfl rfl (one_of HT_.out (by kernel_rfl)) (by decide) (fun K hK => ?_)
                        refine goes_ Try.func10 (by kernel_rfl) rfl #[.int .i64 a0, .slice Ao39 y199.length co39] (by rfl) rfl rfl (by (try simp only [List.map_toArray, List.map_cons, List.map_nil]); first | done | rfl | (simp only [List.length_drop, List.length_take]; rfl)) ?_
                        with_reducible refine (clause_Make.calls k2 a0 _ _ y199 t202 t203 t204 _ ?side1 ?side2 A27.out).mono ?_
                        (case side1 => repeat (first | exact (Kd.R_reads' HO201.out).2.2 | (with_reducible refine Kd.C_alloc ?_ _) | (with_reducible refine Kd.C_drewN ?_ _) | (with_reducible refine Kd.C_drew ?_)))
                        (case side2 => exact (Kd.R_reads' HO201.out).2.1)
                        rintro e w40 ⟨v205, rfl, ho0, hb⟩
                        refine ⟨_, rfl, ?_⟩
                        have n0_ := Aside0.mk (Kd.R_elder' (by (with_reducible repeat (first | apply Kd.R_alloc | apply Kd.R_drewN | apply Kd.R_drew)); exact HO186.out) (Kd.R_base ho0) hb)
                        have n1_ := Aside0.mk (Kd.R_elder' (by (with_reducible repeat (first | apply Kd.R_alloc | apply Kd.R_drewN | apply Kd.R_drew)); exact HO201.out) (Kd.R_base ho0) hb)
                        have n2_ := Aside0.mk (Kd.R_lower (Kd.R_new' (Kd.R_new' ho0 (Kd.R_lt (by (with_reducible repeat (first | apply Kd.R_alloc | apply Kd.R_drewN | apply Kd.R_drew)); exact HO186.out))) (Kd.R_lt (by (with_reducible repeat (first | apply Kd.R_alloc | apply Kd.R_drewN | apply Kd.R_drew)); exact HO201.out))) (below_size (by repeat (first | (with_reducible first | exact HB.out | apply below_alloc | apply pw_below_drewN | apply below_drew1) | exact HB.out))))
                        have n3_ := Aside0.mk (below_step (by repeat (first | (with_reducible first | exact HB.out | apply below_alloc | apply pw_below_drewN | apply below_drew1) | exact HB.out)) hb)
                        clear HO186
                        clear HO201
                        clear HB
                        have HO186 := n0_
                        have HO201 := n1_
                        have HO206 := n2_
                        have HB := n3_
                        clear n0_ n1_ n2_ n3_
                        (try clear hb)
                        (try clear hb2)
                        (try clear hk)
                        (try clear hi)
                        (try clear ho0)
                        refine hK.out _ _ trivial (fun hHeld => ?_)
                        clear hK K
                        refine norm_ (a' := ?_) ?_ ?_
                        rotate_left
                        · show Act.put _ (some 85) _ = _
                          simp only [Act.put, List.setIfInBounds_toArray, List.set_cons_zero, List.set_cons_succ, i64_w, i32_w]
                          rfl
                        refine pure_ (i := 15) (N := some 70) (v := ?_) (a' := ?_) #[true, true, true, true, true, true, true, true, true, true, true, true, true, true, true, true, false, false, false, false, false, false] rfl rfl (any_of HT_.out (by kernel_rfl)) (fun _ _ _ h => h) (Or.inl ⟨by rfl, ?_⟩) ?_ ?_
                        rotate_left
                        · intro w'
                          go_simp
                          with_reducible rfl
                        rotate_left
                        · simp only [Act.put, List.setIfInBounds_toArray, List.set_cons_zero, List.set_cons_succ, i64_w, i32_w]
                          rfl
                        refine pure_ (i := 16) (N := some 86) (v := ?_) (a' := ?_) #[true, true, true, true, true, true, true, true, true, true, true, true, true, true, true, true, true, false, false, false, false, false] rfl rfl (any_of HT_.out (by kernel_rfl)) (fun _ _ _ h => h) (Or.inl ⟨by rfl, ?_⟩) ?_ ?_
                        rotate_left
                        · intro w'
                          go_simp
                          with_reducible rfl
                        rotate_left
                        · simp only [Act.put, List.setIfInBounds_toArray, List.set_cons_zero, List.set_cons_succ, i64_w, i32_w]
                          rfl
                        refine pure_ (i := 17) (N := some 87) (v := ?_) (a' := ?_) #[true, true, true, true, true, true, true, true, true, true, true, true, true, true, true, true, true, true, false, false, false, false] rfl rfl (any_of HT_.out (by kernel_rfl)) (fun _ _ _ h => h) (Or.inl ⟨by rfl, ?_⟩) ?_ ?_
                        rotate_left
                        · intro w'
                          go_simp
                          with_reducible rfl
                        rotate_left
                        · simp only [Act.put, List.setIfInBounds_toArray, List.set_cons_zero, List.set_cons_succ, i64_w, i32_w]
                          rfl
                        refine pure_ (i := 18) (N := some 88) (v := ?_) (a' := ?_) #[true, true, true, true, true, true, true, true, true, true, true, true, true, true, true, true, true, true, true, false, false, false] rfl rfl (any_of HT_.out (by kernel_rfl)) (fun _ _ _ h => h) (Or.inl ⟨by rfl, ?_⟩) ?_ ?_
                        rotate_left
                        · intro w'
                          go_simp
                          with_reducible rfl
                        rotate_left
                        · simp only [Act.put, List.setIfInBounds_toArray, List.set_cons_zero, List.set_cons_succ, i64_w, i32_w]
                          rfl
                        refine pure_ (i := 19) (N := some 12) (v := ?_) (a' := ?_) #[true, true, true, true, true, true, true, true, true, true, true, true, true, true, true, true, true, true, true, true, false, false] rfl rfl (any_of HT_.out (by kernel_rfl)) (fun _ _ _ h => h) (Or.inl ⟨by rfl, ?_⟩) ?_ ?_
                        rotate_left
                        · intro w'
                          go_simp
                          with_reducible rfl
                        rotate_left
                        · simp only [Act.put, List.setIfInBounds_toArray, List.set_cons_zero, List.set_cons_succ, i64_w, i32_w]
                          rfl
                        refine pure_ (i := 20) (N := some 13) (v := ?_) (a' := ?_) #[true, true, true, true, true, true, true, true, true, true, true, true, true, true, true, true, true, true, true, true, true, false] rfl rfl (any_of HT_.out (by kernel_rfl)) (fun _ _ _ h => h) (Or.inl ⟨by rfl, ?_⟩) ?_ ?_
                        rotate_left
                        · intro w'
                          go_simp
                          with_reducible rfl
                        rotate_left
                        · simp only [Act.put, List.setIfInBounds_toArray, List.set_cons_zero, List.set_cons_succ, i64_w, i32_w]
                          rfl
                        refine pure_ (i := 21) (N := some 14) (v := ?_) (a' := ?_) #[true, true, true, true, true, true, true, true, true, true, true, true, true, true, true, true, true, true, true, true, true, true] rfl rfl (any_of HT_.out (by kernel_rfl)) (fun _ _ _ h => h) (Or.inl ⟨by rfl, ?_⟩) ?_ ?_
                        rotate_left
                        · intro w'
                          go_simp
                          with_reducible rfl
                        rotate_left
                        · simp only [Act.put, List.setIfInBounds_toArray, List.set_cons_zero, List.set_cons_succ, i64_w, i32_w]
                          rfl
                        refine done_ (done_of HT_.out (by kernel_rfl)) ?_
                        go_upto_region 11 with (fail)
                        go_cut [105] (fun v105 wc => ∃ (kq : Nat) (x105_27 : Bool), v105 = .bool x105_27 ∧ Aside0 (spiritlevellaw13_ClauseMakes.j2 kq a0 l1 t179 t182 t183 x105_27 = some r) ∧ Aside0 (kq ≤ k2) ∧ Aside0 (Kd.R (Kd.int .i64) 3 wc w.heap.size (fun _ => True) v185 t182) ∧ Aside0 (Below w.heap.size w wc))
                        case first =>
                          have H := HC28.out
                          clear HC28
                          by_cases c41 : t184 = 0
                          · rw [if_pos c41] at H
                            have c41b0 : (t184 == 0) = true := beq_iff_eq.mpr c41
                            have c41b1 : (t184 != 0) = false := bne_eq_false_iff_eq.mpr c41
                            clear c41
                            (first | rw [c41b0] | (simp only [i64_w, i32_w]; rw [c41b0]) | skip)
                            by_cases c42 : t204 = 0
                            · rw [if_pos c42] at H
                              have c42b0 : (t204 == 0) = true := beq_iff_eq.mpr c42
                              have c42b1 : (t204 != 0) = false := bne_eq_false_iff_eq.mpr c42
                              clear c42
                              by_cases c43 : (t183 != t203) = true
                              · rw [if_pos c43] at H
                                have c43b0 : (t183 != t203) = true := c43
                                (try (have c43b1 : decide (t183 = t203) = false := by simpa using c43))
                                (try (have c43b2 : (t183 == t203) = false := by simpa using c43))
                                (try (have c43b3 : ¬ (t183 = t203) := by simpa using c43))
                                clear c43
                                have H' := Aside0.mk H
                                clear H
                                go_wp2
                                go_meet
                                case rel => exact ⟨_, (true), (by first | rfl | (simp; done) | (simp [*]; done)), H', ⟨by have := HJ4.out; have := HK2.out; first | omega | exact Nat.le_refl _⟩, ⟨by (with_reducible repeat (first | apply Kd.R_alloc | apply Kd.R_drewN | apply Kd.R_drew)); exact Kd.R_mono HO186.out (fun _ hk => trivial)⟩, ⟨by repeat (first | (with_reducible first | exact HB.out | apply below_alloc | apply pw_below_drewN | apply below_drew1) | exact HB.out)⟩⟩
                              · rw [if_neg c43] at H
                                have c43b0 : (t183 != t203) = false := by simpa using c43
                                (try (have c43b1 : decide (t183 = t203) = true := by simpa using c43))
                                (try (have c43b2 : (t183 == t203) = true := by simpa using c43))
                                clear c43
                                replace H := Option.bind_eq_some_iff.mp H
                                obtain ⟨t207, A440, H⟩ := H
                                replace H : (spiritlevellaw13_ClauseMakes.j2 k2 a0 l1 t179 t182 t183 (!t207)) = some r := H
                                have A44 := Aside0.mk A440
                                clear A440
                                have H' := Aside0.mk H
                                clear H
                                obtain ⟨Ao45, co45, eo45⟩ := Kd.R_slice HO186.out
                                subst eo45
                                obtain ⟨Ao46, co46, eo46⟩ := Kd.R_slice HO206.out
                                subst eo46
                                go_wp2_with (first | (go_at_call 14; (with_reducible refine (spiritlevelref13_Same.calls k2 _ _ t182 _ _ t202 t207 _ ?side1 ?side2 ?side3 ?side4 A44.out).mono ?_); (case side1 => repeat (first | exact (Kd.R_reads' HO186.out).2.2 | (with_reducible refine Kd.C_alloc ?_ _) | (with_reducible refine Kd.C_drewN ?_ _) | (with_reducible refine Kd.C_drew ?_))); (case side2 => exact (Kd.R_reads' HO186.out).2.1); (case side3 => repeat (first | exact (Kd.R_reads' HO206.out).2.2 | (with_reducible refine Kd.C_alloc ?_ _) | (with_reducible refine Kd.C_drewN ?_ _) | (with_reducible refine Kd.C_drew ?_))); (case side4 => exact (Kd.R_reads' HO206.out).2.1); rintro e w' ⟨rfl, ⟨nd, rfl⟩⟩))
                                go_meet
                                case rel => exact ⟨_, (!t207), (by first | rfl | (simp; done) | (simp [*]; done)), H', ⟨by have := HJ4.out; have := HK2.out; first | omega | exact Nat.le_refl _⟩, ⟨by (with_reducible repeat (first | apply Kd.R_alloc | apply Kd.R_drewN | apply Kd.R_drew)); exact Kd.R_mono HO186.out (fun _ hk => trivial)⟩, ⟨by repeat (first | (with_reducible first | exact HB.out | apply below_alloc | apply pw_below_drewN | apply below_drew1) | exact HB.out)⟩⟩
                            · rw [if_neg c42] at H
                              have c42b0 : (t204 == 0) = false := beq_eq_false_iff_ne.mpr c42
                              have c42b1 : (t204 != 0) = true := bne_iff_ne.mpr c42
                              have H' := Aside0.mk H
                              clear H
                              go_wp2
                              go_meet
                              case rel => exact ⟨_, (true), (by first | rfl | (simp; done) | (simp [*]; done)), H', ⟨by have := HJ4.out; have := HK2.out; first | omega | exact Nat.le_refl _⟩, ⟨by (with_reducible repeat (first | apply Kd.R_alloc | apply Kd.R_drewN | apply Kd.R_drew)); exact Kd.R_mono HO186.out (fun _ hk => trivial)⟩, ⟨by repeat (first | (with_reducible first | exact HB.out | apply below_alloc | apply pw_below_drewN | apply below_drew1) | exact HB.out)⟩⟩
                          · rw [if_neg c41] at H
                            have c41b0 : (t184 == 0) = false := beq_eq_false_iff_ne.mpr c41
                            have c41b1 : (t184 != 0) = true := bne_iff_ne.mpr c41
                            (first | rw [c41b0] | (simp only [i64_w, i32_w]; rw [c41b0]) | skip)
                            have H' := Aside0.mk H
                            clear H
                            go_wp2
                            go_meet
                            case rel => exact ⟨_, (true), (by first | rfl | (simp; done) | (simp [*]; done)), H', ⟨by have := HJ4.out; have := HK2.out; first | omega | exact Nat.le_refl _⟩, ⟨by (with_reducible repeat (first | apply Kd.R_alloc | apply Kd.R_drewN | apply Kd.R_drew)); exact Kd.R_mono HO186.out (fun _ hk => trivial)⟩, ⟨by repeat (first | (with_reducible first | exact HB.out | apply below_alloc | apply pw_below_drewN | apply below_drew1) | exact HB.out)⟩⟩
                        case rest =>
                          clear HC28
                          try clear c1
                          try clear p1
                          try clear q1
                          try clear hx1
                          try clear c2
                          try clear p2
                          try clear c4
                          try clear c5
                          try clear p6
                          try clear c7
                          try clear c7b0
                          try clear c8
                          try clear c8b0
                          try clear c9
                          try clear c9b0
                          try clear c9b1
                          try clear c10
                          try clear c10b0
                          try clear c11
                          try clear c11b0
                          try clear c12
                          try clear c13
                          try clear c13b0
                          try clear c14
                          try clear c14b0
                          try clear c16
                          try clear c18
                          try clear c18b0
                          try clear c18b1
                          try clear p18
                          try clear q18
                          try clear hx18
                          try clear c19
                          try clear c19b0
                          try clear c19b1
                          try clear c20
                          try clear c21
                          try clear c21b0
                          try clear c22
                          try clear c22b0
                          try clear c23
                          try clear c24
                          try clear c24b0
                          try clear c25
                          try clear c25b0
                          try clear c26
                          try clear c41
                          try clear c41b0
                          try clear c41b1
                          try clear c42
                          try clear c42b0
                          try clear c42b1
                          try clear c43
                          try clear c43b0
                          try clear c43b1
                          try clear c43b2
                          try clear hx180_0
                          try clear p180
                          try clear p2
                          try clear q180
                          obtain ⟨kq, x105_27, rfl, HA, HJ27, HO_9, HB⟩ := hcut
                          cases kq with
                          | zero => exact absurd HA.out (by simp [spiritlevellaw13_ClauseMakes.j2])
                          | succ kj27 =>
                            have H := HA.out
                            clear HA
                            simp only [spiritlevellaw13_ClauseMakes.j2] at H
                            by_cases c47 : x105_27 = true
                            · subst c47
                              have H1 : (some false) = some r := by rw [if_pos rfl] at H; exact H
                              clear H
                              have H := H1
                              clear H1
                              exact absurd ((Option.some.inj H).trans HTR_.out) (by decide)
                            · replace c47 := Bool.eq_false_iff.mpr c47
                              subst c47
                              have H1 : (spiritlevellaw13_ClauseMakes.l1 kj27 a0 l1 t179 t182 t183 0) = some r := by rw [if_neg (show ¬ (false = true) by decide)] at H; exact H
                              clear H
                              have H := H1
                              clear H1
                              have H' := Aside0.mk H
                              clear H
                              go_wp2
                              go_loopg [15] kj27 (fun kq v15 w' => ∃ (x15_4 : Int), v15 = .int .i64 x15_4 ∧ Aside0 (spiritlevellaw13_ClauseMakes.l1 kq a0 l1 t179 t182 t183 x15_4 = some r) ∧ Aside0 (kq ≤ kj27) ∧ Aside0 (Kd.R (Kd.int .i64) 3 w' w.heap.size (fun _ => True) v185 t182) ∧ Aside0 (Below w.heap.size w w'))
                              case atStart => exact ⟨(0), (by first | rfl | (simp; done) | (simp [*]; done)), H', ⟨Nat.le_refl _⟩, ⟨by (with_reducible repeat (first | apply Kd.R_alloc | apply Kd.R_drewN | apply Kd.R_drew)); exact HO_9.out⟩, ⟨by repeat (first | (with_reducible first | exact HB.out | apply below_alloc | apply pw_below_drewN | apply below_drew1) | exact HB.out)⟩⟩
                              case round =>
                                clear H'
                                try clear c1
                                try clear p1
                                try clear q1
                                try clear hx1
                                try clear c2
                                try clear p2
                                try clear c4
                                try clear c5
                                try clear p6
                                try clear c7
                                try clear c7b0
                                try clear c8
                                try clear c8b0
                                try clear c9
                                try clear c9b0
                                try clear c9b1
                                try clear c10
                                try clear c10b0
                                try clear c11
                                try clear c11b0
                                try clear c12
                                try clear c13
                                try clear c13b0
                                try clear c14
                                try clear c14b0
                                try clear c16
                                try clear c18
                                try clear c18b0
                                try clear c18b1
                                try clear p18
                                try clear q18
                                try clear hx18
                                try clear c19
                                try clear c19b0
                                try clear c19b1
                                try clear c20
                                try clear c21
                                try clear c21b0
                                try clear c22
                                try clear c22b0
                                try clear c23
                                try clear c24
                                try clear c24b0
                                try clear c25
                                try clear c25b0
                                try clear c26
                                try clear c41
                                try clear c41b0
                                try clear c41b1
                                try clear c42
                                try clear c42b0
                                try clear c42b1
                                try clear c43
                                try clear c43b0
                                try clear c43b1
                                try clear c43b2
                                try clear c47
                                try clear hx180_0
                                try clear p1
                                try clear p18
                                try clear p180
                                try clear p2
                                try clear p6
                                try clear q1
                                try clear q18
                                try clear q180
                                obtain ⟨x15_4, rfl, HA, HK4, HO_9, HB⟩ := hrel
                                cases gk with
                                | zero => exact absurd HA.out (by simp [spiritlevellaw13_ClauseMakes.l1])
                                | succ k4 =>
                                  have H := HA.out
                                  clear HA
                                  simp only [spiritlevellaw13_ClauseMakes.l1] at H
                                  obtain ⟨ji48, hji48⟩ : ∃ j_ : Int, (IntKind.u64.wrap (a0)) = j_ := ⟨_, rfl⟩
                                  replace H : (if 0 ≤ (ji48) then (if x15_4 < (shl .i64 1 (ji48)) then ((spiritlevelref13_Values.f k4 a0 x15_4).bind fun t208 => ((clause_True.f k4 t182 t208).bind fun bt211 => (if t183 = true then ((spiritlevelref13_Holds.f k4 l1 t208).bind fun t213 => (if t213 = true then (spiritlevellaw13_ClauseMakes.l1 k4 a0 l1 t179 t182 t183 (wrap64 (x15_4 + 1))) else (some false))) else (if bt211.2 = 0 then ((spiritlevelref13_Holds.f k4 l1 t208).bind fun t214 => (if (bt211.1 != t214) = true then (some false) else (spiritlevellaw13_ClauseMakes.l1 k4 a0 l1 t179 t182 t183 (wrap64 (x15_4 + 1))))) else (some false))))) else (if t183 = true then (if t179 = true then (some ((t182.length : Int) == 0)) else (some false)) else ((clause_Make.f k4 a0 t182).bind fun bt215 => (if t179 = true then ((clause_Check.f k4 a0 t182).bind fun t220 => (if t220 = 0 then (if bt215.2.2 = 0 then (if bt215.2.1 = true then (some false) else ((spiritlevelref13_Same.f k4 bt215.1 t182).bind fun t221 => (some t221))) else (some false)) else (some false))) else (some false))))) else (none)) = some r := by first | (rw [hji48] at H; exact H) | (simp only [hji48] at H ⊢; exact H)
                                  by_cases c49 : 0 ≤ (ji48)
                                  · rw [if_pos c49] at H
                                    have c49b0 := eq_true c49
                                    have c49b1 : decide (0 ≤ (ji48)) = true := decide_eq_true c49
                                    clear c49
                                    obtain ⟨ji50, hji50⟩ : ∃ j_ : Int, (shl .i64 1 (ji48)) = j_ := ⟨_, rfl⟩
                                    replace H : (if x15_4 < (ji50) then ((spiritlevelref13_Values.f k4 a0 x15_4).bind fun t208 => ((clause_True.f k4 t182 t208).bind fun bt211 => (if t183 = true then ((spiritlevelref13_Holds.f k4 l1 t208).bind fun t213 => (if t213 = true then (spiritlevellaw13_ClauseMakes.l1 k4 a0 l1 t179 t182 t183 (wrap64 (x15_4 + 1))) else (some false))) else (if bt211.2 = 0 then ((spiritlevelref13_Holds.f k4 l1 t208).bind fun t214 => (if (bt211.1 != t214) = true then (some false) else (spiritlevellaw13_ClauseMakes.l1 k4 a0 l1 t179 t182 t183 (wrap64 (x15_4 + 1))))) else (some false))))) else (if t183 = true then (if t179 = true then (some ((t182.length : Int) == 0)) else (some false)) else ((clause_Make.f k4 a0 t182).bind fun bt215 => (if t179 = true then ((clause_Check.f k4 a0 t182).bind fun t220 => (if t220 = 0 then (if bt215.2.2 = 0 then (if bt215.2.1 = true then (some false) else ((spiritlevelref13_Same.f k4 bt215.1 t182).bind fun t221 => (some t221))) else (some false)) else (some false))) else (some false))))) = some r := by first | (rw [hji50] at H; exact H) | (simp only [hji50] at H ⊢; exact H)
                                    have hji50_ : (IntKind.i64.wrap (1 * 2 ^ min (ji48).toNat 64)) = ji50 := hji50
                                    have hji50z : (ji48) ≤ 64 → (IntKind.i64.wrap (1 * 2 ^ (ji48).toNat)) = ji50 := shl_small hji50
                                    have hji50u : (IntKind.i64.wrap (2 ^ min (ji48).toNat 64)) = ji50 := by have h_ := hji50_; rw [Int.one_mul] at h_; exact h_
                                    have hji50v : (ji48) ≤ 64 → (IntKind.i64.wrap (2 ^ (ji48).toNat)) = ji50 := fun hle_ => by have h_ := hji50z hle_; rw [Int.one_mul] at h_; exact h_
                                    have hji50y : (wrap64 (1 * 2 ^ min (ji48).toNat 64)) = ji50 := (i64_w _).symm.trans hji50_
                                    have hji50x : (ji48) ≤ 64 → (wrap64 (1 * 2 ^ (ji48).toNat)) = ji50 := fun h_ => (i64_w _).symm.trans (hji50z h_)
                                    by_cases c51 : x15_4 < (ji50)
                                    · rw [if_pos c51] at H
                                      have c51b0 : decide (x15_4 < (ji50)) = true := decide_eq_true c51
                                      clear c51
                                      replace H := Option.bind_eq_some_iff.mp H
                                      obtain ⟨t208, A520, H⟩ := H
                                      replace H : ((clause_True.f k4 t182 t208).bind fun bt211 => (if t183 = true then ((spiritlevelref13_Holds.f k4 l1 t208).bind fun t213 => (if t213 = true then (spiritlevellaw13_ClauseMakes.l1 k4 a0 l1 t179 t182 t183 (wrap64 (x15_4 + 1))) else (some false))) else (if bt211.2 = 0 then ((spiritlevelref13_Holds.f k4 l1 t208).bind fun t214 => (if (bt211.1 != t214) = true then (some false) else (spiritlevellaw13_ClauseMakes.l1 k4 a0 l1 t179 t182 t183 (wrap64 (x15_4 + 1))))) else (some false)))) = some r := H
                                      have A52 := Aside0.mk A520
                                      clear A520
                                      replace H := Option.bind_eq_some_iff.mp H
                                      obtain ⟨⟨t211, t212⟩, A530, H⟩ := H
                                      replace H : (if t183 = true then ((spiritlevelref13_Holds.f k4 l1 t208).bind fun t213 => (if t213 = true then (spiritlevellaw13_ClauseMakes.l1 k4 a0 l1 t179 t182 t183 (wrap64 (x15_4 + 1))) else (some false))) else (if t212 = 0 then ((spiritlevelref13_Holds.f k4 l1 t208).bind fun t214 => (if (t211 != t214) = true then (some false) else (spiritlevellaw13_ClauseMakes.l1 k4 a0 l1 t179 t182 t183 (wrap64 (x15_4 + 1))))) else (some false))) = some r := H
                                      have A53 := Aside0.mk A530
                                      clear A530
                                      by_cases c54 : t183 = true
                                      · subst c54
                                        have H1 : ((spiritlevelref13_Holds.f k4 l1 t208).bind fun t213 => (if t213 = true then (spiritlevellaw13_ClauseMakes.l1 k4 a0 l1 t179 t182 true (wrap64 (x15_4 + 1))) else (some false))) = some r := by rw [if_pos rfl] at H; exact H
                                        clear H
                                        have H := H1
                                        clear H1
                                        replace H := Option.bind_eq_some_iff.mp H
                                        obtain ⟨t213, A550, H⟩ := H
                                        replace H : (if t213 = true then (spiritlevellaw13_ClauseMakes.l1 k4 a0 l1 t179 t182 true (wrap64 (x15_4 + 1))) else (some false)) = some r := H
                                        have A55 := Aside0.mk A550
                                        clear A550
                                        by_cases c56 : t213 = true
                                        · subst c56
                                          have H1 : (spiritlevellaw13_ClauseMakes.l1 k4 a0 l1 t179 t182 true (wrap64 (x15_4 + 1))) = some r := by rw [if_pos rfl] at H; exact H
                                          clear H
                                          have H := H1
                                          clear H1
                                          have H' := Aside0.mk H
                                          clear H
                                          go_wp2_with (first | ((with_reducible refine gate_callee (f := 19) rfl ?_); refine goesL_ (some 115) rfl rfl Try.func19 (by kernel_rfl) rfl #[.int .i64 a0, .int .i64 x15_4] rfl (by (try simp only [List.map_toArray, List.map_cons, List.map_nil]); first | done | rfl | (simp only [List.length_drop, List.length_take]; rfl)) ?_; (with_reducible refine (spiritlevelref13_Values.calls k4 a0 x15_4 t208 _ A52.out).mono ?_); rintro e w57 ⟨v209, rfl, ho0, hb⟩; refine ⟨_, rfl, ?_⟩; have n0_ := Aside0.mk (Kd.R_below (by (with_reducible repeat (first | apply Kd.R_alloc | apply Kd.R_drewN | apply Kd.R_drew)); exact HO_9.out) hb); have n1_ := Aside0.mk (Kd.R_lower ho0 (below_size (by repeat (first | (with_reducible first | exact HB.out | apply below_alloc | apply pw_below_drewN | apply below_drew1) | exact HB.out)))); have n2_ := Aside0.mk (below_step (by repeat (first | (with_reducible first | exact HB.out | apply below_alloc | apply pw_below_drewN | apply below_drew1) | exact HB.out)) hb); clear HO_9; clear HB; have HO_9 := n0_; have HO210 := n1_; have HB := n2_; clear n0_ n1_ n2_; (try clear hb); (try clear hb2); (try clear hk); (try clear hi); (try clear ho0); obtain ⟨Ao58, co58, eo58⟩ := Kd.R_slice HO_9.out; subst eo58; obtain ⟨Ao59, co59, eo59⟩ := Kd.R_slice HO210.out; subst eo59) | ((with_reducible refine gate_callee (f := 12) rfl ?_); refine goesL_ (some 119) rfl rfl Try.func12 (by kernel_rfl) rfl #[.slice Ao58 t182.length co58, .slice Ao59 t208.length co59] rfl (by (try simp only [List.map_toArray, List.map_cons, List.map_nil]); first | done | rfl | (simp only [List.length_drop, List.length_take]; rfl)) ?_; (with_reducible refine (clause_True.calls k4 _ _ t182 _ _ t208 t211 t212 _ ?side1 ?side2 ?side3 ?side4 A53.out).mono ?_); (case side1 => repeat (first | exact (Kd.R_reads' HO_9.out).2.2 | (with_reducible refine Kd.C_alloc ?_ _) | (with_reducible refine Kd.C_drewN ?_ _) | (with_reducible refine Kd.C_drew ?_))); (case side2 => exact (Kd.R_reads' HO_9.out).2.1); (case side3 => repeat (first | exact (Kd.R_reads' HO210.out).2.2 | (with_reducible refine Kd.C_alloc ?_ _) | (with_reducible refine Kd.C_drewN ?_ _) | (with_reducible refine Kd.C_drew ?_))); (case side4 => exact (Kd.R_reads' HO210.out).2.1); rintro e w' ⟨rfl, ⟨nd, rfl⟩⟩; refine ⟨_, rfl, ?_⟩) | (go_at_call 22; (with_reducible refine (spiritlevelref13_Holds.calls k4 _ _ l1 _ _ t208 true _ ?side1 ?side2 ?side3 ?side4 A55.out).mono ?_); (case side1 => repeat (first | exact (Kd.C_below HR1.out (by repeat (first | (with_reducible first | exact HB.out | apply below_alloc | apply pw_below_drewN | apply below_drew1) | exact HB.out))) | (with_reducible refine Kd.C_alloc ?_ _) | (with_reducible refine Kd.C_drewN ?_ _) | (with_reducible refine Kd.C_drew ?_))); (case side2 => exact HC1.out); (case side3 => repeat (first | exact (Kd.R_reads' HO210.out).2.2 | (with_reducible refine Kd.C_alloc ?_ _) | (with_reducible refine Kd.C_drewN ?_ _) | (with_reducible refine Kd.C_drew ?_))); (case side4 => exact (Kd.R_reads' HO210.out).2.1); rintro e w' ⟨rfl, ⟨nd, rfl⟩⟩))
                                          go_roundg k4
                                          case measure => have := HJ4.out; have := HK2.out; have := HJ27.out; have := HK4.out; omega
                                          case rel => exact ⟨(wrap64 (x15_4 + 1)), (by first | rfl | (simp; done) | (simp [*]; done)), H', ⟨by have := HJ4.out; have := HK2.out; have := HJ27.out; have := HK4.out; omega⟩, ⟨by (with_reducible repeat (first | apply Kd.R_alloc | apply Kd.R_drewN | apply Kd.R_drew)); exact HO_9.out⟩, ⟨by repeat (first | (with_reducible first | exact HB.out | apply below_alloc | apply pw_below_drewN | apply below_drew1) | exact HB.out)⟩⟩
                                        · replace c56 := Bool.eq_false_iff.mpr c56
                                          subst c56
                                          have H1 : (some false) = some r := by rw [if_neg (show ¬ (false = true) by decide)] at H; exact H
                                          clear H
                                          have H := H1
                                          clear H1
                                          exact absurd ((Option.some.inj H).trans HTR_.out) (by decide)
                                      · replace c54 := Bool.eq_false_iff.mpr c54
                                        subst c54
                                        have H1 : (if t212 = 0 then ((spiritlevelref13_Holds.f k4 l1 t208).bind fun t214 => (if (t211 != t214) = true then (some false) else (spiritlevellaw13_ClauseMakes.l1 k4 a0 l1 t179 t182 false (wrap64 (x15_4 + 1))))) else (some false)) = some r := by rw [if_neg (show ¬ (false = true) by decide)] at H; exact H
                                        clear H
                                        have H := H1
                                        clear H1
                                        by_cases c60 : t212 = 0
                                        · rw [if_pos c60] at H
                                          have c60b0 : (t212 == 0) = true := beq_iff_eq.mpr c60
                                          have c60b1 : (t212 != 0) = false := bne_eq_false_iff_eq.mpr c60
                                          clear c60
                                          replace H := Option.bind_eq_some_iff.mp H
                                          obtain ⟨t214, A610, H⟩ := H
                                          replace H : (if (t211 != t214) = true then (some false) else (spiritlevellaw13_ClauseMakes.l1 k4 a0 l1 t179 t182 false (wrap64 (x15_4 + 1)))) = some r := H
                                          have A61 := Aside0.mk A610
                                          clear A610
                                          by_cases c62 : (t211 != t214) = true
                                          · rw [if_pos c62] at H
                                            have c62b0 : (t211 != t214) = true := c62
                                            (try (have c62b1 : decide (t211 = t214) = false := by simpa using c62))
                                            (try (have c62b2 : (t211 == t214) = false := by simpa using c62))
                                            (try (have c62b3 : ¬ (t211 = t214) := by simpa using c62))
                                            clear c62
                                            exact absurd ((Option.some.inj H).trans HTR_.out) (by decide)
                                          · rw [if_neg c62] at H
                                            have c62b0 : (t211 != t214) = false := by simpa using c62
                                            (try (have c62b1 : decide (t211 = t214) = true := by simpa using c62))
                                            (try (have c62b2 : (t211 == t214) = true := by simpa using c62))
                                            clear c62
                                            have H' := Aside0.mk H
                                            clear H
                                            go_wp2_with (first | ((with_reducible refine gate_callee (f := 19) rfl ?_); refine goesL_ (some 115) rfl rfl Try.func19 (by kernel_rfl) rfl #[.int .i64 a0, .int .i64 x15_4] rfl (by (try simp only [List.map_toArray, List.map_cons, List.map_nil]); first | done | rfl | (simp only [List.length_drop, List.length_take]; rfl)) ?_; (with_reducible refine (spiritlevelref13_Values.calls k4 a0 x15_4 t208 _ A52.out).mono ?_); rintro e w63 ⟨v209, rfl, ho0, hb⟩; refine ⟨_, rfl, ?_⟩; have n0_ := Aside0.mk (Kd.R_below (by (with_reducible repeat (first | apply Kd.R_alloc | apply Kd.R_drewN | apply Kd.R_drew)); exact HO_9.out) hb); have n1_ := Aside0.mk (Kd.R_lower ho0 (below_size (by repeat (first | (with_reducible first | exact HB.out | apply below_alloc | apply pw_below_drewN | apply below_drew1) | exact HB.out)))); have n2_ := Aside0.mk (below_step (by repeat (first | (with_reducible first | exact HB.out | apply below_alloc | apply pw_below_drewN | apply below_drew1) | exact HB.out)) hb); clear HO_9; clear HB; have HO_9 := n0_; have HO210 := n1_; have HB := n2_; clear n0_ n1_ n2_; (try clear hb); (try clear hb2); (try clear hk); (try clear hi); (try clear ho0); obtain ⟨Ao64, co64, eo64⟩ := Kd.R_slice HO_9.out; subst eo64; obtain ⟨Ao65, co65, eo65⟩ := Kd.R_slice HO210.out; subst eo65) | ((with_reducible refine gate_callee (f := 12) rfl ?_); refine goesL_ (some 119) rfl rfl Try.func12 (by kernel_rfl) rfl #[.slice Ao64 t182.length co64, .slice Ao65 t208.length co65] rfl (by (try simp only [List.map_toArray, List.map_cons, List.map_nil]); first | done | rfl | (simp only [List.length_drop, List.length_take]; rfl)) ?_; (with_reducible refine (clause_True.calls k4 _ _ t182 _ _ t208 t211 t212 _ ?side1 ?side2 ?side3 ?side4 A53.out).mono ?_); (case side1 => repeat (first | exact (Kd.R_reads' HO_9.out).2.2 | (with_reducible refine Kd.C_alloc ?_ _) | (with_reducible refine Kd.C_drewN ?_ _) | (with_reducible refine Kd.C_drew ?_))); (case side2 => exact (Kd.R_reads' HO_9.out).2.1); (case side3 => repeat (first | exact (Kd.R_reads' HO210.out).2.2 | (with_reducible refine Kd.C_alloc ?_ _) | (with_reducible refine Kd.C_drewN ?_ _) | (with_reducible refine Kd.C_drew ?_))); (case side4 => exact (Kd.R_reads' HO210.out).2.1); rintro e w' ⟨rfl, ⟨nd, rfl⟩⟩; refine ⟨_, rfl, ?_⟩) | (go_at_call 22; (with_reducible refine (spiritlevelref13_Holds.calls k4 _ _ l1 _ _ t208 t214 _ ?side1 ?side2 ?side3 ?side4 A61.out).mono ?_); (case side1 => repeat (first | exact (Kd.C_below HR1.out (by repeat (first | (with_reducible first | exact HB.out | apply below_alloc | apply pw_below_drewN | apply below_drew1) | exact HB.out))) | (with_reducible refine Kd.C_alloc ?_ _) | (with_reducible refine Kd.C_drewN ?_ _) | (with_reducible refine Kd.C_drew ?_))); (case side2 => exact HC1.out); (case side3 => repeat (first | exact (Kd.R_reads' HO210.out).2.2 | (with_reducible refine Kd.C_alloc ?_ _) | (with_reducible refine Kd.C_drewN ?_ _) | (with_reducible refine Kd.C_drew ?_))); (case side4 => exact (Kd.R_reads' HO210.out).2.1); rintro e w' ⟨rfl, ⟨nd, rfl⟩⟩))
                                            go_roundg k4
                                            case measure => have := HJ4.out; have := HK2.out; have := HJ27.out; have := HK4.out; omega
                                            case rel => exact ⟨(wrap64 (x15_4 + 1)), (by first | rfl | (simp; done) | (simp [*]; done)), H', ⟨by have := HJ4.out; have := HK2.out; have := HJ27.out; have := HK4.out; omega⟩, ⟨by (with_reducible repeat (first | apply Kd.R_alloc | apply Kd.R_drewN | apply Kd.R_drew)); exact HO_9.out⟩, ⟨by repeat (first | (with_reducible first | exact HB.out | apply below_alloc | apply pw_below_drewN | apply below_drew1) | exact HB.out)⟩⟩
                                        · rw [if_neg c60] at H
                                          have c60b0 : (t212 == 0) = false := beq_eq_false_iff_ne.mpr c60
                                          have c60b1 : (t212 != 0) = true := bne_iff_ne.mpr c60
                                          exact absurd ((Option.some.inj H).trans HTR_.out) (by decide)
                                    · rw [if_neg c51] at H
                                      have c51b0 : decide (x15_4 < (ji50)) = false := decide_eq_false c51
                                      clear c51
                                      by_cases c66 : t183 = true
                                      · subst c66
                                        have H1 : (if t179 = true then (some ((t182.length : Int) == 0)) else (some false)) = some r := by rw [if_pos rfl] at H; exact H
                                        clear H
                                        have H := H1
                                        clear H1
                                        by_cases c67 : t179 = true
                                        · subst c67
                                          have H1 : (some ((t182.length : Int) == 0)) = some r := by rw [if_pos rfl] at H; exact H
                                          clear H
                                          have H := H1
                                          clear H1
                                          obtain rfl := Option.some.inj H
                                          obtain ⟨Ao68, co68, eo68⟩ := Kd.R_slice HO_9.out
                                          subst eo68
                                          go_wp2
                                          go_ret
                                          exact ⟨by first | rfl | (simp [errW_none, errW_some] <;> rfl) | (simp only [← hji48, ← hji50]; first | rfl | (simp [errW_none, errW_some] <;> rfl)) | (simp [*, errW_none, errW_some] <;> rfl), by repeat (first | (with_reducible first | exact HB.out | apply below_alloc | apply pw_below_drewN | apply below_drew1) | exact HB.out)⟩
                                        · replace c67 := Bool.eq_false_iff.mpr c67
                                          subst c67
                                          have H1 : (some false) = some r := by rw [if_neg (show ¬ (false = true) by decide)] at H; exact H
                                          clear H
                                          have H := H1
                                          clear H1
                                          exact absurd ((Option.some.inj H).trans HTR_.out) (by decide)
                                      · replace c66 := Bool.eq_false_iff.mpr c66
                                        subst c66
                                        have H1 : ((clause_Make.f k4 a0 t182).bind fun bt215 => (if t179 = true then ((clause_Check.f k4 a0 t182).bind fun t220 => (if t220 = 0 then (if bt215.2.2 = 0 then (if bt215.2.1 = true then (some false) else ((spiritlevelref13_Same.f k4 bt215.1 t182).bind fun t221 => (some t221))) else (some false)) else (some false))) else (some false))) = some r := by rw [if_neg (show ¬ (false = true) by decide)] at H; exact H
                                        clear H
                                        have H := H1
                                        clear H1
                                        replace H := Option.bind_eq_some_iff.mp H
                                        obtain ⟨⟨t215, t216, t217⟩, A690, H⟩ := H
                                        replace H : (if t179 = true then ((clause_Check.f k4 a0 t182).bind fun t220 => (if t220 = 0 then (if t217 = 0 then (if t216 = true then (some false) else ((spiritlevelref13_Same.f k4 t215 t182).bind fun t221 => (some t221))) else (some false)) else (some false))) else (some false)) = some r := H
                                        have A69 := Aside0.mk A690
                                        clear A690
                                        by_cases c70 : t179 = true
                                        · subst c70
                                          have H1 : ((clause_Check.f k4 a0 t182).bind fun t220 => (if t220 = 0 then (if t217 = 0 then (if t216 = true then (some false) else ((spiritlevelref13_Same.f k4 t215 t182).bind fun t221 => (some t221))) else (some false)) else (some false))) = some r := by rw [if_pos rfl] at H; exact H
                                          clear H
                                          have H := H1
                                          clear H1
                                          replace H := Option.bind_eq_some_iff.mp H
                                          obtain ⟨t220, A710, H⟩ := H
                                          replace H : (if t220 = 0 then (if t217 = 0 then (if t216 = true then (some false) else ((spiritlevelref13_Same.f k4 t215 t182).bind fun t221 => (some t221))) else (some false)) else (some false)) = some r := H
                                          have A71 := Aside0.mk A710
                                          clear A710
                                          by_cases c72 : t220 = 0
                                          · rw [if_pos c72] at H
                                            have c72b0 : (t220 == 0) = true := beq_iff_eq.mpr c72
                                            have c72b1 : (t220 != 0) = false := bne_eq_false_iff_eq.mpr c72
                                            clear c72
                                            by_cases c73 : t217 = 0
                                            · rw [if_pos c73] at H
                                              have c73b0 : (t217 == 0) = true := beq_iff_eq.mpr c73
                                              have c73b1 : (t217 != 0) = false := bne_eq_false_iff_eq.mpr c73
                                              clear c73
                                              by_cases c74 : t216 = true
                                              · subst c74
                                                have H1 : (some false) = some r := by rw [if_pos rfl] at H; exact H
                                                clear H
                                                have H := H1
                                                clear H1
                                                exact absurd ((Option.some.inj H).trans HTR_.out) (by decide)
                                              · replace c74 := Bool.eq_false_iff.mpr c74
                                                subst c74
                                                have H1 : ((spiritlevelref13_Same.f k4 t215 t182).bind fun t221 => (some t221)) = some r := by rw [if_neg (show ¬ (false = true) by decide)] at H; exact H
                                                clear H
                                                have H := H1
                                                clear H1
                                                replace H := Option.bind_eq_some_iff.mp H
                                                obtain ⟨t221, A750, H⟩ := H
                                                replace H : (some t221) = some r := H
                                                have A75 := Aside0.mk A750
                                                clear A750
                                                obtain rfl := Option.some.inj H
                                                obtain ⟨Ao76, co76, eo76⟩ := Kd.R_slice HO_9.out
                                                subst eo76
                                                go_wp2_with (first | ((with_reducible refine gate_callee (f := 10) rfl ?_); refine goesL_ (some 154) rfl rfl Try.func10 (by kernel_rfl) rfl #[.int .i64 a0, .slice Ao76 t182.length co76] rfl (by (try simp only [List.map_toArray, List.map_cons, List.map_nil]); first | done | rfl | (simp only [List.length_drop, List.length_take]; rfl)) ?_; (with_reducible refine (clause_Make.calls k4 a0 _ _ t182 t215 false t217 _ ?side1 ?side2 A69.out).mono ?_); (case side1 => repeat (first | exact (Kd.R_reads' HO_9.out).2.2 | (with_reducible refine Kd.C_alloc ?_ _) | (with_reducible refine Kd.C_drewN ?_ _) | (with_reducible refine Kd.C_drew ?_))); (case side2 => exact (Kd.R_reads' HO_9.out).2.1); rintro e w77 ⟨v218, rfl, ho0, hb⟩; refine ⟨_, rfl, ?_⟩; have n0_ := Aside0.mk (Kd.R_elder' (by (with_reducible repeat (first | apply Kd.R_alloc | apply Kd.R_drewN | apply Kd.R_drew)); exact HO_9.out) (Kd.R_base ho0) hb); have n1_ := Aside0.mk (Kd.R_lower (Kd.R_new' ho0 (Kd.R_lt (by (with_reducible repeat (first | apply Kd.R_alloc | apply Kd.R_drewN | apply Kd.R_drew)); exact HO_9.out))) (below_size (by repeat (first | (with_reducible first | exact HB.out | apply below_alloc | apply pw_below_drewN | apply below_drew1) | exact HB.out)))); have n2_ := Aside0.mk (below_step (by repeat (first | (with_reducible first | exact HB.out | apply below_alloc | apply pw_below_drewN | apply below_drew1) | exact HB.out)) hb); clear HO_9; clear HB; have HO_9 := n0_; have HO219 := n1_; have HB := n2_; clear n0_ n1_ n2_; (try clear hb); (try clear hb2); (try clear hk); (try clear hi); (try clear ho0)) | (go_at_call 15; (with_reducible refine (clause_Check.calls k4 a0 _ _ t182 t220 _ ?side1 ?side2 A71.out).mono ?_); (case side1 => repeat (first | exact (Kd.R_reads' HO_9.out).2.2 | (with_reducible refine Kd.C_alloc ?_ _) | (with_reducible refine Kd.C_drewN ?_ _) | (with_reducible refine Kd.C_drew ?_))); (case side2 => exact (Kd.R_reads' HO_9.out).2.1); rintro e w' ⟨rfl, ⟨nd, rfl⟩⟩; obtain ⟨Ao78, co78, eo78⟩ := Kd.R_slice HO219.out; subst eo78) | (go_at_call 14; (with_reducible refine (spiritlevelref13_Same.calls k4 _ _ t215 _ _ t182 t221 _ ?side1 ?side2 ?side3 ?side4 A75.out).mono ?_); (case side1 => repeat (first | exact (Kd.R_reads' HO219.out).2.2 | (with_reducible refine Kd.C_alloc ?_ _) | (with_reducible refine Kd.C_drewN ?_ _) | (with_reducible refine Kd.C_drew ?_))); (case side2 => exact (Kd.R_reads' HO219.out).2.1); (case side3 => repeat (first | exact (Kd.R_reads' HO_9.out).2.2 | (with_reducible refine Kd.C_alloc ?_ _) | (with_reducible refine Kd.C_drewN ?_ _) | (with_reducible refine Kd.C_drew ?_))); (case side4 => exact (Kd.R_reads' HO_9.out).2.1); rintro e w' ⟨rfl, ⟨nd, rfl⟩⟩))
                                                go_ret
                                                exact ⟨by first | rfl | (simp [errW_none, errW_some] <;> rfl) | (simp only [← hji48, ← hji50]; first | rfl | (simp [errW_none, errW_some] <;> rfl)) | (simp [*, errW_none, errW_some] <;> rfl), by repeat (first | (with_reducible first | exact HB.out | apply below_alloc | apply pw_below_drewN | apply below_drew1) | exact HB.out)⟩
                                            · rw [if_neg c73] at H
                                              have c73b0 : (t217 == 0) = false := beq_eq_false_iff_ne.mpr c73
                                              have c73b1 : (t217 != 0) = true := bne_iff_ne.mpr c73
                                              exact absurd ((Option.some.inj H).trans HTR_.out) (by decide)
                                          · rw [if_neg c72] at H
                                            have c72b0 : (t220 == 0) = false := beq_eq_false_iff_ne.mpr c72
                                            have c72b1 : (t220 != 0) = true := bne_iff_ne.mpr c72
                                            exact absurd ((Option.some.inj H).trans HTR_.out) (by decide)
                                        · replace c70 := Bool.eq_false_iff.mpr c70
                                          subst c70
                                          have H1 : (some false) = some r := by rw [if_neg (show ¬ (false = true) by decide)] at H; exact H
                                          clear H
                                          have H := H1
                                          clear H1
                                          exact absurd ((Option.some.inj H).trans HTR_.out) (by decide)
                                  · rw [if_neg c49] at H
                                    exact absurd H (by simp)
                      · rw [if_neg c26] at H
                        exact absurd H (by simp)
                    · rw [if_neg c23] at H
                      exact absurd H (by simp)
                  · rw [if_neg c20] at H
                    exact absurd H (by simp)
                · rw [if_neg c19] at H
                  exact absurd H (by simp)
              · rw [if_neg c18] at H
                exact absurd H (by simp)

/-- THE ONE PURE STATEMENT of spiritlevellaw13_ClauseMakes. -/
def spiritlevellaw13_ClauseMakes.Pure : Prop := ∀ (a0 : Int) (l1 : List Int) (a2 : Int), ((Lit.int .i64 a0).wf = true) → (l1.length ≤ 9223372036854775807 ∧ l1.length * 8 ≤ 140737488351232 ∧ ∀ x0_ ∈ l1, (Lit.int .i64 x0_).wf = true) → ((Lit.int .i64 a2).wf = true) → ∃ k, spiritlevellaw13_ClauseMakes.f k a0 l1 a2 = some true
theorem spiritlevellaw13_ClauseMakes.walk (P : spiritlevellaw13_ClauseMakes.Pure) (a0 : Int) (A1 : Option Addr) (c1 : Nat) (l1 : List Int) (a2 : Int) (w : World) (hr1 : Kd.C (Kd.int .i64) w A1 l1.length l1) (hc1 : l1.length ≤ c1) (ok0 : (Lit.int .i64 a0).wf = true) (ok1 : l1.length ≤ 9223372036854775807 ∧ l1.length * 8 ≤ 140737488351232 ∧ ∀ x0_ ∈ l1, (Lit.int .i64 x0_).wf = true) (ok2 : (Lit.int .i64 a2).wf = true) :
    Calls Try.prog 5 #[.int .i64 a0, .slice A1 l1.length c1, .int .i64 a2] w fun e w' => e = .returned (.bool true) ∧ Below w.heap.size w w' := by
  obtain ⟨k, h⟩ := P a0 l1 a2 ok0 ok1 ok2
  refine (spiritlevellaw13_ClauseMakes.calls k a0 A1 c1 l1 a2 true w hr1 hc1 rfl h).mono ?_
  rintro e w' ⟨rfl, hd⟩
  exact ⟨rfl, hd⟩

end Go.Proofs.Ytnicmgakboghpaa.QClauseMakes
