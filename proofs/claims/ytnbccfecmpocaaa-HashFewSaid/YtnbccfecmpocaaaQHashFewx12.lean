-- Made by wip/myprint.sh (a patched print): a text of this session's own.
import Derived.Test.YtnbccfecmpocaaaQHashFewx0
import Derived.Test.YtnbccfecmpocaaaQHashFewx1
import Derived.Test.YtnbccfecmpocaaaQHashFewx3
import Derived.Test.YtnbccfecmpocaaaQHashFewx4
import Derived.Test.YtnbccfecmpocaaaQHashFewx5
import Derived.Test.YtnbccfecmpocaaaQHashFewx7
import Derived.Test.YtnbccfecmpocaaaQHashFewx8
import Derived.Test.YtnbccfecmpocaaaQHashFewx10
import Derived.Test.YtnbccfecmpocaaaQHashFewx11
namespace Go.Proofs.Ytnbccfecmpocaaa.QHashFew
open Go.RowKit Go.Proofs.YtnbccfecmpocaaaW.PrintWords Go.Proofs.YtnbccfecmpocaaaW.PrintLast Go.Proofs.YtnbccfecmpocaaaW.PrintMore
attribute [local go_sem] max2_int min2_int max_two min_two max_three min_three max_four min_four   -- for this text's walks alone
set_option linter.unusedVariables false
set_option linter.unusedSimpArgs false

attribute [local go_sem high] eqA67
/-! ### spiritlevellaw26_HashFew: function 6 -/
mutual
def spiritlevellaw26_HashFew.j0 : Nat → List Int → Bool → Bool → Int → List (S86) → List (S67) → List Int → List Int → Option (Bool)
 | 0, _, _, _, _, _, _, _, _ => none
 | k + 1, x1, x5, x27, x233000, x233001, x233002, x233003, x233004 => if x27 = true then (some x5) else ((hash_Build.f x233000 x233001 x233002 x233003 x233004 x1).bind fun bt235 => (if bt235.2.2.2.2.2.2 = 0 then ((gates_Check.f bt235.1 bt235.2.1 bt235.2.2.1 bt235.2.2.2.1 bt235.2.2.2.2.1).bind fun t253 => (if t253 = 0 then (if (bt235.2.2.1.length : Int) > (x233002.length : Int) then (spiritlevellaw26_HashFew.j1 k x5 true bt235.1 bt235.2.1 bt235.2.2.1 bt235.2.2.2.1 bt235.2.2.2.2.1) else (if bt235.1 = x233000 then (spiritlevellaw26_HashFew.j1 k x5 ((bt235.2.1.length : Int) != (x233001.length : Int)) bt235.1 bt235.2.1 bt235.2.2.1 bt235.2.2.2.1 bt235.2.2.2.2.1) else (spiritlevellaw26_HashFew.j1 k x5 true bt235.1 bt235.2.1 bt235.2.2.1 bt235.2.2.2.1 bt235.2.2.2.2.1))) else (spiritlevellaw26_HashFew.j1 k x5 true bt235.1 bt235.2.1 bt235.2.2.1 bt235.2.2.2.1 bt235.2.2.2.2.1))) else (some x5)))
def spiritlevellaw26_HashFew.j1 : Nat → Bool → Bool → Int → List (S86) → List (S67) → List Int → List Int → Option (Bool)
 | 0, _, _, _, _, _, _, _ => none
 | k + 1, x5, x66, x253000, x253001, x253002, x253003, x253004 => if x66 = true then (some false) else (spiritlevellaw26_HashFew.l0 k x5 0 x253000 x253001 x253002 x253003 x253004)
def spiritlevellaw26_HashFew.l0 : Nat → Bool → Int → Int → List (S86) → List (S67) → List Int → List Int → Option (Bool)
 | 0, _, _, _, _, _, _, _ => none
 | k + 1, x5, x9, x253000, x253001, x253002, x253003, x253004 => if x9 < (x253002.length : Int) then (if 0 ≤ x9 then ((lits_And.f k ((rd_T67 x253002 x9).f0) ((rd_T67 x253002 x9).f1)).bind fun bt287 => (if bt287.2.2 = 0 then (spiritlevellaw26_HashFew.j3 k x5 x9 bt287.2.1 x253000 x253001 x253002 x253003 x253004) else (spiritlevellaw26_HashFew.j3 k x5 x9 true x253000 x253001 x253002 x253003 x253004))) else (none)) else ((hash_Pass.f k x253000 x253001 x253002 x253003 x253004).bind fun bt254 => (if x5 = true then (if bt254.2.2.2.2.2.2.2.2.2.2.2.2 = 0 then ((spiritlevelref02_Same.f k x253000 x253001 x253002 x253003 x253004 bt254.1 bt254.2.1 bt254.2.2.1 bt254.2.2.2.1 bt254.2.2.2.2.1).bind fun t284 => (some t284)) else (some false)) else (some false)))
def spiritlevellaw26_HashFew.j3 : Nat → Bool → Int → Bool → Int → List (S86) → List (S67) → List Int → List Int → Option (Bool)
 | 0, _, _, _, _, _, _, _, _ => none
 | k + 1, x5, x9, x95, x253000, x253001, x253002, x253003, x253004 => if x95 = true then (some false) else (spiritlevellaw26_HashFew.l1 k x5 x9 0 x253000 x253001 x253002 x253003 x253004)
def spiritlevellaw26_HashFew.l1 : Nat → Bool → Int → Int → Int → List (S86) → List (S67) → List Int → List Int → Option (Bool)
 | 0, _, _, _, _, _, _, _, _ => none
 | k + 1, x5, x9, x13, x253000, x253001, x253002, x253003, x253004 => if x13 < x9 then (if 0 ≤ x13 then (if x13 < (x253002.length : Int) then (if 0 ≤ x9 then (if x9 < (x253002.length : Int) then (if (((rd_T67 x253002 x13).f0) == ((rd_T67 x253002 x9).f0) && (((rd_T67 x253002 x13).f1) == ((rd_T67 x253002 x9).f1))) = true then (some false) else (spiritlevellaw26_HashFew.l1 k x5 x9 (wrap64 (x13 + 1)) x253000 x253001 x253002 x253003 x253004)) else (none)) else (none)) else (none)) else (none)) else (spiritlevellaw26_HashFew.l0 k x5 (wrap64 (x9 + 1)) x253000 x253001 x253002 x253003 x253004)
end
def spiritlevellaw26_HashFew.f (k : Nat) (a0_0 : Int) (l0_1 : List (S86)) (l0_2 : List (S67)) (l0_3 : List Int) (l0_4 : List Int) (l1 : List Int) : Option (Bool) := (spiritlevellaw26_alive.f).bind fun t233 => ((spiritlevelref02_Great.f a0_0 l0_1 l0_2 l0_3 l0_4).bind fun t234 => (if t234 = true then (spiritlevellaw26_HashFew.j0 k l1 t233 true a0_0 l0_1 l0_2 l0_3 l0_4) else (if (l1.length : Int) > 1300 then (spiritlevellaw26_HashFew.j0 k l1 t233 true a0_0 l0_1 l0_2 l0_3 l0_4) else (spiritlevellaw26_HashFew.j0 k l1 t233 (!t233) a0_0 l0_1 l0_2 l0_3 l0_4))))
theorem spiritlevellaw26_HashFew.mono_l : ∀ k, (∀ y0 y1 y2 y3 y4 y5 y6 y7, LeO (spiritlevellaw26_HashFew.j0 k y0 y1 y2 y3 y4 y5 y6 y7) (spiritlevellaw26_HashFew.j0 (k + 1) y0 y1 y2 y3 y4 y5 y6 y7)) ∧ (∀ y0 y1 y2 y3 y4 y5 y6, LeO (spiritlevellaw26_HashFew.j1 k y0 y1 y2 y3 y4 y5 y6) (spiritlevellaw26_HashFew.j1 (k + 1) y0 y1 y2 y3 y4 y5 y6)) ∧ (∀ y0 y1 y2 y3 y4 y5 y6, LeO (spiritlevellaw26_HashFew.l0 k y0 y1 y2 y3 y4 y5 y6) (spiritlevellaw26_HashFew.l0 (k + 1) y0 y1 y2 y3 y4 y5 y6)) ∧ (∀ y0 y1 y2 y3 y4 y5 y6 y7, LeO (spiritlevellaw26_HashFew.j3 k y0 y1 y2 y3 y4 y5 y6 y7) (spiritlevellaw26_HashFew.j3 (k + 1) y0 y1 y2 y3 y4 y5 y6 y7)) ∧ (∀ y0 y1 y2 y3 y4 y5 y6 y7, LeO (spiritlevellaw26_HashFew.l1 k y0 y1 y2 y3 y4 y5 y6 y7) (spiritlevellaw26_HashFew.l1 (k + 1) y0 y1 y2 y3 y4 y5 y6 y7))
 | 0 => ⟨fun _ _ _ _ _ _ _ _ r h => by simp [spiritlevellaw26_HashFew.j0] at h, fun _ _ _ _ _ _ _ r h => by simp [spiritlevellaw26_HashFew.j1] at h, fun _ _ _ _ _ _ _ r h => by simp [spiritlevellaw26_HashFew.l0] at h, fun _ _ _ _ _ _ _ _ r h => by simp [spiritlevellaw26_HashFew.j3] at h, fun _ _ _ _ _ _ _ _ r h => by simp [spiritlevellaw26_HashFew.l1] at h⟩
 | k + 1 => by
  obtain ⟨ih0, ih1, ih2, ih3, ih4⟩ := spiritlevellaw26_HashFew.mono_l k
  refine ⟨?_, ?_, ?_, ?_, ?_⟩
  ·intro y0 y1 y2 y3 y4 y5 y6 y7
   unfold spiritlevellaw26_HashFew.j0
   repeat' first
   | (with_reducible exact ih0 _ _ _ _ _ _ _ _)
   | (with_reducible exact ih1 _ _ _ _ _ _ _)
   | (with_reducible exact ih2 _ _ _ _ _ _ _)
   | (with_reducible exact ih3 _ _ _ _ _ _ _ _)
   | (with_reducible exact ih4 _ _ _ _ _ _ _ _)
   | (with_reducible exact hash_Pass.mono _ _ _ _ _ _)
   | (with_reducible exact lits_And.mono _ _ _)
   | (with_reducible exact spiritlevelref02_Same.mono _ _ _ _ _ _ _ _ _ _ _)
   | (with_reducible exact LeO.refl _)
   | (with_reducible exact LeO.none _)
   | (with_reducible refine LeO.ite ?_ ?_)
   | (with_reducible refine LeO.bind ?_ (fun _ => ?_))
   | exact ih0 _ _ _ _ _ _ _ _
   | exact ih1 _ _ _ _ _ _ _
   | exact ih2 _ _ _ _ _ _ _
   | exact ih3 _ _ _ _ _ _ _ _
   | exact ih4 _ _ _ _ _ _ _ _
   | exact hash_Pass.mono _ _ _ _ _ _
   | exact lits_And.mono _ _ _
   | exact spiritlevelref02_Same.mono _ _ _ _ _ _ _ _ _ _ _
   | exact LeO.none _
   | refine LeO.ite ?_ ?_
   | refine LeO.bind ?_ (fun _ => ?_)
  ·intro y0 y1 y2 y3 y4 y5 y6
   unfold spiritlevellaw26_HashFew.j1
   repeat' first
   | (with_reducible exact ih0 _ _ _ _ _ _ _ _)
   | (with_reducible exact ih1 _ _ _ _ _ _ _)
   | (with_reducible exact ih2 _ _ _ _ _ _ _)
   | (with_reducible exact ih3 _ _ _ _ _ _ _ _)
   | (with_reducible exact ih4 _ _ _ _ _ _ _ _)
   | (with_reducible exact hash_Pass.mono _ _ _ _ _ _)
   | (with_reducible exact lits_And.mono _ _ _)
   | (with_reducible exact spiritlevelref02_Same.mono _ _ _ _ _ _ _ _ _ _ _)
   | (with_reducible exact LeO.refl _)
   | (with_reducible exact LeO.none _)
   | (with_reducible refine LeO.ite ?_ ?_)
   | (with_reducible refine LeO.bind ?_ (fun _ => ?_))
   | exact ih0 _ _ _ _ _ _ _ _
   | exact ih1 _ _ _ _ _ _ _
   | exact ih2 _ _ _ _ _ _ _
   | exact ih3 _ _ _ _ _ _ _ _
   | exact ih4 _ _ _ _ _ _ _ _
   | exact hash_Pass.mono _ _ _ _ _ _
   | exact lits_And.mono _ _ _
   | exact spiritlevelref02_Same.mono _ _ _ _ _ _ _ _ _ _ _
   | exact LeO.none _
   | refine LeO.ite ?_ ?_
   | refine LeO.bind ?_ (fun _ => ?_)
  ·intro y0 y1 y2 y3 y4 y5 y6
   unfold spiritlevellaw26_HashFew.l0
   repeat' first
   | (with_reducible exact ih0 _ _ _ _ _ _ _ _)
   | (with_reducible exact ih1 _ _ _ _ _ _ _)
   | (with_reducible exact ih2 _ _ _ _ _ _ _)
   | (with_reducible exact ih3 _ _ _ _ _ _ _ _)
   | (with_reducible exact ih4 _ _ _ _ _ _ _ _)
   | (with_reducible exact hash_Pass.mono _ _ _ _ _ _)
   | (with_reducible exact lits_And.mono _ _ _)
   | (with_reducible exact spiritlevelref02_Same.mono _ _ _ _ _ _ _ _ _ _ _)
   | (with_reducible exact LeO.refl _)
   | (with_reducible exact LeO.none _)
   | (with_reducible refine LeO.ite ?_ ?_)
   | (with_reducible refine LeO.bind ?_ (fun _ => ?_))
   | exact ih0 _ _ _ _ _ _ _ _
   | exact ih1 _ _ _ _ _ _ _
   | exact ih2 _ _ _ _ _ _ _
   | exact ih3 _ _ _ _ _ _ _ _
   | exact ih4 _ _ _ _ _ _ _ _
   | exact hash_Pass.mono _ _ _ _ _ _
   | exact lits_And.mono _ _ _
   | exact spiritlevelref02_Same.mono _ _ _ _ _ _ _ _ _ _ _
   | exact LeO.none _
   | refine LeO.ite ?_ ?_
   | refine LeO.bind ?_ (fun _ => ?_)
  ·intro y0 y1 y2 y3 y4 y5 y6 y7
   unfold spiritlevellaw26_HashFew.j3
   repeat' first
   | (with_reducible exact ih0 _ _ _ _ _ _ _ _)
   | (with_reducible exact ih1 _ _ _ _ _ _ _)
   | (with_reducible exact ih2 _ _ _ _ _ _ _)
   | (with_reducible exact ih3 _ _ _ _ _ _ _ _)
   | (with_reducible exact ih4 _ _ _ _ _ _ _ _)
   | (with_reducible exact hash_Pass.mono _ _ _ _ _ _)
   | (with_reducible exact lits_And.mono _ _ _)
   | (with_reducible exact spiritlevelref02_Same.mono _ _ _ _ _ _ _ _ _ _ _)
   | (with_reducible exact LeO.refl _)
   | (with_reducible exact LeO.none _)
   | (with_reducible refine LeO.ite ?_ ?_)
   | (with_reducible refine LeO.bind ?_ (fun _ => ?_))
   | exact ih0 _ _ _ _ _ _ _ _
   | exact ih1 _ _ _ _ _ _ _
   | exact ih2 _ _ _ _ _ _ _
   | exact ih3 _ _ _ _ _ _ _ _
   | exact ih4 _ _ _ _ _ _ _ _
   | exact hash_Pass.mono _ _ _ _ _ _
   | exact lits_And.mono _ _ _
   | exact spiritlevelref02_Same.mono _ _ _ _ _ _ _ _ _ _ _
   | exact LeO.none _
   | refine LeO.ite ?_ ?_
   | refine LeO.bind ?_ (fun _ => ?_)
  ·intro y0 y1 y2 y3 y4 y5 y6 y7
   unfold spiritlevellaw26_HashFew.l1
   repeat' first
   | (with_reducible exact ih0 _ _ _ _ _ _ _ _)
   | (with_reducible exact ih1 _ _ _ _ _ _ _)
   | (with_reducible exact ih2 _ _ _ _ _ _ _)
   | (with_reducible exact ih3 _ _ _ _ _ _ _ _)
   | (with_reducible exact ih4 _ _ _ _ _ _ _ _)
   | (with_reducible exact hash_Pass.mono _ _ _ _ _ _)
   | (with_reducible exact lits_And.mono _ _ _)
   | (with_reducible exact spiritlevelref02_Same.mono _ _ _ _ _ _ _ _ _ _ _)
   | (with_reducible exact LeO.refl _)
   | (with_reducible exact LeO.none _)
   | (with_reducible refine LeO.ite ?_ ?_)
   | (with_reducible refine LeO.bind ?_ (fun _ => ?_))
   | exact ih0 _ _ _ _ _ _ _ _
   | exact ih1 _ _ _ _ _ _ _
   | exact ih2 _ _ _ _ _ _ _
   | exact ih3 _ _ _ _ _ _ _ _
   | exact ih4 _ _ _ _ _ _ _ _
   | exact hash_Pass.mono _ _ _ _ _ _
   | exact lits_And.mono _ _ _
   | exact spiritlevelref02_Same.mono _ _ _ _ _ _ _ _ _ _ _
   | exact LeO.none _
   | refine LeO.ite ?_ ?_
   | refine LeO.bind ?_ (fun _ => ?_)
theorem spiritlevellaw26_HashFew.mono : ∀ a0 a1 a2 a3 a4 a5 k, LeO (spiritlevellaw26_HashFew.f k a0 a1 a2 a3 a4 a5) (spiritlevellaw26_HashFew.f (k + 1) a0 a1 a2 a3 a4 a5) := by
 intro a0 a1 a2 a3 a4 a5 k
 obtain ⟨ih0, ih1, ih2, ih3, ih4⟩ := spiritlevellaw26_HashFew.mono_l k
 unfold spiritlevellaw26_HashFew.f
 repeat' first
   | (with_reducible exact ih0 _ _ _ _ _ _ _ _)
   | (with_reducible exact ih1 _ _ _ _ _ _ _)
   | (with_reducible exact ih2 _ _ _ _ _ _ _)
   | (with_reducible exact ih3 _ _ _ _ _ _ _ _)
   | (with_reducible exact ih4 _ _ _ _ _ _ _ _)
   | (with_reducible exact hash_Pass.mono _ _ _ _ _ _)
   | (with_reducible exact lits_And.mono _ _ _)
   | (with_reducible exact spiritlevelref02_Same.mono _ _ _ _ _ _ _ _ _ _ _)
   | (with_reducible exact LeO.refl _)
   | (with_reducible exact LeO.none _)
   | (with_reducible refine LeO.ite ?_ ?_)
   | (with_reducible refine LeO.bind ?_ (fun _ => ?_))
   | exact ih0 _ _ _ _ _ _ _ _
   | exact ih1 _ _ _ _ _ _ _
   | exact ih2 _ _ _ _ _ _ _
   | exact ih3 _ _ _ _ _ _ _ _
   | exact ih4 _ _ _ _ _ _ _ _
   | exact hash_Pass.mono _ _ _ _ _ _
   | exact lits_And.mono _ _ _
   | exact spiritlevelref02_Same.mono _ _ _ _ _ _ _ _ _ _ _
   | exact LeO.none _
   | refine LeO.ite ?_ ?_
   | refine LeO.bind ?_ (fun _ => ?_)
def spiritlevellaw26_HashFew.T12 : Bool × List (List Nat × List Nat) := (true, [([], []), ([0], [0]), ([], []), ([1, 2], [1, 2]), ([3], [3]), ([4], [4]), ([], []), ([6], [6]), ([], []), ([7, 8], [7, 8]), ([9], [9]), ([10], [10]), ([5, 11], [5, 11]), ([12], [12]), ([13], [13]), ([13], [13]), ([13], [13]), ([14, 12, 0, 1, 2, 3, 4, 5, 6, 7, 8, 9, 10, 11, 12, 13, 14], [14]), ([15, 17, 0, 1, 2, 3, 4, 5, 6, 7, 8, 9, 10, 11, 12, 13, 14, 15, 17], [15]), ([16, 18, 0, 1, 2, 3, 4, 5, 6, 7, 8, 9, 10, 11, 12, 13, 14, 15, 16, 17, 18], [16])])
def spiritlevellaw26_HashFew.B12 : List Nat := [0, 1, 0, 7, 15, 31, 0, 64, 0, 448, 960, 1984, 4095, 8191, 16383, 16383, 16383, 32767, 196607, 524287]
theorem spiritlevellaw26_HashFew.tab12 : rtab .any (opsOf Try.f6 12) = spiritlevellaw26_HashFew.T12 := by kernel_rfl
theorem spiritlevellaw26_HashFew.bits12 : waitsOk spiritlevellaw26_HashFew.T12.2 spiritlevellaw26_HashFew.B12 = true := by kernel_rfl
def spiritlevellaw26_HashFew.T18 : Bool × List (List Nat × List Nat) := (true, [([], []), ([0], [0]), ([], []), ([1, 2], [1, 2]), ([3], [3]), ([], []), ([5], [5]), ([], []), ([6, 7], [6, 7]), ([8], [8]), ([4, 9], [4, 9])])
def spiritlevellaw26_HashFew.B18 : List Nat := [0, 1, 0, 7, 15, 0, 32, 0, 224, 480, 1023]
theorem spiritlevellaw26_HashFew.tab18 : rtab .any (opsOf Try.f6 18) = spiritlevellaw26_HashFew.T18 := by kernel_rfl
theorem spiritlevellaw26_HashFew.bits18 : waitsOk spiritlevellaw26_HashFew.T18.2 spiritlevellaw26_HashFew.B18 = true := by kernel_rfl
set_option maxHeartbeats 8000000 in
set_option maxRecDepth 100000 in
theorem spiritlevellaw26_HashFew.calls (k : Nat) (a0_0 : Int) (A0_1 : Option Addr) (c0_1 : Nat) (l0_1 : List (S86)) (A0_2 : Option Addr) (c0_2 : Nat) (l0_2 : List (S67)) (A0_3 : Option Addr) (c0_3 : Nat) (l0_3 : List Int) (A0_4 : Option Addr) (c0_4 : Nat) (l0_4 : List Int) (A1 : Option Addr) (c1 : Nat) (l1 : List Int) (r : Bool) (w : World) (hr0_1 : Kd.C k86 w A0_1 l0_1.length l0_1) (hc0_1 : l0_1.length ≤ c0_1) (hr0_2 : Kd.C k67 w A0_2 l0_2.length l0_2) (hc0_2 : l0_2.length ≤ c0_2) (hr0_3 : Kd.C (Kd.int .i64) w A0_3 l0_3.length l0_3) (hc0_3 : l0_3.length ≤ c0_3) (hr0_4 : Kd.C (Kd.int .i64) w A0_4 l0_4.length l0_4) (hc0_4 : l0_4.length ≤ c0_4) (hr1 : Kd.C (Kd.int .i64) w A1 l1.length l1) (hc1 : l1.length ≤ c1) (ht_ : r = true) (h : spiritlevellaw26_HashFew.f k a0_0 l0_1 l0_2 l0_3 l0_4 l1 = some r) :
  Calls Try.prog 6 #[.agg #[.int .i64 a0_0, .slice A0_1 l0_1.length c0_1, .slice A0_2 l0_2.length c0_2, .slice A0_3 l0_3.length c0_3, .slice A0_4 l0_4.length c0_4], .slice A1 l1.length c1] w fun e w' => e = .returned (.bool r) ∧ Below w.heap.size w w' := by
 have HTR_ := M_ ht_
 clear ht_
 have hu26 := Try.underlying26
 have hu67 := Try.underlying67
 have hu55 := Try.underlying55
 have HR0_1 := M_ hr0_1
 have HC0_1 := M_ hc0_1
 clear hr0_1 hc0_1
 have HR0_2 := M_ hr0_2
 have HC0_2 := M_ hc0_2
 clear hr0_2 hc0_2
 have HR0_3 := M_ hr0_3
 have HC0_3 := M_ hc0_3
 clear hr0_3 hc0_3
 have HR0_4 := M_ hr0_4
 have HC0_4 := M_ hc0_4
 clear hr0_4 hc0_4
 have HR1 := M_ hr1
 have HC1 := M_ hc1
 clear hr1 hc1
 have HB := M_ (Below.refl w.heap.size w)
 have H : ((spiritlevellaw26_alive.f).bind fun t233 => ((spiritlevelref02_Great.f a0_0 l0_1 l0_2 l0_3 l0_4).bind fun t234 => (if t234 = true then (spiritlevellaw26_HashFew.j0 k l1 t233 true a0_0 l0_1 l0_2 l0_3 l0_4) else (if (l1.length : Int) > 1300 then (spiritlevellaw26_HashFew.j0 k l1 t233 true a0_0 l0_1 l0_2 l0_3 l0_4) else (spiritlevellaw26_HashFew.j0 k l1 t233 (!t233) a0_0 l0_1 l0_2 l0_3 l0_4))))) = some r := h
 clear h
 replace H := Option.bind_eq_some_iff.mp H
 obtain ⟨t233, A30, H⟩ := H
 replace H : ((spiritlevelref02_Great.f a0_0 l0_1 l0_2 l0_3 l0_4).bind fun t234 => (if t234 = true then (spiritlevellaw26_HashFew.j0 k l1 t233 true a0_0 l0_1 l0_2 l0_3 l0_4) else (if (l1.length : Int) > 1300 then (spiritlevellaw26_HashFew.j0 k l1 t233 true a0_0 l0_1 l0_2 l0_3 l0_4) else (spiritlevellaw26_HashFew.j0 k l1 t233 (!t233) a0_0 l0_1 l0_2 l0_3 l0_4)))) = some r := H
 have A3 := M_ A30
 clear A30
 have HC4 := M_ H
 clear H
 go_enter Try.func6, Try.ntmps6
 go_upto_region 2 with (first | ((with_reducible refine gate_dst (N := 2) rfl ?_); (try (refine gate_guard (by rfl) ?_; dsimp only)); refine box_event ?hg (N := 2) ?hd (cs := #[.int .i64 a0_0, .slice A0_1 l0_1.length c0_1, .slice A0_2 l0_2.length c0_2, .slice A0_3 l0_3.length c0_3, .slice A0_4 l0_4.length c0_4]) (t := 26) ?hr ?_; (case hd => rfl); (case hg => rfl); (case hr => first | (go_simp; done) | (go_simp; rfl)); intro gb232 hg w5 hbox hb; have n0_ := M_ (below_step (by repeat (first | (with_reducible first | exact HB.out | apply b0_ | apply b1_ | apply b2_) | exact HB.out)) hb); have n1_ := M_ (hbox); have n2_ := M_ ((by rw [hg]; exact (below_size (by repeat (first | (with_reducible first | exact HB.out | apply b0_ | apply b1_ | apply b2_) | exact HB.out))) : w.heap.size ≤ gb232)); have n3_ := M_ ((by rw [hg]; exact (below_size (by repeat (first | (with_reducible first | exact HB.out | apply b0_ | apply b1_ | apply b2_) | exact HB.out))) : w.heap.size ≤ gb232)); clear HB; have HB := n0_; have BK232 := n1_; have GW232 := n2_; have GE232 := n3_; clear n0_ n1_ n2_ n3_; clear hb hbox hg) | ((with_reducible refine gate_callee (f := 12) rfl ?_); refine goesL_ (some 16) rfl rfl Try.func12 (by kernel_rfl) rfl #[] rfl (by (try simp only [List.map_toArray, List.map_cons, List.map_nil]); first | done | rfl | (simp only [List.length_drop, List.length_take]; rfl)) ?_; (with_reducible refine (spiritlevellaw26_alive.calls  t233 _ A3.out).mono ?_); rintro e w6 ⟨rfl, hb⟩; refine ⟨_, rfl, ?_⟩; have n0_ := M_ (blk_below (g := gb232) (o := .cells #[.int .i64 a0_0, .slice A0_1 l0_1.length c0_1, .slice A0_2 l0_2.length c0_2, .slice A0_3 l0_3.length c0_3, .slice A0_4 l0_4.length c0_4] 26 (0, 0)) (by (with_reducible repeat (first | refine blk_drewN ?_ _ | refine blk_drew ?_ | refine blk_alloc ?_ _)); exact BK232.out) hb); have n1_ := M_ (below_step (by repeat (first | (with_reducible first | exact HB.out | apply b0_ | apply b1_ | apply b2_ | refine below_set ?_ GE232.out) | exact HB.out)) hb); clear BK232; clear HB; have BK232 := n0_; have HB := n1_; clear n0_ n1_; (try clear hb); (try clear hb2); (try clear hk); (try clear hi)))
 (try simp only [Act.put, e1_, e2_, e3_])
 go_cut [27] (fun v27 wc => ∃ (kq : Nat) (x27_3 : Bool), v27 = .bool x27_3 ∧ Aside0 (spiritlevellaw26_HashFew.j0 kq l1 t233 x27_3 a0_0 l0_1 l0_2 l0_3 l0_4 = some r) ∧ Aside0 (kq ≤ k) ∧ Aside0 (wc.heap[gb232]? = some (.cells #[.int .i64 a0_0, (.slice A0_1 l0_1.length c0_1), (.slice A0_2 l0_2.length c0_2), (.slice A0_3 l0_3.length c0_3), (.slice A0_4 l0_4.length c0_4)] 26 (0, 0))) ∧ Aside0 (Below w.heap.size w wc))
 case first =>
  have H := HC4.out
  clear HC4
  replace H := Option.bind_eq_some_iff.mp H
  obtain ⟨t234, A70, H⟩ := H
  replace H : (if t234 = true then (spiritlevellaw26_HashFew.j0 k l1 t233 true a0_0 l0_1 l0_2 l0_3 l0_4) else (if (l1.length : Int) > 1300 then (spiritlevellaw26_HashFew.j0 k l1 t233 true a0_0 l0_1 l0_2 l0_3 l0_4) else (spiritlevellaw26_HashFew.j0 k l1 t233 (!t233) a0_0 l0_1 l0_2 l0_3 l0_4))) = some r := H
  have A7 := M_ A70
  clear A70
  by_cases c8 : t234 = true
  ·subst c8
   have H1 : (spiritlevellaw26_HashFew.j0 k l1 t233 true a0_0 l0_1 l0_2 l0_3 l0_4) = some r := by rw [if_pos rfl] at H; exact H
   clear H
   have H := H1
   clear H1
   have H' := M_ H
   clear H
   have hcz9_0 : w6.cell? ⟨gb232, 0, none⟩ = some (.int .i64 a0_0) := (blk_cell BK232.out 0).trans rfl
   have hcz9_1 : w6.cell? ⟨gb232, 1, none⟩ = some (.slice A0_1 l0_1.length c0_1) := (blk_cell BK232.out 1).trans rfl
   have hcz9_2 : w6.cell? ⟨gb232, 2, none⟩ = some (.slice A0_2 l0_2.length c0_2) := (blk_cell BK232.out 2).trans rfl
   have hcz9_3 : w6.cell? ⟨gb232, 3, none⟩ = some (.slice A0_3 l0_3.length c0_3) := (blk_cell BK232.out 3).trans rfl
   have hcz9_4 : w6.cell? ⟨gb232, 4, none⟩ = some (.slice A0_4 l0_4.length c0_4) := (blk_cell BK232.out 4).trans rfl
   have hfz9_0 := blk_frozen BK232.out 0
   have hfz9_1 := blk_frozen BK232.out 1
   have hfz9_2 := blk_frozen BK232.out 2
   have hfz9_3 := blk_frozen BK232.out 3
   have hfz9_4 := blk_frozen BK232.out 4
   go_wp2_with (first | ((with_reducible refine gate_callee (f := 8) rfl ?_); refine goesL_ (some 18) rfl rfl Try.func8 (by kernel_rfl) rfl #[.agg #[.int .i64 a0_0, .slice A0_1 l0_1.length c0_1, .slice A0_2 l0_2.length c0_2, .slice A0_3 l0_3.length c0_3, .slice A0_4 l0_4.length c0_4]] rfl (by (try simp only [List.map_toArray, List.map_cons, List.map_nil]); first | done | rfl | (simp only [List.length_drop, List.length_take]; rfl)) ?_; (with_reducible refine (spiritlevelref02_Great.calls a0_0 _ _ l0_1 _ _ l0_2 _ _ l0_3 _ _ l0_4 true _ ?side1 ?side2 ?side3 ?side4 ?side5 ?side6 ?side7 ?side8 A7.out).mono ?_); (case side1 => repeat (first | exact (Kd.C_below HR0_1.out HB.out) | (with_reducible refine c0_ ?_ _) | (with_reducible refine c1_ ?_ _) | (with_reducible refine c2_ ?_))); (case side2 => exact HC0_1.out); (case side3 => repeat (first | exact (Kd.C_below HR0_2.out HB.out) | (with_reducible refine c0_ ?_ _) | (with_reducible refine c1_ ?_ _) | (with_reducible refine c2_ ?_))); (case side4 => exact HC0_2.out); (case side5 => repeat (first | exact (Kd.C_below HR0_3.out HB.out) | (with_reducible refine c0_ ?_ _) | (with_reducible refine c1_ ?_ _) | (with_reducible refine c2_ ?_))); (case side6 => exact HC0_3.out); (case side7 => repeat (first | exact (Kd.C_below HR0_4.out HB.out) | (with_reducible refine c0_ ?_ _) | (with_reducible refine c1_ ?_ _) | (with_reducible refine c2_ ?_))); (case side8 => exact HC0_4.out); rintro e w10 ⟨rfl, hb⟩; refine ⟨_, rfl, ?_⟩; have n0_ := M_ (blk_below (g := gb232) (o := .cells #[.int .i64 a0_0, .slice A0_1 l0_1.length c0_1, .slice A0_2 l0_2.length c0_2, .slice A0_3 l0_3.length c0_3, .slice A0_4 l0_4.length c0_4] 26 (0, 0)) (by (with_reducible repeat (first | refine blk_drewN ?_ _ | refine blk_drew ?_ | refine blk_alloc ?_ _)); exact BK232.out) hb); have n1_ := M_ (below_step (by repeat (first | (with_reducible first | exact HB.out | apply b0_ | apply b1_ | apply b2_ | refine below_set ?_ GE232.out) | exact HB.out)) hb); clear BK232; clear HB; have BK232 := n0_; have HB := n1_; clear n0_ n1_; (try clear hb); (try clear hb2); (try clear hk); (try clear hi)))
   go_meet
   case rel => exact ⟨_, (true), (by first | rfl | (simp; done) | (simp [*]; done)), H', ⟨by first | omega | exact Nat.le_refl _⟩, ⟨by (with_reducible repeat (first | refine blk_drewN ?_ _ | refine blk_drew ?_ | refine blk_alloc ?_ _)); exact BK232.out⟩, ⟨by repeat (first | (with_reducible first | exact HB.out | apply b0_ | apply b1_ | apply b2_ | refine below_set ?_ GE232.out) | exact HB.out)⟩⟩
  ·replace c8 := Bool.eq_false_iff.mpr c8
   subst c8
   have H1 : (if (l1.length : Int) > 1300 then (spiritlevellaw26_HashFew.j0 k l1 t233 true a0_0 l0_1 l0_2 l0_3 l0_4) else (spiritlevellaw26_HashFew.j0 k l1 t233 (!t233) a0_0 l0_1 l0_2 l0_3 l0_4)) = some r := by rw [if_neg (show ¬ (false = true) by decide)] at H; exact H
   clear H
   have H := H1
   clear H1
   by_cases c11 : (l1.length : Int) > 1300
   ·rw [if_pos c11] at H
    have c11b0 : decide (1300 < (l1.length : Int)) = true := decide_eq_true c11
    have c11b1 : decide (1300 < l1.length) = true := decide_eq_true (by omega)
    clear c11
    (first | rw [c11b0] | (simp only [i64_w, i32_w]; rw [c11b0]) | skip)
    have H' := M_ H
    clear H
    have hcz12_0 : w6.cell? ⟨gb232, 0, none⟩ = some (.int .i64 a0_0) := (blk_cell BK232.out 0).trans rfl
    have hcz12_1 : w6.cell? ⟨gb232, 1, none⟩ = some (.slice A0_1 l0_1.length c0_1) := (blk_cell BK232.out 1).trans rfl
    have hcz12_2 : w6.cell? ⟨gb232, 2, none⟩ = some (.slice A0_2 l0_2.length c0_2) := (blk_cell BK232.out 2).trans rfl
    have hcz12_3 : w6.cell? ⟨gb232, 3, none⟩ = some (.slice A0_3 l0_3.length c0_3) := (blk_cell BK232.out 3).trans rfl
    have hcz12_4 : w6.cell? ⟨gb232, 4, none⟩ = some (.slice A0_4 l0_4.length c0_4) := (blk_cell BK232.out 4).trans rfl
    have hfz12_0 := blk_frozen BK232.out 0
    have hfz12_1 := blk_frozen BK232.out 1
    have hfz12_2 := blk_frozen BK232.out 2
    have hfz12_3 := blk_frozen BK232.out 3
    have hfz12_4 := blk_frozen BK232.out 4
    go_wp2_with (first | ((with_reducible refine gate_callee (f := 8) rfl ?_); refine goesL_ (some 18) rfl rfl Try.func8 (by kernel_rfl) rfl #[.agg #[.int .i64 a0_0, .slice A0_1 l0_1.length c0_1, .slice A0_2 l0_2.length c0_2, .slice A0_3 l0_3.length c0_3, .slice A0_4 l0_4.length c0_4]] rfl (by (try simp only [List.map_toArray, List.map_cons, List.map_nil]); first | done | rfl | (simp only [List.length_drop, List.length_take]; rfl)) ?_; (with_reducible refine (spiritlevelref02_Great.calls a0_0 _ _ l0_1 _ _ l0_2 _ _ l0_3 _ _ l0_4 false _ ?side1 ?side2 ?side3 ?side4 ?side5 ?side6 ?side7 ?side8 A7.out).mono ?_); (case side1 => repeat (first | exact (Kd.C_below HR0_1.out HB.out) | (with_reducible refine c0_ ?_ _) | (with_reducible refine c1_ ?_ _) | (with_reducible refine c2_ ?_))); (case side2 => exact HC0_1.out); (case side3 => repeat (first | exact (Kd.C_below HR0_2.out HB.out) | (with_reducible refine c0_ ?_ _) | (with_reducible refine c1_ ?_ _) | (with_reducible refine c2_ ?_))); (case side4 => exact HC0_2.out); (case side5 => repeat (first | exact (Kd.C_below HR0_3.out HB.out) | (with_reducible refine c0_ ?_ _) | (with_reducible refine c1_ ?_ _) | (with_reducible refine c2_ ?_))); (case side6 => exact HC0_3.out); (case side7 => repeat (first | exact (Kd.C_below HR0_4.out HB.out) | (with_reducible refine c0_ ?_ _) | (with_reducible refine c1_ ?_ _) | (with_reducible refine c2_ ?_))); (case side8 => exact HC0_4.out); rintro e w13 ⟨rfl, hb⟩; refine ⟨_, rfl, ?_⟩; have n0_ := M_ (blk_below (g := gb232) (o := .cells #[.int .i64 a0_0, .slice A0_1 l0_1.length c0_1, .slice A0_2 l0_2.length c0_2, .slice A0_3 l0_3.length c0_3, .slice A0_4 l0_4.length c0_4] 26 (0, 0)) (by (with_reducible repeat (first | refine blk_drewN ?_ _ | refine blk_drew ?_ | refine blk_alloc ?_ _)); exact BK232.out) hb); have n1_ := M_ (below_step (by repeat (first | (with_reducible first | exact HB.out | apply b0_ | apply b1_ | apply b2_ | refine below_set ?_ GE232.out) | exact HB.out)) hb); clear BK232; clear HB; have BK232 := n0_; have HB := n1_; clear n0_ n1_; (try clear hb); (try clear hb2); (try clear hk); (try clear hi)))
    go_meet
    case rel => exact ⟨_, (true), (by first | rfl | (simp; done) | (simp [*]; done)), H', ⟨by first | omega | exact Nat.le_refl _⟩, ⟨by (with_reducible repeat (first | refine blk_drewN ?_ _ | refine blk_drew ?_ | refine blk_alloc ?_ _)); exact BK232.out⟩, ⟨by repeat (first | (with_reducible first | exact HB.out | apply b0_ | apply b1_ | apply b2_ | refine below_set ?_ GE232.out) | exact HB.out)⟩⟩
   ·rw [if_neg c11] at H
    have c11b0 : decide (1300 < (l1.length : Int)) = false := decide_eq_false c11
    have c11b1 : decide (1300 < l1.length) = false := decide_eq_false (by omega)
    clear c11
    (first | rw [c11b0] | (simp only [i64_w, i32_w]; rw [c11b0]) | skip)
    have H' := M_ H
    clear H
    have hcz14_0 : w6.cell? ⟨gb232, 0, none⟩ = some (.int .i64 a0_0) := (blk_cell BK232.out 0).trans rfl
    have hcz14_1 : w6.cell? ⟨gb232, 1, none⟩ = some (.slice A0_1 l0_1.length c0_1) := (blk_cell BK232.out 1).trans rfl
    have hcz14_2 : w6.cell? ⟨gb232, 2, none⟩ = some (.slice A0_2 l0_2.length c0_2) := (blk_cell BK232.out 2).trans rfl
    have hcz14_3 : w6.cell? ⟨gb232, 3, none⟩ = some (.slice A0_3 l0_3.length c0_3) := (blk_cell BK232.out 3).trans rfl
    have hcz14_4 : w6.cell? ⟨gb232, 4, none⟩ = some (.slice A0_4 l0_4.length c0_4) := (blk_cell BK232.out 4).trans rfl
    have hfz14_0 := blk_frozen BK232.out 0
    have hfz14_1 := blk_frozen BK232.out 1
    have hfz14_2 := blk_frozen BK232.out 2
    have hfz14_3 := blk_frozen BK232.out 3
    have hfz14_4 := blk_frozen BK232.out 4
    go_wp2_with (first | ((with_reducible refine gate_callee (f := 8) rfl ?_); refine goesL_ (some 18) rfl rfl Try.func8 (by kernel_rfl) rfl #[.agg #[.int .i64 a0_0, .slice A0_1 l0_1.length c0_1, .slice A0_2 l0_2.length c0_2, .slice A0_3 l0_3.length c0_3, .slice A0_4 l0_4.length c0_4]] rfl (by (try simp only [List.map_toArray, List.map_cons, List.map_nil]); first | done | rfl | (simp only [List.length_drop, List.length_take]; rfl)) ?_; (with_reducible refine (spiritlevelref02_Great.calls a0_0 _ _ l0_1 _ _ l0_2 _ _ l0_3 _ _ l0_4 false _ ?side1 ?side2 ?side3 ?side4 ?side5 ?side6 ?side7 ?side8 A7.out).mono ?_); (case side1 => repeat (first | exact (Kd.C_below HR0_1.out HB.out) | (with_reducible refine c0_ ?_ _) | (with_reducible refine c1_ ?_ _) | (with_reducible refine c2_ ?_))); (case side2 => exact HC0_1.out); (case side3 => repeat (first | exact (Kd.C_below HR0_2.out HB.out) | (with_reducible refine c0_ ?_ _) | (with_reducible refine c1_ ?_ _) | (with_reducible refine c2_ ?_))); (case side4 => exact HC0_2.out); (case side5 => repeat (first | exact (Kd.C_below HR0_3.out HB.out) | (with_reducible refine c0_ ?_ _) | (with_reducible refine c1_ ?_ _) | (with_reducible refine c2_ ?_))); (case side6 => exact HC0_3.out); (case side7 => repeat (first | exact (Kd.C_below HR0_4.out HB.out) | (with_reducible refine c0_ ?_ _) | (with_reducible refine c1_ ?_ _) | (with_reducible refine c2_ ?_))); (case side8 => exact HC0_4.out); rintro e w15 ⟨rfl, hb⟩; refine ⟨_, rfl, ?_⟩; have n0_ := M_ (blk_below (g := gb232) (o := .cells #[.int .i64 a0_0, .slice A0_1 l0_1.length c0_1, .slice A0_2 l0_2.length c0_2, .slice A0_3 l0_3.length c0_3, .slice A0_4 l0_4.length c0_4] 26 (0, 0)) (by (with_reducible repeat (first | refine blk_drewN ?_ _ | refine blk_drew ?_ | refine blk_alloc ?_ _)); exact BK232.out) hb); have n1_ := M_ (below_step (by repeat (first | (with_reducible first | exact HB.out | apply b0_ | apply b1_ | apply b2_ | refine below_set ?_ GE232.out) | exact HB.out)) hb); clear BK232; clear HB; have BK232 := n0_; have HB := n1_; clear n0_ n1_; (try clear hb); (try clear hb2); (try clear hk); (try clear hi)))
    go_meet
    case rel => exact ⟨_, (!t233), (by first | rfl | (simp; done) | (simp [*]; done)), H', ⟨by first | omega | exact Nat.le_refl _⟩, ⟨by (with_reducible repeat (first | refine blk_drewN ?_ _ | refine blk_drew ?_ | refine blk_alloc ?_ _)); exact BK232.out⟩, ⟨by repeat (first | (with_reducible first | exact HB.out | apply b0_ | apply b1_ | apply b2_ | refine below_set ?_ GE232.out) | exact HB.out)⟩⟩
 case rest =>
  clear HC4
  try clear c1
  try clear p2
  try clear c6
  try clear c8
  try clear c11
  try clear c11b0
  try clear c11b1
  try clear c12
  try clear hcz12_0
  try clear hcz12_1
  try clear hcz12_2
  try clear hcz12_3
  try clear hcz12_4
  try clear hcz14_0
  try clear hcz14_1
  try clear hcz14_2
  try clear hcz14_3
  try clear hcz14_4
  try clear hcz9_0
  try clear hcz9_1
  try clear hcz9_2
  try clear hcz9_3
  try clear hcz9_4
  try clear hfz12_0
  try clear hfz12_1
  try clear hfz12_2
  try clear hfz12_3
  try clear hfz12_4
  try clear hfz14_0
  try clear hfz14_1
  try clear hfz14_2
  try clear hfz14_3
  try clear hfz14_4
  try clear hfz9_0
  try clear hfz9_1
  try clear hfz9_2
  try clear hfz9_3
  try clear hfz9_4
  obtain ⟨kq, x27_3, rfl, HA, HJ3, BK232, HB⟩ := hcut
  cases kq with
  | zero => exact absurd HA.out (by simp [spiritlevellaw26_HashFew.j0])
  | succ kj3 =>
   have H := HA.out
   clear HA
   simp only [spiritlevellaw26_HashFew.j0] at H
   by_cases c16 : x27_3 = true
   ·subst c16
    have H1 : (some t233) = some r := by rw [if_pos rfl] at H; exact H
    clear H
    have H := H1
    clear H1
    obtain rfl := Option.some.inj H
    go_wp2
    go_ret
    exact ⟨by first | rfl | (simp [errW_none, errW_some] <;> rfl) | (simp [*, errW_none, errW_some] <;> rfl), by repeat (first | (with_reducible first | exact HB.out | apply b0_ | apply b1_ | apply b2_ | refine below_set ?_ GE232.out) | exact HB.out)⟩
   ·replace c16 := Bool.eq_false_iff.mpr c16
    subst c16
    have H1 : ((hash_Build.f a0_0 l0_1 l0_2 l0_3 l0_4 l1).bind fun bt235 => (if bt235.2.2.2.2.2.2 = 0 then ((gates_Check.f bt235.1 bt235.2.1 bt235.2.2.1 bt235.2.2.2.1 bt235.2.2.2.2.1).bind fun t253 => (if t253 = 0 then (if (bt235.2.2.1.length : Int) > (l0_2.length : Int) then (spiritlevellaw26_HashFew.j1 kj3 t233 true bt235.1 bt235.2.1 bt235.2.2.1 bt235.2.2.2.1 bt235.2.2.2.2.1) else (if bt235.1 = a0_0 then (spiritlevellaw26_HashFew.j1 kj3 t233 ((bt235.2.1.length : Int) != (l0_1.length : Int)) bt235.1 bt235.2.1 bt235.2.2.1 bt235.2.2.2.1 bt235.2.2.2.2.1) else (spiritlevellaw26_HashFew.j1 kj3 t233 true bt235.1 bt235.2.1 bt235.2.2.1 bt235.2.2.2.1 bt235.2.2.2.2.1))) else (spiritlevellaw26_HashFew.j1 kj3 t233 true bt235.1 bt235.2.1 bt235.2.2.1 bt235.2.2.2.1 bt235.2.2.2.2.1))) else (some t233))) = some r := by rw [if_neg (show ¬ (false = true) by decide)] at H; exact H
    clear H
    have H := H1
    clear H1
    replace H := Option.bind_eq_some_iff.mp H
    obtain ⟨⟨t235, t236, t239, t242, t245, t248, t251⟩, A170, H⟩ := H
    replace H : (if t251 = 0 then ((gates_Check.f t235 t236 t239 t242 t245).bind fun t253 => (if t253 = 0 then (if (t239.length : Int) > (l0_2.length : Int) then (spiritlevellaw26_HashFew.j1 kj3 t233 true t235 t236 t239 t242 t245) else (if t235 = a0_0 then (spiritlevellaw26_HashFew.j1 kj3 t233 ((t236.length : Int) != (l0_1.length : Int)) t235 t236 t239 t242 t245) else (spiritlevellaw26_HashFew.j1 kj3 t233 true t235 t236 t239 t242 t245))) else (spiritlevellaw26_HashFew.j1 kj3 t233 true t235 t236 t239 t242 t245))) else (some t233)) = some r := H
    have A17 := M_ A170
    clear A170
    by_cases c18 : t251 = 0
    ·rw [if_pos c18] at H
     have c18b0 : (t251 == 0) = true := beq_iff_eq.mpr c18
     have c18b1 : (t251 != 0) = false := bne_eq_false_iff_eq.mpr c18
     clear c18
     have HC19 := M_ H
     clear H
     have hcz20_0 : wc.cell? ⟨gb232, 0, none⟩ = some (.int .i64 a0_0) := (blk_cell BK232.out 0).trans rfl
     have hcz20_1 : wc.cell? ⟨gb232, 1, none⟩ = some (.slice A0_1 l0_1.length c0_1) := (blk_cell BK232.out 1).trans rfl
     have hcz20_2 : wc.cell? ⟨gb232, 2, none⟩ = some (.slice A0_2 l0_2.length c0_2) := (blk_cell BK232.out 2).trans rfl
     have hcz20_3 : wc.cell? ⟨gb232, 3, none⟩ = some (.slice A0_3 l0_3.length c0_3) := (blk_cell BK232.out 3).trans rfl
     have hcz20_4 : wc.cell? ⟨gb232, 4, none⟩ = some (.slice A0_4 l0_4.length c0_4) := (blk_cell BK232.out 4).trans rfl
     have hfz20_0 := blk_frozen BK232.out 0
     have hfz20_1 := blk_frozen BK232.out 1
     have hfz20_2 := blk_frozen BK232.out 2
     have hfz20_3 := blk_frozen BK232.out 3
     have hfz20_4 := blk_frozen BK232.out 4
     go_upto_region 7 with (first | ((with_reducible refine gate_callee (f := 18) rfl ?_); refine goesL_ (some 32) rfl rfl Try.func18 (by kernel_rfl) rfl #[.agg #[.int .i64 a0_0, .slice A0_1 l0_1.length c0_1, .slice A0_2 l0_2.length c0_2, .slice A0_3 l0_3.length c0_3, .slice A0_4 l0_4.length c0_4], .slice A1 l1.length c1] rfl (by (try simp only [List.map_toArray, List.map_cons, List.map_nil]); first | done | rfl | (simp only [List.length_drop, List.length_take]; rfl)) ?_; (with_reducible refine (hash_Build.calls a0_0 _ _ l0_1 _ _ l0_2 _ _ l0_3 _ _ l0_4 _ _ l1 t235 t236 t239 t242 t245 t248 t251 _ ?side1 ?side2 ?side3 ?side4 ?side5 ?side6 ?side7 ?side8 ?side9 ?side10 A17.out).mono ?_); (case side1 => repeat (first | exact (Kd.C_below HR0_1.out HB.out) | (with_reducible refine c0_ ?_ _) | (with_reducible refine c1_ ?_ _) | (with_reducible refine c2_ ?_))); (case side2 => exact HC0_1.out); (case side3 => repeat (first | exact (Kd.C_below HR0_2.out HB.out) | (with_reducible refine c0_ ?_ _) | (with_reducible refine c1_ ?_ _) | (with_reducible refine c2_ ?_))); (case side4 => exact HC0_2.out); (case side5 => repeat (first | exact (Kd.C_below HR0_3.out HB.out) | (with_reducible refine c0_ ?_ _) | (with_reducible refine c1_ ?_ _) | (with_reducible refine c2_ ?_))); (case side6 => exact HC0_3.out); (case side7 => repeat (first | exact (Kd.C_below HR0_4.out HB.out) | (with_reducible refine c0_ ?_ _) | (with_reducible refine c1_ ?_ _) | (with_reducible refine c2_ ?_))); (case side8 => exact HC0_4.out); (case side9 => repeat (first | exact (Kd.C_below HR1.out HB.out) | (with_reducible refine c0_ ?_ _) | (with_reducible refine c1_ ?_ _) | (with_reducible refine c2_ ?_))); (case side10 => exact HC1.out); rintro e w21 ⟨v237, v240, v243, v246, v249, rfl, ho0, ho1, ho2, ho3, ho4, hb⟩; refine ⟨_, rfl, ?_⟩; have n0_ := M_ (Kd.R_lower ho0 (below_size (by repeat (first | (with_reducible first | exact HB.out | apply b0_ | apply b1_ | apply b2_ | refine below_set ?_ GE232.out) | exact HB.out)))); have n1_ := M_ (Kd.R_lower ho1 (below_size (by repeat (first | (with_reducible first | exact HB.out | apply b0_ | apply b1_ | apply b2_ | refine below_set ?_ GE232.out) | exact HB.out)))); have n2_ := M_ (Kd.R_lower ho2 (below_size (by repeat (first | (with_reducible first | exact HB.out | apply b0_ | apply b1_ | apply b2_ | refine below_set ?_ GE232.out) | exact HB.out)))); have n3_ := M_ (Kd.R_lower ho3 (below_size (by repeat (first | (with_reducible first | exact HB.out | apply b0_ | apply b1_ | apply b2_ | refine below_set ?_ GE232.out) | exact HB.out)))); have n4_ := M_ (Kd.R_lower ho4 (below_size (by repeat (first | (with_reducible first | exact HB.out | apply b0_ | apply b1_ | apply b2_ | refine below_set ?_ GE232.out) | exact HB.out)))); have n5_ := M_ (blk_below (g := gb232) (o := .cells #[.int .i64 a0_0, .slice A0_1 l0_1.length c0_1, .slice A0_2 l0_2.length c0_2, .slice A0_3 l0_3.length c0_3, .slice A0_4 l0_4.length c0_4] 26 (0, 0)) (by (with_reducible repeat (first | refine blk_drewN ?_ _ | refine blk_drew ?_ | refine blk_alloc ?_ _)); exact BK232.out) hb); have n6_ := M_ (below_step (by repeat (first | (with_reducible first | exact HB.out | apply b0_ | apply b1_ | apply b2_ | refine below_set ?_ GE232.out) | exact HB.out)) hb); clear BK232; clear HB; have HO238 := n0_; have HO241 := n1_; have HO244 := n2_; have HO247 := n3_; have HO250 := n4_; have BK232 := n5_; have HB := n6_; clear n0_ n1_ n2_ n3_ n4_ n5_ n6_; (try clear hb); (try clear hb2); (try clear hk); (try clear hi); (try clear ho0); (try clear ho1); (try clear ho2); (try clear ho3); (try clear ho4)) | ((with_reducible refine gate_dst (N := 6) rfl ?_); (try (refine gate_guard (by rfl) ?_; dsimp only)); refine box_event ?hg (N := 6) ?hd (cs := #[.int .i64 0, .slice none 0 0, .slice none 0 0, .slice none 0 0, .slice none 0 0]) (t := 26) ?hr ?_; (case hd => rfl); (case hg => rfl); (case hr => first | (go_simp; done) | (go_simp; rfl)); intro gb252 hg w22 hbox hb; have n0_ := M_ (Kd.R_below (by (with_reducible repeat (first | apply a0_ | apply a1_ | apply a2_)); exact HO238.out) hb); have n1_ := M_ (Kd.R_below (by (with_reducible repeat (first | apply a0_ | apply a1_ | apply a2_)); exact HO241.out) hb); have n2_ := M_ (Kd.R_below (by (with_reducible repeat (first | apply a0_ | apply a1_ | apply a2_)); exact HO244.out) hb); have n3_ := M_ (Kd.R_below (by (with_reducible repeat (first | apply a0_ | apply a1_ | apply a2_)); exact HO247.out) hb); have n4_ := M_ (Kd.R_below (by (with_reducible repeat (first | apply a0_ | apply a1_ | apply a2_)); exact HO250.out) hb); have n5_ := M_ (blk_below (g := gb232) (o := .cells #[.int .i64 a0_0, .slice A0_1 l0_1.length c0_1, .slice A0_2 l0_2.length c0_2, .slice A0_3 l0_3.length c0_3, .slice A0_4 l0_4.length c0_4] 26 (0, 0)) (by (with_reducible repeat (first | refine blk_drewN ?_ _ | refine blk_drew ?_ | refine blk_alloc ?_ _)); exact BK232.out) hb); have n6_ := M_ (below_step (by repeat (first | (with_reducible first | exact HB.out | apply b0_ | apply b1_ | apply b2_ | refine below_set ?_ GE232.out) | exact HB.out)) hb); have n7_ := M_ (hbox); have n8_ := M_ ((by rw [hg]; exact (below_size (by repeat (first | (with_reducible first | exact HB.out | apply b0_ | apply b1_ | apply b2_ | refine below_set ?_ GE232.out) | exact HB.out))) : w.heap.size ≤ gb252)); have n9_ := M_ ((by rw [hg]; exact (below_size (by repeat (first | (with_reducible first | exact HB.out | apply b0_ | apply b1_ | apply b2_ | refine below_set ?_ GE232.out) | exact HB.out))) : w.heap.size ≤ gb252)); have n10_ := M_ ((by rw [hg]; exact Nat.ne_of_lt (blk_lt (g := gb232) (o := .cells #[.int .i64 a0_0, .slice A0_1 l0_1.length c0_1, .slice A0_2 l0_2.length c0_2, .slice A0_3 l0_3.length c0_3, .slice A0_4 l0_4.length c0_4] 26 (0, 0)) (by (with_reducible repeat (first | refine blk_drewN ?_ _ | refine blk_drew ?_ | refine blk_alloc ?_ _)); exact BK232.out)) : gb232 ≠ gb252)); have n11_ := M_ ((by rw [hg]; exact Nat.ne_of_gt (blk_lt (g := gb232) (o := .cells #[.int .i64 a0_0, .slice A0_1 l0_1.length c0_1, .slice A0_2 l0_2.length c0_2, .slice A0_3 l0_3.length c0_3, .slice A0_4 l0_4.length c0_4] 26 (0, 0)) (by (with_reducible repeat (first | refine blk_drewN ?_ _ | refine blk_drew ?_ | refine blk_alloc ?_ _)); exact BK232.out)) : gb252 ≠ gb232)); clear HO238; clear HO241; clear HO244; clear HO247; clear HO250; clear BK232; clear HB; have HO238 := n0_; have HO241 := n1_; have HO244 := n2_; have HO247 := n3_; have HO250 := n4_; have BK232 := n5_; have HB := n6_; have BK252 := n7_; have GW252 := n8_; have GE252 := n9_; have NB232_252 := n10_; have NB252_232 := n11_; clear n0_ n1_ n2_ n3_ n4_ n5_ n6_ n7_ n8_ n9_ n10_ n11_; clear hb hbox hg; have hnb23 := NB252_232.out; have hnc23 := NB232_252.out; have hcz24_0 : w22.cell? ⟨gb252, 0, none⟩ = some (.int .i64 0) := (blk_cell BK252.out 0).trans rfl; have hcz24_1 : w22.cell? ⟨gb252, 1, none⟩ = some (.slice none 0 0) := (blk_cell BK252.out 1).trans rfl; have hcz24_2 : w22.cell? ⟨gb252, 2, none⟩ = some (.slice none 0 0) := (blk_cell BK252.out 2).trans rfl; have hcz24_3 : w22.cell? ⟨gb252, 3, none⟩ = some (.slice none 0 0) := (blk_cell BK252.out 3).trans rfl; have hcz24_4 : w22.cell? ⟨gb252, 4, none⟩ = some (.slice none 0 0) := (blk_cell BK252.out 4).trans rfl; have hfz24_0 := blk_frozen BK252.out 0; have hfz24_1 := blk_frozen BK252.out 1; have hfz24_2 := blk_frozen BK252.out 2; have hfz24_3 := blk_frozen BK252.out 3; have hfz24_4 := blk_frozen BK252.out 4; obtain ⟨Ao25, co25, eo25⟩ := Kd.R_slice HO238.out; subst eo25; obtain ⟨Ao26, co26, eo26⟩ := Kd.R_slice HO241.out; subst eo26; obtain ⟨Ao27, co27, eo27⟩ := Kd.R_slice HO244.out; subst eo27; obtain ⟨Ao28, co28, eo28⟩ := Kd.R_slice HO247.out; subst eo28))
     (try simp only [Act.put, e1_, e2_, e3_])
     go_cut [66] (fun v66 wc => ∃ (kq : Nat) (x66_18 : Bool), v66 = .bool x66_18 ∧ Aside0 (spiritlevellaw26_HashFew.j1 kq t233 x66_18 t235 t236 t239 t242 t245 = some r) ∧ Aside0 (kq ≤ kj3) ∧ Aside0 (Kd.R k86 86 wc w.heap.size (fun _ => True) (.slice Ao25 t236.length co25) t236) ∧ Aside0 (Kd.R k67 67 wc w.heap.size (fun _ => True) (.slice Ao26 t239.length co26) t239) ∧ Aside0 (Kd.R (Kd.int .i64) 3 wc w.heap.size (fun k_ => some k_ ≠ ((.slice Ao28 t245.length co28) : Value).ownBlock) (.slice Ao27 t242.length co27) t242) ∧ Aside0 (Kd.R (Kd.int .i64) 3 wc w.heap.size (fun k_ => some k_ ≠ ((.slice Ao27 t242.length co27) : Value).ownBlock) (.slice Ao28 t245.length co28) t245) ∧ Aside0 (wc.heap[gb232]? = some (.cells #[.int .i64 a0_0, (.slice A0_1 l0_1.length c0_1), (.slice A0_2 l0_2.length c0_2), (.slice A0_3 l0_3.length c0_3), (.slice A0_4 l0_4.length c0_4)] 26 (0, 0))) ∧ Aside0 (wc.heap[gb252]? = some (.cells #[.int .i64 t235, (.slice Ao25 t236.length co25), (.slice Ao26 t239.length co26), (.slice Ao27 t242.length co27), (.slice Ao28 t245.length co28)] 26 (0, 0))) ∧ Aside0 (Below w.heap.size w wc))
     case first =>
      have H := HC19.out
      clear HC19
      replace H := Option.bind_eq_some_iff.mp H
      obtain ⟨t253, A290, H⟩ := H
      replace H : (if t253 = 0 then (if (t239.length : Int) > (l0_2.length : Int) then (spiritlevellaw26_HashFew.j1 kj3 t233 true t235 t236 t239 t242 t245) else (if t235 = a0_0 then (spiritlevellaw26_HashFew.j1 kj3 t233 ((t236.length : Int) != (l0_1.length : Int)) t235 t236 t239 t242 t245) else (spiritlevellaw26_HashFew.j1 kj3 t233 true t235 t236 t239 t242 t245))) else (spiritlevellaw26_HashFew.j1 kj3 t233 true t235 t236 t239 t242 t245)) = some r := H
      have A29 := M_ A290
      clear A290
      by_cases c30 : t253 = 0
      ·rw [if_pos c30] at H
       have c30b0 : (t253 == 0) = true := beq_iff_eq.mpr c30
       have c30b1 : (t253 != 0) = false := bne_eq_false_iff_eq.mpr c30
       clear c30
       (first | rw [c30b0] | (simp only [i64_w, i32_w]; rw [c30b0]) | skip)
       by_cases c31 : (t239.length : Int) > (l0_2.length : Int)
       ·rw [if_pos c31] at H
        have c31b0 : decide ((l0_2.length : Int) < (t239.length : Int)) = true := decide_eq_true c31
        have c31b1 : decide (l0_2.length < t239.length) = true := decide_eq_true (Int.ofNat_lt.mp c31)
        clear c31
        have H' := M_ H
        clear H
        have hnb32 := NB252_232.out
        have hnc32 := NB232_252.out
        have hcz33_0 : w22.cell? ⟨gb252, 0, none⟩ = some (.int .i64 0) := (blk_cell BK252.out 0).trans rfl
        have hcz33_1 : w22.cell? ⟨gb252, 1, none⟩ = some (.slice none 0 0) := (blk_cell BK252.out 1).trans rfl
        have hcz33_2 : w22.cell? ⟨gb252, 2, none⟩ = some (.slice none 0 0) := (blk_cell BK252.out 2).trans rfl
        have hcz33_3 : w22.cell? ⟨gb252, 3, none⟩ = some (.slice none 0 0) := (blk_cell BK252.out 3).trans rfl
        have hcz33_4 : w22.cell? ⟨gb252, 4, none⟩ = some (.slice none 0 0) := (blk_cell BK252.out 4).trans rfl
        have hfz33_0 := blk_frozen BK252.out 0
        have hfz33_1 := blk_frozen BK252.out 1
        have hfz33_2 := blk_frozen BK252.out 2
        have hfz33_3 := blk_frozen BK252.out 3
        have hfz33_4 := blk_frozen BK252.out 4
        go_wp2_with (first | ((with_reducible refine gate_callee (f := 24) rfl ?_); refine goesL_ (some 40) rfl rfl Try.func24 (by kernel_rfl) rfl #[.agg #[.int .i64 t235, .slice Ao25 t236.length co25, .slice Ao26 t239.length co26, .slice Ao27 t242.length co27, .slice Ao28 t245.length co28]] rfl (by (try simp only [List.map_toArray, List.map_cons, List.map_nil]); first | done | rfl | (simp only [List.length_drop, List.length_take]; rfl)) ?_; (with_reducible refine (gates_Check.calls t235 _ _ t236 _ _ t239 _ _ t242 _ _ t245 t253 _ ?side1 ?side2 ?side3 ?side4 ?side5 ?side6 ?side7 ?side8 A29.out).mono ?_); (case side1 => refine (Kd.R_reads' (e := 86) (base := w.heap.size) (ok := fun k_ => True) (n := t236.length) (c := co25) ?_).2.2; exact (by (with_reducible repeat (first | apply a0_ | apply a1_ | apply a2_)); exact (Kd.R_mono (Kd.R_far (p := ⟨gb252, 4, none⟩) (Kd.R_far (p := ⟨gb252, 3, none⟩) (Kd.R_far (p := ⟨gb252, 2, none⟩) (Kd.R_far (p := ⟨gb252, 1, none⟩) (Kd.R_far (p := ⟨gb252, 0, none⟩) (Kd.R_types HO238.out BK252.out (by decide)) (fun _ hk => hk.2) (.int .i64 t235)) (fun _ hk => hk.2) (.slice Ao25 t236.length co25)) (fun _ hk => hk.2) (.slice Ao26 t239.length co26)) (fun _ hk => hk.2) (.slice Ao27 t242.length co27)) (fun _ hk => hk.2) (.slice Ao28 t245.length co28)) (fun _ h_ => h_.1)))); (case side2 => exact (Kd.R_reads' HO238.out).2.1); (case side3 => refine (Kd.R_reads' (e := 67) (base := w.heap.size) (ok := fun k_ => True) (n := t239.length) (c := co26) ?_).2.2; exact (by (with_reducible repeat (first | apply a0_ | apply a1_ | apply a2_)); exact (Kd.R_mono (Kd.R_far (p := ⟨gb252, 4, none⟩) (Kd.R_far (p := ⟨gb252, 3, none⟩) (Kd.R_far (p := ⟨gb252, 2, none⟩) (Kd.R_far (p := ⟨gb252, 1, none⟩) (Kd.R_far (p := ⟨gb252, 0, none⟩) (Kd.R_types HO241.out BK252.out (by decide)) (fun _ hk => hk.2) (.int .i64 t235)) (fun _ hk => hk.2) (.slice Ao25 t236.length co25)) (fun _ hk => hk.2) (.slice Ao26 t239.length co26)) (fun _ hk => hk.2) (.slice Ao27 t242.length co27)) (fun _ hk => hk.2) (.slice Ao28 t245.length co28)) (fun _ h_ => h_.1)))); (case side4 => exact (Kd.R_reads' HO241.out).2.1); (case side5 => refine (Kd.R_reads' (e := 3) (base := w.heap.size) (ok := fun k_ => (some k_ ≠ (.slice Ao28 t245.length co28 : Value).ownBlock ∧ some k_ ≠ (v249 : Value).ownBlock)) (n := t242.length) (c := co27) ?_).2.2; exact (by (with_reducible repeat (first | apply a0_ | apply a1_ | apply a2_)); exact (Kd.R_mono (Kd.R_far (p := ⟨gb252, 4, none⟩) (Kd.R_far (p := ⟨gb252, 3, none⟩) (Kd.R_far (p := ⟨gb252, 2, none⟩) (Kd.R_far (p := ⟨gb252, 1, none⟩) (Kd.R_far (p := ⟨gb252, 0, none⟩) (Kd.R_types HO244.out BK252.out (by decide)) (fun _ hk => hk.2) (.int .i64 t235)) (fun _ hk => hk.2) (.slice Ao25 t236.length co25)) (fun _ hk => hk.2) (.slice Ao26 t239.length co26)) (fun _ hk => hk.2) (.slice Ao27 t242.length co27)) (fun _ hk => hk.2) (.slice Ao28 t245.length co28)) (fun _ h_ => h_.1)))); (case side6 => exact (Kd.R_reads' HO244.out).2.1); (case side7 => refine (Kd.R_reads' (e := 3) (base := w.heap.size) (ok := fun k_ => (some k_ ≠ (.slice Ao27 t242.length co27 : Value).ownBlock ∧ some k_ ≠ (v249 : Value).ownBlock)) (n := t245.length) (c := co28) ?_).2.2; exact (by (with_reducible repeat (first | apply a0_ | apply a1_ | apply a2_)); exact (Kd.R_mono (Kd.R_far (p := ⟨gb252, 4, none⟩) (Kd.R_far (p := ⟨gb252, 3, none⟩) (Kd.R_far (p := ⟨gb252, 2, none⟩) (Kd.R_far (p := ⟨gb252, 1, none⟩) (Kd.R_far (p := ⟨gb252, 0, none⟩) (Kd.R_types HO247.out BK252.out (by decide)) (fun _ hk => hk.2) (.int .i64 t235)) (fun _ hk => hk.2) (.slice Ao25 t236.length co25)) (fun _ hk => hk.2) (.slice Ao26 t239.length co26)) (fun _ hk => hk.2) (.slice Ao27 t242.length co27)) (fun _ hk => hk.2) (.slice Ao28 t245.length co28)) (fun _ h_ => h_.1)))); (case side8 => exact (Kd.R_reads' HO247.out).2.1); rintro e w34 ⟨rfl, hb⟩; refine ⟨_, rfl, ?_⟩; have n0_ := M_ (Kd.R_below (by (with_reducible repeat (first | apply a0_ | apply a1_ | apply a2_)); exact (Kd.R_mono (Kd.R_far (p := ⟨gb252, 4, none⟩) (Kd.R_far (p := ⟨gb252, 3, none⟩) (Kd.R_far (p := ⟨gb252, 2, none⟩) (Kd.R_far (p := ⟨gb252, 1, none⟩) (Kd.R_far (p := ⟨gb252, 0, none⟩) (Kd.R_types HO238.out BK252.out (by decide)) (fun _ hk => hk.2) (.int .i64 t235)) (fun _ hk => hk.2) (.slice Ao25 t236.length co25)) (fun _ hk => hk.2) (.slice Ao26 t239.length co26)) (fun _ hk => hk.2) (.slice Ao27 t242.length co27)) (fun _ hk => hk.2) (.slice Ao28 t245.length co28)) (fun _ h_ => h_.1))) hb); have n1_ := M_ (Kd.R_below (by (with_reducible repeat (first | apply a0_ | apply a1_ | apply a2_)); exact (Kd.R_mono (Kd.R_far (p := ⟨gb252, 4, none⟩) (Kd.R_far (p := ⟨gb252, 3, none⟩) (Kd.R_far (p := ⟨gb252, 2, none⟩) (Kd.R_far (p := ⟨gb252, 1, none⟩) (Kd.R_far (p := ⟨gb252, 0, none⟩) (Kd.R_types HO241.out BK252.out (by decide)) (fun _ hk => hk.2) (.int .i64 t235)) (fun _ hk => hk.2) (.slice Ao25 t236.length co25)) (fun _ hk => hk.2) (.slice Ao26 t239.length co26)) (fun _ hk => hk.2) (.slice Ao27 t242.length co27)) (fun _ hk => hk.2) (.slice Ao28 t245.length co28)) (fun _ h_ => h_.1))) hb); have n2_ := M_ (Kd.R_below (by (with_reducible repeat (first | apply a0_ | apply a1_ | apply a2_)); exact (Kd.R_mono (Kd.R_far (p := ⟨gb252, 4, none⟩) (Kd.R_far (p := ⟨gb252, 3, none⟩) (Kd.R_far (p := ⟨gb252, 2, none⟩) (Kd.R_far (p := ⟨gb252, 1, none⟩) (Kd.R_far (p := ⟨gb252, 0, none⟩) (Kd.R_types HO244.out BK252.out (by decide)) (fun _ hk => hk.2) (.int .i64 t235)) (fun _ hk => hk.2) (.slice Ao25 t236.length co25)) (fun _ hk => hk.2) (.slice Ao26 t239.length co26)) (fun _ hk => hk.2) (.slice Ao27 t242.length co27)) (fun _ hk => hk.2) (.slice Ao28 t245.length co28)) (fun _ h_ => h_.1))) hb); have n3_ := M_ (Kd.R_below (by (with_reducible repeat (first | apply a0_ | apply a1_ | apply a2_)); exact (Kd.R_mono (Kd.R_far (p := ⟨gb252, 4, none⟩) (Kd.R_far (p := ⟨gb252, 3, none⟩) (Kd.R_far (p := ⟨gb252, 2, none⟩) (Kd.R_far (p := ⟨gb252, 1, none⟩) (Kd.R_far (p := ⟨gb252, 0, none⟩) (Kd.R_types HO247.out BK252.out (by decide)) (fun _ hk => hk.2) (.int .i64 t235)) (fun _ hk => hk.2) (.slice Ao25 t236.length co25)) (fun _ hk => hk.2) (.slice Ao26 t239.length co26)) (fun _ hk => hk.2) (.slice Ao27 t242.length co27)) (fun _ hk => hk.2) (.slice Ao28 t245.length co28)) (fun _ h_ => h_.1))) hb); have n4_ := M_ (Kd.R_below (by (with_reducible repeat (first | apply a0_ | apply a1_ | apply a2_)); exact (Kd.R_mono (Kd.R_far (p := ⟨gb252, 4, none⟩) (Kd.R_far (p := ⟨gb252, 3, none⟩) (Kd.R_far (p := ⟨gb252, 2, none⟩) (Kd.R_far (p := ⟨gb252, 1, none⟩) (Kd.R_far (p := ⟨gb252, 0, none⟩) (Kd.R_types HO250.out BK252.out (by decide)) (fun _ hk => hk.2) (.int .i64 t235)) (fun _ hk => hk.2) (.slice Ao25 t236.length co25)) (fun _ hk => hk.2) (.slice Ao26 t239.length co26)) (fun _ hk => hk.2) (.slice Ao27 t242.length co27)) (fun _ hk => hk.2) (.slice Ao28 t245.length co28)) (fun _ h_ => h_.1))) hb); have n5_ := M_ (blk_below (g := gb232) (o := .cells #[.int .i64 a0_0, .slice A0_1 l0_1.length c0_1, .slice A0_2 l0_2.length c0_2, .slice A0_3 l0_3.length c0_3, .slice A0_4 l0_4.length c0_4] 26 (0, 0)) (by (with_reducible repeat (first | refine blk_drewN ?_ _ | refine blk_drew ?_ | refine blk_alloc ?_ _)); refine blk_far ?_ NB232_252.out _; (with_reducible repeat (first | refine blk_drewN ?_ _ | refine blk_drew ?_ | refine blk_alloc ?_ _)); refine blk_far ?_ NB232_252.out _; (with_reducible repeat (first | refine blk_drewN ?_ _ | refine blk_drew ?_ | refine blk_alloc ?_ _)); refine blk_far ?_ NB232_252.out _; (with_reducible repeat (first | refine blk_drewN ?_ _ | refine blk_drew ?_ | refine blk_alloc ?_ _)); refine blk_far ?_ NB232_252.out _; (with_reducible repeat (first | refine blk_drewN ?_ _ | refine blk_drew ?_ | refine blk_alloc ?_ _)); refine blk_far ?_ NB232_252.out _; (with_reducible repeat (first | refine blk_drewN ?_ _ | refine blk_drew ?_ | refine blk_alloc ?_ _)); exact BK232.out) hb); have n6_ := M_ (blk_below (g := gb252) (o := .cells #[.int .i64 t235, .slice Ao25 t236.length co25, .slice Ao26 t239.length co26, .slice Ao27 t242.length co27, .slice Ao28 t245.length co28] 26 (0, 0)) (by (with_reducible repeat (first | refine blk_drewN ?_ _ | refine blk_drew ?_ | refine blk_alloc ?_ _)); refine blk_put (cs := #[.int .i64 t235, .slice Ao25 t236.length co25, .slice Ao26 t239.length co26, .slice Ao27 t242.length co27, .slice none 0 0]) ?_ 4 _ rfl; (with_reducible repeat (first | refine blk_drewN ?_ _ | refine blk_drew ?_ | refine blk_alloc ?_ _)); refine blk_put (cs := #[.int .i64 t235, .slice Ao25 t236.length co25, .slice Ao26 t239.length co26, .slice none 0 0, .slice none 0 0]) ?_ 3 _ rfl; (with_reducible repeat (first | refine blk_drewN ?_ _ | refine blk_drew ?_ | refine blk_alloc ?_ _)); refine blk_put (cs := #[.int .i64 t235, .slice Ao25 t236.length co25, .slice none 0 0, .slice none 0 0, .slice none 0 0]) ?_ 2 _ rfl; (with_reducible repeat (first | refine blk_drewN ?_ _ | refine blk_drew ?_ | refine blk_alloc ?_ _)); refine blk_put (cs := #[.int .i64 t235, .slice none 0 0, .slice none 0 0, .slice none 0 0, .slice none 0 0]) ?_ 1 _ rfl; (with_reducible repeat (first | refine blk_drewN ?_ _ | refine blk_drew ?_ | refine blk_alloc ?_ _)); refine blk_put (cs := #[.int .i64 0, .slice none 0 0, .slice none 0 0, .slice none 0 0, .slice none 0 0]) ?_ 0 _ rfl; (with_reducible repeat (first | refine blk_drewN ?_ _ | refine blk_drew ?_ | refine blk_alloc ?_ _)); exact BK252.out) hb); have n7_ := M_ (below_step (by repeat (first | (with_reducible first | exact HB.out | apply b0_ | apply b1_ | apply b2_ | refine below_set ?_ GE232.out | refine below_set ?_ GE252.out) | exact HB.out)) hb); clear HO238; clear HO241; clear HO244; clear HO247; clear HO250; clear BK232; clear BK252; clear HB; have HO238 := n0_; have HO241 := n1_; have HO244 := n2_; have HO247 := n3_; have HO250 := n4_; have BK232 := n5_; have BK252 := n6_; have HB := n7_; clear n0_ n1_ n2_ n3_ n4_ n5_ n6_ n7_; (try clear hb); (try clear hb2); (try clear hk); (try clear hi); have hcz35_0 : w34.cell? ⟨gb252, 0, none⟩ = some (.int .i64 t235) := (blk_cell BK252.out 0).trans rfl; have hcz35_1 : w34.cell? ⟨gb252, 1, none⟩ = some (.slice Ao25 t236.length co25) := (blk_cell BK252.out 1).trans rfl; have hcz35_2 : w34.cell? ⟨gb252, 2, none⟩ = some (.slice Ao26 t239.length co26) := (blk_cell BK252.out 2).trans rfl; have hcz35_3 : w34.cell? ⟨gb252, 3, none⟩ = some (.slice Ao27 t242.length co27) := (blk_cell BK252.out 3).trans rfl; have hcz35_4 : w34.cell? ⟨gb252, 4, none⟩ = some (.slice Ao28 t245.length co28) := (blk_cell BK252.out 4).trans rfl; have hfz35_0 := blk_frozen BK252.out 0; have hfz35_1 := blk_frozen BK252.out 1; have hfz35_2 := blk_frozen BK252.out 2; have hfz35_3 := blk_frozen BK252.out 3; have hfz35_4 := blk_frozen BK252.out 4; have hcz36_0 : w34.cell? ⟨gb232, 0, none⟩ = some (.int .i64 a0_0) := (blk_cell BK232.out 0).trans rfl; have hcz36_1 : w34.cell? ⟨gb232, 1, none⟩ = some (.slice A0_1 l0_1.length c0_1) := (blk_cell BK232.out 1).trans rfl; have hcz36_2 : w34.cell? ⟨gb232, 2, none⟩ = some (.slice A0_2 l0_2.length c0_2) := (blk_cell BK232.out 2).trans rfl; have hcz36_3 : w34.cell? ⟨gb232, 3, none⟩ = some (.slice A0_3 l0_3.length c0_3) := (blk_cell BK232.out 3).trans rfl; have hcz36_4 : w34.cell? ⟨gb232, 4, none⟩ = some (.slice A0_4 l0_4.length c0_4) := (blk_cell BK232.out 4).trans rfl; have hfz36_0 := blk_frozen BK232.out 0; have hfz36_1 := blk_frozen BK232.out 1; have hfz36_2 := blk_frozen BK232.out 2; have hfz36_3 := blk_frozen BK232.out 3; have hfz36_4 := blk_frozen BK232.out 4))
        go_meet
        case rel => exact ⟨_, (true), (by first | rfl | (simp; done) | (simp [*]; done)), H', ⟨by have := HJ3.out; first | omega | exact Nat.le_refl _⟩, ⟨by (with_reducible repeat (first | apply a0_ | apply a1_ | apply a2_)); exact HO238.out⟩, ⟨by (with_reducible repeat (first | apply a0_ | apply a1_ | apply a2_)); exact HO241.out⟩, ⟨by (with_reducible repeat (first | apply a0_ | apply a1_ | apply a2_)); exact Kd.R_mono HO244.out (fun _ hk => hk.1)⟩, ⟨by (with_reducible repeat (first | apply a0_ | apply a1_ | apply a2_)); exact Kd.R_mono HO247.out (fun _ hk => hk.1)⟩, ⟨by (with_reducible repeat (first | refine blk_drewN ?_ _ | refine blk_drew ?_ | refine blk_alloc ?_ _)); exact BK232.out⟩, ⟨by (with_reducible repeat (first | refine blk_drewN ?_ _ | refine blk_drew ?_ | refine blk_alloc ?_ _)); exact BK252.out⟩, ⟨by repeat (first | (with_reducible first | exact HB.out | apply b0_ | apply b1_ | apply b2_ | refine below_set ?_ GE232.out | refine below_set ?_ GE252.out) | exact HB.out)⟩⟩
       ·rw [if_neg c31] at H
        have c31b0 : decide ((l0_2.length : Int) < (t239.length : Int)) = false := decide_eq_false c31
        have c31b1 : decide (l0_2.length < t239.length) = false := decide_eq_false (fun h => c31 (Int.ofNat_lt.mpr h))
        clear c31
        by_cases c37 : t235 = a0_0
        ·rw [if_pos c37] at H
         have c37b0 : (t235 == a0_0) = true := beq_iff_eq.mpr c37
         have c37b1 : (t235 != a0_0) = false := bne_eq_false_iff_eq.mpr c37
         clear c37
         have H' := M_ H
         clear H
         have hnb38 := NB252_232.out
         have hnc38 := NB232_252.out
         have hcz39_0 : w22.cell? ⟨gb252, 0, none⟩ = some (.int .i64 0) := (blk_cell BK252.out 0).trans rfl
         have hcz39_1 : w22.cell? ⟨gb252, 1, none⟩ = some (.slice none 0 0) := (blk_cell BK252.out 1).trans rfl
         have hcz39_2 : w22.cell? ⟨gb252, 2, none⟩ = some (.slice none 0 0) := (blk_cell BK252.out 2).trans rfl
         have hcz39_3 : w22.cell? ⟨gb252, 3, none⟩ = some (.slice none 0 0) := (blk_cell BK252.out 3).trans rfl
         have hcz39_4 : w22.cell? ⟨gb252, 4, none⟩ = some (.slice none 0 0) := (blk_cell BK252.out 4).trans rfl
         have hfz39_0 := blk_frozen BK252.out 0
         have hfz39_1 := blk_frozen BK252.out 1
         have hfz39_2 := blk_frozen BK252.out 2
         have hfz39_3 := blk_frozen BK252.out 3
         have hfz39_4 := blk_frozen BK252.out 4
         go_wp2_with (first | ((with_reducible refine gate_callee (f := 24) rfl ?_); refine goesL_ (some 40) rfl rfl Try.func24 (by kernel_rfl) rfl #[.agg #[.int .i64 t235, .slice Ao25 t236.length co25, .slice Ao26 t239.length co26, .slice Ao27 t242.length co27, .slice Ao28 t245.length co28]] rfl (by (try simp only [List.map_toArray, List.map_cons, List.map_nil]); first | done | rfl | (simp only [List.length_drop, List.length_take]; rfl)) ?_; (with_reducible refine (gates_Check.calls t235 _ _ t236 _ _ t239 _ _ t242 _ _ t245 t253 _ ?side1 ?side2 ?side3 ?side4 ?side5 ?side6 ?side7 ?side8 A29.out).mono ?_); (case side1 => refine (Kd.R_reads' (e := 86) (base := w.heap.size) (ok := fun k_ => True) (n := t236.length) (c := co25) ?_).2.2; exact (by (with_reducible repeat (first | apply a0_ | apply a1_ | apply a2_)); exact (Kd.R_mono (Kd.R_far (p := ⟨gb252, 4, none⟩) (Kd.R_far (p := ⟨gb252, 3, none⟩) (Kd.R_far (p := ⟨gb252, 2, none⟩) (Kd.R_far (p := ⟨gb252, 1, none⟩) (Kd.R_far (p := ⟨gb252, 0, none⟩) (Kd.R_types HO238.out BK252.out (by decide)) (fun _ hk => hk.2) (.int .i64 t235)) (fun _ hk => hk.2) (.slice Ao25 t236.length co25)) (fun _ hk => hk.2) (.slice Ao26 t239.length co26)) (fun _ hk => hk.2) (.slice Ao27 t242.length co27)) (fun _ hk => hk.2) (.slice Ao28 t245.length co28)) (fun _ h_ => h_.1)))); (case side2 => exact (Kd.R_reads' HO238.out).2.1); (case side3 => refine (Kd.R_reads' (e := 67) (base := w.heap.size) (ok := fun k_ => True) (n := t239.length) (c := co26) ?_).2.2; exact (by (with_reducible repeat (first | apply a0_ | apply a1_ | apply a2_)); exact (Kd.R_mono (Kd.R_far (p := ⟨gb252, 4, none⟩) (Kd.R_far (p := ⟨gb252, 3, none⟩) (Kd.R_far (p := ⟨gb252, 2, none⟩) (Kd.R_far (p := ⟨gb252, 1, none⟩) (Kd.R_far (p := ⟨gb252, 0, none⟩) (Kd.R_types HO241.out BK252.out (by decide)) (fun _ hk => hk.2) (.int .i64 t235)) (fun _ hk => hk.2) (.slice Ao25 t236.length co25)) (fun _ hk => hk.2) (.slice Ao26 t239.length co26)) (fun _ hk => hk.2) (.slice Ao27 t242.length co27)) (fun _ hk => hk.2) (.slice Ao28 t245.length co28)) (fun _ h_ => h_.1)))); (case side4 => exact (Kd.R_reads' HO241.out).2.1); (case side5 => refine (Kd.R_reads' (e := 3) (base := w.heap.size) (ok := fun k_ => (some k_ ≠ (.slice Ao28 t245.length co28 : Value).ownBlock ∧ some k_ ≠ (v249 : Value).ownBlock)) (n := t242.length) (c := co27) ?_).2.2; exact (by (with_reducible repeat (first | apply a0_ | apply a1_ | apply a2_)); exact (Kd.R_mono (Kd.R_far (p := ⟨gb252, 4, none⟩) (Kd.R_far (p := ⟨gb252, 3, none⟩) (Kd.R_far (p := ⟨gb252, 2, none⟩) (Kd.R_far (p := ⟨gb252, 1, none⟩) (Kd.R_far (p := ⟨gb252, 0, none⟩) (Kd.R_types HO244.out BK252.out (by decide)) (fun _ hk => hk.2) (.int .i64 t235)) (fun _ hk => hk.2) (.slice Ao25 t236.length co25)) (fun _ hk => hk.2) (.slice Ao26 t239.length co26)) (fun _ hk => hk.2) (.slice Ao27 t242.length co27)) (fun _ hk => hk.2) (.slice Ao28 t245.length co28)) (fun _ h_ => h_.1)))); (case side6 => exact (Kd.R_reads' HO244.out).2.1); (case side7 => refine (Kd.R_reads' (e := 3) (base := w.heap.size) (ok := fun k_ => (some k_ ≠ (.slice Ao27 t242.length co27 : Value).ownBlock ∧ some k_ ≠ (v249 : Value).ownBlock)) (n := t245.length) (c := co28) ?_).2.2; exact (by (with_reducible repeat (first | apply a0_ | apply a1_ | apply a2_)); exact (Kd.R_mono (Kd.R_far (p := ⟨gb252, 4, none⟩) (Kd.R_far (p := ⟨gb252, 3, none⟩) (Kd.R_far (p := ⟨gb252, 2, none⟩) (Kd.R_far (p := ⟨gb252, 1, none⟩) (Kd.R_far (p := ⟨gb252, 0, none⟩) (Kd.R_types HO247.out BK252.out (by decide)) (fun _ hk => hk.2) (.int .i64 t235)) (fun _ hk => hk.2) (.slice Ao25 t236.length co25)) (fun _ hk => hk.2) (.slice Ao26 t239.length co26)) (fun _ hk => hk.2) (.slice Ao27 t242.length co27)) (fun _ hk => hk.2) (.slice Ao28 t245.length co28)) (fun _ h_ => h_.1)))); (case side8 => exact (Kd.R_reads' HO247.out).2.1); rintro e w40 ⟨rfl, hb⟩; refine ⟨_, rfl, ?_⟩; have n0_ := M_ (Kd.R_below (by (with_reducible repeat (first | apply a0_ | apply a1_ | apply a2_)); exact (Kd.R_mono (Kd.R_far (p := ⟨gb252, 4, none⟩) (Kd.R_far (p := ⟨gb252, 3, none⟩) (Kd.R_far (p := ⟨gb252, 2, none⟩) (Kd.R_far (p := ⟨gb252, 1, none⟩) (Kd.R_far (p := ⟨gb252, 0, none⟩) (Kd.R_types HO238.out BK252.out (by decide)) (fun _ hk => hk.2) (.int .i64 t235)) (fun _ hk => hk.2) (.slice Ao25 t236.length co25)) (fun _ hk => hk.2) (.slice Ao26 t239.length co26)) (fun _ hk => hk.2) (.slice Ao27 t242.length co27)) (fun _ hk => hk.2) (.slice Ao28 t245.length co28)) (fun _ h_ => h_.1))) hb); have n1_ := M_ (Kd.R_below (by (with_reducible repeat (first | apply a0_ | apply a1_ | apply a2_)); exact (Kd.R_mono (Kd.R_far (p := ⟨gb252, 4, none⟩) (Kd.R_far (p := ⟨gb252, 3, none⟩) (Kd.R_far (p := ⟨gb252, 2, none⟩) (Kd.R_far (p := ⟨gb252, 1, none⟩) (Kd.R_far (p := ⟨gb252, 0, none⟩) (Kd.R_types HO241.out BK252.out (by decide)) (fun _ hk => hk.2) (.int .i64 t235)) (fun _ hk => hk.2) (.slice Ao25 t236.length co25)) (fun _ hk => hk.2) (.slice Ao26 t239.length co26)) (fun _ hk => hk.2) (.slice Ao27 t242.length co27)) (fun _ hk => hk.2) (.slice Ao28 t245.length co28)) (fun _ h_ => h_.1))) hb); have n2_ := M_ (Kd.R_below (by (with_reducible repeat (first | apply a0_ | apply a1_ | apply a2_)); exact (Kd.R_mono (Kd.R_far (p := ⟨gb252, 4, none⟩) (Kd.R_far (p := ⟨gb252, 3, none⟩) (Kd.R_far (p := ⟨gb252, 2, none⟩) (Kd.R_far (p := ⟨gb252, 1, none⟩) (Kd.R_far (p := ⟨gb252, 0, none⟩) (Kd.R_types HO244.out BK252.out (by decide)) (fun _ hk => hk.2) (.int .i64 t235)) (fun _ hk => hk.2) (.slice Ao25 t236.length co25)) (fun _ hk => hk.2) (.slice Ao26 t239.length co26)) (fun _ hk => hk.2) (.slice Ao27 t242.length co27)) (fun _ hk => hk.2) (.slice Ao28 t245.length co28)) (fun _ h_ => h_.1))) hb); have n3_ := M_ (Kd.R_below (by (with_reducible repeat (first | apply a0_ | apply a1_ | apply a2_)); exact (Kd.R_mono (Kd.R_far (p := ⟨gb252, 4, none⟩) (Kd.R_far (p := ⟨gb252, 3, none⟩) (Kd.R_far (p := ⟨gb252, 2, none⟩) (Kd.R_far (p := ⟨gb252, 1, none⟩) (Kd.R_far (p := ⟨gb252, 0, none⟩) (Kd.R_types HO247.out BK252.out (by decide)) (fun _ hk => hk.2) (.int .i64 t235)) (fun _ hk => hk.2) (.slice Ao25 t236.length co25)) (fun _ hk => hk.2) (.slice Ao26 t239.length co26)) (fun _ hk => hk.2) (.slice Ao27 t242.length co27)) (fun _ hk => hk.2) (.slice Ao28 t245.length co28)) (fun _ h_ => h_.1))) hb); have n4_ := M_ (Kd.R_below (by (with_reducible repeat (first | apply a0_ | apply a1_ | apply a2_)); exact (Kd.R_mono (Kd.R_far (p := ⟨gb252, 4, none⟩) (Kd.R_far (p := ⟨gb252, 3, none⟩) (Kd.R_far (p := ⟨gb252, 2, none⟩) (Kd.R_far (p := ⟨gb252, 1, none⟩) (Kd.R_far (p := ⟨gb252, 0, none⟩) (Kd.R_types HO250.out BK252.out (by decide)) (fun _ hk => hk.2) (.int .i64 t235)) (fun _ hk => hk.2) (.slice Ao25 t236.length co25)) (fun _ hk => hk.2) (.slice Ao26 t239.length co26)) (fun _ hk => hk.2) (.slice Ao27 t242.length co27)) (fun _ hk => hk.2) (.slice Ao28 t245.length co28)) (fun _ h_ => h_.1))) hb); have n5_ := M_ (blk_below (g := gb232) (o := .cells #[.int .i64 a0_0, .slice A0_1 l0_1.length c0_1, .slice A0_2 l0_2.length c0_2, .slice A0_3 l0_3.length c0_3, .slice A0_4 l0_4.length c0_4] 26 (0, 0)) (by (with_reducible repeat (first | refine blk_drewN ?_ _ | refine blk_drew ?_ | refine blk_alloc ?_ _)); refine blk_far ?_ NB232_252.out _; (with_reducible repeat (first | refine blk_drewN ?_ _ | refine blk_drew ?_ | refine blk_alloc ?_ _)); refine blk_far ?_ NB232_252.out _; (with_reducible repeat (first | refine blk_drewN ?_ _ | refine blk_drew ?_ | refine blk_alloc ?_ _)); refine blk_far ?_ NB232_252.out _; (with_reducible repeat (first | refine blk_drewN ?_ _ | refine blk_drew ?_ | refine blk_alloc ?_ _)); refine blk_far ?_ NB232_252.out _; (with_reducible repeat (first | refine blk_drewN ?_ _ | refine blk_drew ?_ | refine blk_alloc ?_ _)); refine blk_far ?_ NB232_252.out _; (with_reducible repeat (first | refine blk_drewN ?_ _ | refine blk_drew ?_ | refine blk_alloc ?_ _)); exact BK232.out) hb); have n6_ := M_ (blk_below (g := gb252) (o := .cells #[.int .i64 t235, .slice Ao25 t236.length co25, .slice Ao26 t239.length co26, .slice Ao27 t242.length co27, .slice Ao28 t245.length co28] 26 (0, 0)) (by (with_reducible repeat (first | refine blk_drewN ?_ _ | refine blk_drew ?_ | refine blk_alloc ?_ _)); refine blk_put (cs := #[.int .i64 t235, .slice Ao25 t236.length co25, .slice Ao26 t239.length co26, .slice Ao27 t242.length co27, .slice none 0 0]) ?_ 4 _ rfl; (with_reducible repeat (first | refine blk_drewN ?_ _ | refine blk_drew ?_ | refine blk_alloc ?_ _)); refine blk_put (cs := #[.int .i64 t235, .slice Ao25 t236.length co25, .slice Ao26 t239.length co26, .slice none 0 0, .slice none 0 0]) ?_ 3 _ rfl; (with_reducible repeat (first | refine blk_drewN ?_ _ | refine blk_drew ?_ | refine blk_alloc ?_ _)); refine blk_put (cs := #[.int .i64 t235, .slice Ao25 t236.length co25, .slice none 0 0, .slice none 0 0, .slice none 0 0]) ?_ 2 _ rfl; (with_reducible repeat (first | refine blk_drewN ?_ _ | refine blk_drew ?_ | refine blk_alloc ?_ _)); refine blk_put (cs := #[.int .i64 t235, .slice none 0 0, .slice none 0 0, .slice none 0 0, .slice none 0 0]) ?_ 1 _ rfl; (with_reducible repeat (first | refine blk_drewN ?_ _ | refine blk_drew ?_ | refine blk_alloc ?_ _)); refine blk_put (cs := #[.int .i64 0, .slice none 0 0, .slice none 0 0, .slice none 0 0, .slice none 0 0]) ?_ 0 _ rfl; (with_reducible repeat (first | refine blk_drewN ?_ _ | refine blk_drew ?_ | refine blk_alloc ?_ _)); exact BK252.out) hb); have n7_ := M_ (below_step (by repeat (first | (with_reducible first | exact HB.out | apply b0_ | apply b1_ | apply b2_ | refine below_set ?_ GE232.out | refine below_set ?_ GE252.out) | exact HB.out)) hb); clear HO238; clear HO241; clear HO244; clear HO247; clear HO250; clear BK232; clear BK252; clear HB; have HO238 := n0_; have HO241 := n1_; have HO244 := n2_; have HO247 := n3_; have HO250 := n4_; have BK232 := n5_; have BK252 := n6_; have HB := n7_; clear n0_ n1_ n2_ n3_ n4_ n5_ n6_ n7_; (try clear hb); (try clear hb2); (try clear hk); (try clear hi); have hcz41_0 : w40.cell? ⟨gb252, 0, none⟩ = some (.int .i64 t235) := (blk_cell BK252.out 0).trans rfl; have hcz41_1 : w40.cell? ⟨gb252, 1, none⟩ = some (.slice Ao25 t236.length co25) := (blk_cell BK252.out 1).trans rfl; have hcz41_2 : w40.cell? ⟨gb252, 2, none⟩ = some (.slice Ao26 t239.length co26) := (blk_cell BK252.out 2).trans rfl; have hcz41_3 : w40.cell? ⟨gb252, 3, none⟩ = some (.slice Ao27 t242.length co27) := (blk_cell BK252.out 3).trans rfl; have hcz41_4 : w40.cell? ⟨gb252, 4, none⟩ = some (.slice Ao28 t245.length co28) := (blk_cell BK252.out 4).trans rfl; have hfz41_0 := blk_frozen BK252.out 0; have hfz41_1 := blk_frozen BK252.out 1; have hfz41_2 := blk_frozen BK252.out 2; have hfz41_3 := blk_frozen BK252.out 3; have hfz41_4 := blk_frozen BK252.out 4; have hcz42_0 : w40.cell? ⟨gb232, 0, none⟩ = some (.int .i64 a0_0) := (blk_cell BK232.out 0).trans rfl; have hcz42_1 : w40.cell? ⟨gb232, 1, none⟩ = some (.slice A0_1 l0_1.length c0_1) := (blk_cell BK232.out 1).trans rfl; have hcz42_2 : w40.cell? ⟨gb232, 2, none⟩ = some (.slice A0_2 l0_2.length c0_2) := (blk_cell BK232.out 2).trans rfl; have hcz42_3 : w40.cell? ⟨gb232, 3, none⟩ = some (.slice A0_3 l0_3.length c0_3) := (blk_cell BK232.out 3).trans rfl; have hcz42_4 : w40.cell? ⟨gb232, 4, none⟩ = some (.slice A0_4 l0_4.length c0_4) := (blk_cell BK232.out 4).trans rfl; have hfz42_0 := blk_frozen BK232.out 0; have hfz42_1 := blk_frozen BK232.out 1; have hfz42_2 := blk_frozen BK232.out 2; have hfz42_3 := blk_frozen BK232.out 3; have hfz42_4 := blk_frozen BK232.out 4))
         go_meet
         case rel => exact ⟨_, (((t236.length : Int) != (l0_1.length : Int))), (by first | rfl | (simp; done) | (simp [*]; done)), H', ⟨by have := HJ3.out; first | omega | exact Nat.le_refl _⟩, ⟨by (with_reducible repeat (first | apply a0_ | apply a1_ | apply a2_)); exact HO238.out⟩, ⟨by (with_reducible repeat (first | apply a0_ | apply a1_ | apply a2_)); exact HO241.out⟩, ⟨by (with_reducible repeat (first | apply a0_ | apply a1_ | apply a2_)); exact Kd.R_mono HO244.out (fun _ hk => hk.1)⟩, ⟨by (with_reducible repeat (first | apply a0_ | apply a1_ | apply a2_)); exact Kd.R_mono HO247.out (fun _ hk => hk.1)⟩, ⟨by (with_reducible repeat (first | refine blk_drewN ?_ _ | refine blk_drew ?_ | refine blk_alloc ?_ _)); exact BK232.out⟩, ⟨by (with_reducible repeat (first | refine blk_drewN ?_ _ | refine blk_drew ?_ | refine blk_alloc ?_ _)); exact BK252.out⟩, ⟨by repeat (first | (with_reducible first | exact HB.out | apply b0_ | apply b1_ | apply b2_ | refine below_set ?_ GE232.out | refine below_set ?_ GE252.out) | exact HB.out)⟩⟩
        ·rw [if_neg c37] at H
         have c37b0 : (t235 == a0_0) = false := beq_eq_false_iff_ne.mpr c37
         have c37b1 : (t235 != a0_0) = true := bne_iff_ne.mpr c37
         have H' := M_ H
         clear H
         have hnb43 := NB252_232.out
         have hnc43 := NB232_252.out
         have hcz44_0 : w22.cell? ⟨gb252, 0, none⟩ = some (.int .i64 0) := (blk_cell BK252.out 0).trans rfl
         have hcz44_1 : w22.cell? ⟨gb252, 1, none⟩ = some (.slice none 0 0) := (blk_cell BK252.out 1).trans rfl
         have hcz44_2 : w22.cell? ⟨gb252, 2, none⟩ = some (.slice none 0 0) := (blk_cell BK252.out 2).trans rfl
         have hcz44_3 : w22.cell? ⟨gb252, 3, none⟩ = some (.slice none 0 0) := (blk_cell BK252.out 3).trans rfl
         have hcz44_4 : w22.cell? ⟨gb252, 4, none⟩ = some (.slice none 0 0) := (blk_cell BK252.out 4).trans rfl
         have hfz44_0 := blk_frozen BK252.out 0
         have hfz44_1 := blk_frozen BK252.out 1
         have hfz44_2 := blk_frozen BK252.out 2
         have hfz44_3 := blk_frozen BK252.out 3
         have hfz44_4 := blk_frozen BK252.out 4
         go_wp2_with (first | ((with_reducible refine gate_callee (f := 24) rfl ?_); refine goesL_ (some 40) rfl rfl Try.func24 (by kernel_rfl) rfl #[.agg #[.int .i64 t235, .slice Ao25 t236.length co25, .slice Ao26 t239.length co26, .slice Ao27 t242.length co27, .slice Ao28 t245.length co28]] rfl (by (try simp only [List.map_toArray, List.map_cons, List.map_nil]); first | done | rfl | (simp only [List.length_drop, List.length_take]; rfl)) ?_; (with_reducible refine (gates_Check.calls t235 _ _ t236 _ _ t239 _ _ t242 _ _ t245 t253 _ ?side1 ?side2 ?side3 ?side4 ?side5 ?side6 ?side7 ?side8 A29.out).mono ?_); (case side1 => refine (Kd.R_reads' (e := 86) (base := w.heap.size) (ok := fun k_ => True) (n := t236.length) (c := co25) ?_).2.2; exact (by (with_reducible repeat (first | apply a0_ | apply a1_ | apply a2_)); exact (Kd.R_mono (Kd.R_far (p := ⟨gb252, 4, none⟩) (Kd.R_far (p := ⟨gb252, 3, none⟩) (Kd.R_far (p := ⟨gb252, 2, none⟩) (Kd.R_far (p := ⟨gb252, 1, none⟩) (Kd.R_far (p := ⟨gb252, 0, none⟩) (Kd.R_types HO238.out BK252.out (by decide)) (fun _ hk => hk.2) (.int .i64 t235)) (fun _ hk => hk.2) (.slice Ao25 t236.length co25)) (fun _ hk => hk.2) (.slice Ao26 t239.length co26)) (fun _ hk => hk.2) (.slice Ao27 t242.length co27)) (fun _ hk => hk.2) (.slice Ao28 t245.length co28)) (fun _ h_ => h_.1)))); (case side2 => exact (Kd.R_reads' HO238.out).2.1); (case side3 => refine (Kd.R_reads' (e := 67) (base := w.heap.size) (ok := fun k_ => True) (n := t239.length) (c := co26) ?_).2.2; exact (by (with_reducible repeat (first | apply a0_ | apply a1_ | apply a2_)); exact (Kd.R_mono (Kd.R_far (p := ⟨gb252, 4, none⟩) (Kd.R_far (p := ⟨gb252, 3, none⟩) (Kd.R_far (p := ⟨gb252, 2, none⟩) (Kd.R_far (p := ⟨gb252, 1, none⟩) (Kd.R_far (p := ⟨gb252, 0, none⟩) (Kd.R_types HO241.out BK252.out (by decide)) (fun _ hk => hk.2) (.int .i64 t235)) (fun _ hk => hk.2) (.slice Ao25 t236.length co25)) (fun _ hk => hk.2) (.slice Ao26 t239.length co26)) (fun _ hk => hk.2) (.slice Ao27 t242.length co27)) (fun _ hk => hk.2) (.slice Ao28 t245.length co28)) (fun _ h_ => h_.1)))); (case side4 => exact (Kd.R_reads' HO241.out).2.1); (case side5 => refine (Kd.R_reads' (e := 3) (base := w.heap.size) (ok := fun k_ => (some k_ ≠ (.slice Ao28 t245.length co28 : Value).ownBlock ∧ some k_ ≠ (v249 : Value).ownBlock)) (n := t242.length) (c := co27) ?_).2.2; exact (by (with_reducible repeat (first | apply a0_ | apply a1_ | apply a2_)); exact (Kd.R_mono (Kd.R_far (p := ⟨gb252, 4, none⟩) (Kd.R_far (p := ⟨gb252, 3, none⟩) (Kd.R_far (p := ⟨gb252, 2, none⟩) (Kd.R_far (p := ⟨gb252, 1, none⟩) (Kd.R_far (p := ⟨gb252, 0, none⟩) (Kd.R_types HO244.out BK252.out (by decide)) (fun _ hk => hk.2) (.int .i64 t235)) (fun _ hk => hk.2) (.slice Ao25 t236.length co25)) (fun _ hk => hk.2) (.slice Ao26 t239.length co26)) (fun _ hk => hk.2) (.slice Ao27 t242.length co27)) (fun _ hk => hk.2) (.slice Ao28 t245.length co28)) (fun _ h_ => h_.1)))); (case side6 => exact (Kd.R_reads' HO244.out).2.1); (case side7 => refine (Kd.R_reads' (e := 3) (base := w.heap.size) (ok := fun k_ => (some k_ ≠ (.slice Ao27 t242.length co27 : Value).ownBlock ∧ some k_ ≠ (v249 : Value).ownBlock)) (n := t245.length) (c := co28) ?_).2.2; exact (by (with_reducible repeat (first | apply a0_ | apply a1_ | apply a2_)); exact (Kd.R_mono (Kd.R_far (p := ⟨gb252, 4, none⟩) (Kd.R_far (p := ⟨gb252, 3, none⟩) (Kd.R_far (p := ⟨gb252, 2, none⟩) (Kd.R_far (p := ⟨gb252, 1, none⟩) (Kd.R_far (p := ⟨gb252, 0, none⟩) (Kd.R_types HO247.out BK252.out (by decide)) (fun _ hk => hk.2) (.int .i64 t235)) (fun _ hk => hk.2) (.slice Ao25 t236.length co25)) (fun _ hk => hk.2) (.slice Ao26 t239.length co26)) (fun _ hk => hk.2) (.slice Ao27 t242.length co27)) (fun _ hk => hk.2) (.slice Ao28 t245.length co28)) (fun _ h_ => h_.1)))); (case side8 => exact (Kd.R_reads' HO247.out).2.1); rintro e w45 ⟨rfl, hb⟩; refine ⟨_, rfl, ?_⟩; have n0_ := M_ (Kd.R_below (by (with_reducible repeat (first | apply a0_ | apply a1_ | apply a2_)); exact (Kd.R_mono (Kd.R_far (p := ⟨gb252, 4, none⟩) (Kd.R_far (p := ⟨gb252, 3, none⟩) (Kd.R_far (p := ⟨gb252, 2, none⟩) (Kd.R_far (p := ⟨gb252, 1, none⟩) (Kd.R_far (p := ⟨gb252, 0, none⟩) (Kd.R_types HO238.out BK252.out (by decide)) (fun _ hk => hk.2) (.int .i64 t235)) (fun _ hk => hk.2) (.slice Ao25 t236.length co25)) (fun _ hk => hk.2) (.slice Ao26 t239.length co26)) (fun _ hk => hk.2) (.slice Ao27 t242.length co27)) (fun _ hk => hk.2) (.slice Ao28 t245.length co28)) (fun _ h_ => h_.1))) hb); have n1_ := M_ (Kd.R_below (by (with_reducible repeat (first | apply a0_ | apply a1_ | apply a2_)); exact (Kd.R_mono (Kd.R_far (p := ⟨gb252, 4, none⟩) (Kd.R_far (p := ⟨gb252, 3, none⟩) (Kd.R_far (p := ⟨gb252, 2, none⟩) (Kd.R_far (p := ⟨gb252, 1, none⟩) (Kd.R_far (p := ⟨gb252, 0, none⟩) (Kd.R_types HO241.out BK252.out (by decide)) (fun _ hk => hk.2) (.int .i64 t235)) (fun _ hk => hk.2) (.slice Ao25 t236.length co25)) (fun _ hk => hk.2) (.slice Ao26 t239.length co26)) (fun _ hk => hk.2) (.slice Ao27 t242.length co27)) (fun _ hk => hk.2) (.slice Ao28 t245.length co28)) (fun _ h_ => h_.1))) hb); have n2_ := M_ (Kd.R_below (by (with_reducible repeat (first | apply a0_ | apply a1_ | apply a2_)); exact (Kd.R_mono (Kd.R_far (p := ⟨gb252, 4, none⟩) (Kd.R_far (p := ⟨gb252, 3, none⟩) (Kd.R_far (p := ⟨gb252, 2, none⟩) (Kd.R_far (p := ⟨gb252, 1, none⟩) (Kd.R_far (p := ⟨gb252, 0, none⟩) (Kd.R_types HO244.out BK252.out (by decide)) (fun _ hk => hk.2) (.int .i64 t235)) (fun _ hk => hk.2) (.slice Ao25 t236.length co25)) (fun _ hk => hk.2) (.slice Ao26 t239.length co26)) (fun _ hk => hk.2) (.slice Ao27 t242.length co27)) (fun _ hk => hk.2) (.slice Ao28 t245.length co28)) (fun _ h_ => h_.1))) hb); have n3_ := M_ (Kd.R_below (by (with_reducible repeat (first | apply a0_ | apply a1_ | apply a2_)); exact (Kd.R_mono (Kd.R_far (p := ⟨gb252, 4, none⟩) (Kd.R_far (p := ⟨gb252, 3, none⟩) (Kd.R_far (p := ⟨gb252, 2, none⟩) (Kd.R_far (p := ⟨gb252, 1, none⟩) (Kd.R_far (p := ⟨gb252, 0, none⟩) (Kd.R_types HO247.out BK252.out (by decide)) (fun _ hk => hk.2) (.int .i64 t235)) (fun _ hk => hk.2) (.slice Ao25 t236.length co25)) (fun _ hk => hk.2) (.slice Ao26 t239.length co26)) (fun _ hk => hk.2) (.slice Ao27 t242.length co27)) (fun _ hk => hk.2) (.slice Ao28 t245.length co28)) (fun _ h_ => h_.1))) hb); have n4_ := M_ (Kd.R_below (by (with_reducible repeat (first | apply a0_ | apply a1_ | apply a2_)); exact (Kd.R_mono (Kd.R_far (p := ⟨gb252, 4, none⟩) (Kd.R_far (p := ⟨gb252, 3, none⟩) (Kd.R_far (p := ⟨gb252, 2, none⟩) (Kd.R_far (p := ⟨gb252, 1, none⟩) (Kd.R_far (p := ⟨gb252, 0, none⟩) (Kd.R_types HO250.out BK252.out (by decide)) (fun _ hk => hk.2) (.int .i64 t235)) (fun _ hk => hk.2) (.slice Ao25 t236.length co25)) (fun _ hk => hk.2) (.slice Ao26 t239.length co26)) (fun _ hk => hk.2) (.slice Ao27 t242.length co27)) (fun _ hk => hk.2) (.slice Ao28 t245.length co28)) (fun _ h_ => h_.1))) hb); have n5_ := M_ (blk_below (g := gb232) (o := .cells #[.int .i64 a0_0, .slice A0_1 l0_1.length c0_1, .slice A0_2 l0_2.length c0_2, .slice A0_3 l0_3.length c0_3, .slice A0_4 l0_4.length c0_4] 26 (0, 0)) (by (with_reducible repeat (first | refine blk_drewN ?_ _ | refine blk_drew ?_ | refine blk_alloc ?_ _)); refine blk_far ?_ NB232_252.out _; (with_reducible repeat (first | refine blk_drewN ?_ _ | refine blk_drew ?_ | refine blk_alloc ?_ _)); refine blk_far ?_ NB232_252.out _; (with_reducible repeat (first | refine blk_drewN ?_ _ | refine blk_drew ?_ | refine blk_alloc ?_ _)); refine blk_far ?_ NB232_252.out _; (with_reducible repeat (first | refine blk_drewN ?_ _ | refine blk_drew ?_ | refine blk_alloc ?_ _)); refine blk_far ?_ NB232_252.out _; (with_reducible repeat (first | refine blk_drewN ?_ _ | refine blk_drew ?_ | refine blk_alloc ?_ _)); refine blk_far ?_ NB232_252.out _; (with_reducible repeat (first | refine blk_drewN ?_ _ | refine blk_drew ?_ | refine blk_alloc ?_ _)); exact BK232.out) hb); have n6_ := M_ (blk_below (g := gb252) (o := .cells #[.int .i64 t235, .slice Ao25 t236.length co25, .slice Ao26 t239.length co26, .slice Ao27 t242.length co27, .slice Ao28 t245.length co28] 26 (0, 0)) (by (with_reducible repeat (first | refine blk_drewN ?_ _ | refine blk_drew ?_ | refine blk_alloc ?_ _)); refine blk_put (cs := #[.int .i64 t235, .slice Ao25 t236.length co25, .slice Ao26 t239.length co26, .slice Ao27 t242.length co27, .slice none 0 0]) ?_ 4 _ rfl; (with_reducible repeat (first | refine blk_drewN ?_ _ | refine blk_drew ?_ | refine blk_alloc ?_ _)); refine blk_put (cs := #[.int .i64 t235, .slice Ao25 t236.length co25, .slice Ao26 t239.length co26, .slice none 0 0, .slice none 0 0]) ?_ 3 _ rfl; (with_reducible repeat (first | refine blk_drewN ?_ _ | refine blk_drew ?_ | refine blk_alloc ?_ _)); refine blk_put (cs := #[.int .i64 t235, .slice Ao25 t236.length co25, .slice none 0 0, .slice none 0 0, .slice none 0 0]) ?_ 2 _ rfl; (with_reducible repeat (first | refine blk_drewN ?_ _ | refine blk_drew ?_ | refine blk_alloc ?_ _)); refine blk_put (cs := #[.int .i64 t235, .slice none 0 0, .slice none 0 0, .slice none 0 0, .slice none 0 0]) ?_ 1 _ rfl; (with_reducible repeat (first | refine blk_drewN ?_ _ | refine blk_drew ?_ | refine blk_alloc ?_ _)); refine blk_put (cs := #[.int .i64 0, .slice none 0 0, .slice none 0 0, .slice none 0 0, .slice none 0 0]) ?_ 0 _ rfl; (with_reducible repeat (first | refine blk_drewN ?_ _ | refine blk_drew ?_ | refine blk_alloc ?_ _)); exact BK252.out) hb); have n7_ := M_ (below_step (by repeat (first | (with_reducible first | exact HB.out | apply b0_ | apply b1_ | apply b2_ | refine below_set ?_ GE232.out | refine below_set ?_ GE252.out) | exact HB.out)) hb); clear HO238; clear HO241; clear HO244; clear HO247; clear HO250; clear BK232; clear BK252; clear HB; have HO238 := n0_; have HO241 := n1_; have HO244 := n2_; have HO247 := n3_; have HO250 := n4_; have BK232 := n5_; have BK252 := n6_; have HB := n7_; clear n0_ n1_ n2_ n3_ n4_ n5_ n6_ n7_; (try clear hb); (try clear hb2); (try clear hk); (try clear hi); have hcz46_0 : w45.cell? ⟨gb252, 0, none⟩ = some (.int .i64 t235) := (blk_cell BK252.out 0).trans rfl; have hcz46_1 : w45.cell? ⟨gb252, 1, none⟩ = some (.slice Ao25 t236.length co25) := (blk_cell BK252.out 1).trans rfl; have hcz46_2 : w45.cell? ⟨gb252, 2, none⟩ = some (.slice Ao26 t239.length co26) := (blk_cell BK252.out 2).trans rfl; have hcz46_3 : w45.cell? ⟨gb252, 3, none⟩ = some (.slice Ao27 t242.length co27) := (blk_cell BK252.out 3).trans rfl; have hcz46_4 : w45.cell? ⟨gb252, 4, none⟩ = some (.slice Ao28 t245.length co28) := (blk_cell BK252.out 4).trans rfl; have hfz46_0 := blk_frozen BK252.out 0; have hfz46_1 := blk_frozen BK252.out 1; have hfz46_2 := blk_frozen BK252.out 2; have hfz46_3 := blk_frozen BK252.out 3; have hfz46_4 := blk_frozen BK252.out 4; have hcz47_0 : w45.cell? ⟨gb232, 0, none⟩ = some (.int .i64 a0_0) := (blk_cell BK232.out 0).trans rfl; have hcz47_1 : w45.cell? ⟨gb232, 1, none⟩ = some (.slice A0_1 l0_1.length c0_1) := (blk_cell BK232.out 1).trans rfl; have hcz47_2 : w45.cell? ⟨gb232, 2, none⟩ = some (.slice A0_2 l0_2.length c0_2) := (blk_cell BK232.out 2).trans rfl; have hcz47_3 : w45.cell? ⟨gb232, 3, none⟩ = some (.slice A0_3 l0_3.length c0_3) := (blk_cell BK232.out 3).trans rfl; have hcz47_4 : w45.cell? ⟨gb232, 4, none⟩ = some (.slice A0_4 l0_4.length c0_4) := (blk_cell BK232.out 4).trans rfl; have hfz47_0 := blk_frozen BK232.out 0; have hfz47_1 := blk_frozen BK232.out 1; have hfz47_2 := blk_frozen BK232.out 2; have hfz47_3 := blk_frozen BK232.out 3; have hfz47_4 := blk_frozen BK232.out 4))
         go_meet
         case rel => exact ⟨_, (true), (by first | rfl | (simp; done) | (simp [*]; done)), H', ⟨by have := HJ3.out; first | omega | exact Nat.le_refl _⟩, ⟨by (with_reducible repeat (first | apply a0_ | apply a1_ | apply a2_)); exact HO238.out⟩, ⟨by (with_reducible repeat (first | apply a0_ | apply a1_ | apply a2_)); exact HO241.out⟩, ⟨by (with_reducible repeat (first | apply a0_ | apply a1_ | apply a2_)); exact Kd.R_mono HO244.out (fun _ hk => hk.1)⟩, ⟨by (with_reducible repeat (first | apply a0_ | apply a1_ | apply a2_)); exact Kd.R_mono HO247.out (fun _ hk => hk.1)⟩, ⟨by (with_reducible repeat (first | refine blk_drewN ?_ _ | refine blk_drew ?_ | refine blk_alloc ?_ _)); exact BK232.out⟩, ⟨by (with_reducible repeat (first | refine blk_drewN ?_ _ | refine blk_drew ?_ | refine blk_alloc ?_ _)); exact BK252.out⟩, ⟨by repeat (first | (with_reducible first | exact HB.out | apply b0_ | apply b1_ | apply b2_ | refine below_set ?_ GE232.out | refine below_set ?_ GE252.out) | exact HB.out)⟩⟩
      ·rw [if_neg c30] at H
       have c30b0 : (t253 == 0) = false := beq_eq_false_iff_ne.mpr c30
       have c30b1 : (t253 != 0) = true := bne_iff_ne.mpr c30
       (first | rw [c30b0] | (simp only [i64_w, i32_w]; rw [c30b0]) | skip)
       have H' := M_ H
       clear H
       have hnb48 := NB252_232.out
       have hnc48 := NB232_252.out
       have hcz49_0 : w22.cell? ⟨gb252, 0, none⟩ = some (.int .i64 0) := (blk_cell BK252.out 0).trans rfl
       have hcz49_1 : w22.cell? ⟨gb252, 1, none⟩ = some (.slice none 0 0) := (blk_cell BK252.out 1).trans rfl
       have hcz49_2 : w22.cell? ⟨gb252, 2, none⟩ = some (.slice none 0 0) := (blk_cell BK252.out 2).trans rfl
       have hcz49_3 : w22.cell? ⟨gb252, 3, none⟩ = some (.slice none 0 0) := (blk_cell BK252.out 3).trans rfl
       have hcz49_4 : w22.cell? ⟨gb252, 4, none⟩ = some (.slice none 0 0) := (blk_cell BK252.out 4).trans rfl
       have hfz49_0 := blk_frozen BK252.out 0
       have hfz49_1 := blk_frozen BK252.out 1
       have hfz49_2 := blk_frozen BK252.out 2
       have hfz49_3 := blk_frozen BK252.out 3
       have hfz49_4 := blk_frozen BK252.out 4
       go_wp2_with (first | ((with_reducible refine gate_callee (f := 24) rfl ?_); refine goesL_ (some 40) rfl rfl Try.func24 (by kernel_rfl) rfl #[.agg #[.int .i64 t235, .slice Ao25 t236.length co25, .slice Ao26 t239.length co26, .slice Ao27 t242.length co27, .slice Ao28 t245.length co28]] rfl (by (try simp only [List.map_toArray, List.map_cons, List.map_nil]); first | done | rfl | (simp only [List.length_drop, List.length_take]; rfl)) ?_; (with_reducible refine (gates_Check.calls t235 _ _ t236 _ _ t239 _ _ t242 _ _ t245 t253 _ ?side1 ?side2 ?side3 ?side4 ?side5 ?side6 ?side7 ?side8 A29.out).mono ?_); (case side1 => refine (Kd.R_reads' (e := 86) (base := w.heap.size) (ok := fun k_ => True) (n := t236.length) (c := co25) ?_).2.2; exact (by (with_reducible repeat (first | apply a0_ | apply a1_ | apply a2_)); exact (Kd.R_mono (Kd.R_far (p := ⟨gb252, 4, none⟩) (Kd.R_far (p := ⟨gb252, 3, none⟩) (Kd.R_far (p := ⟨gb252, 2, none⟩) (Kd.R_far (p := ⟨gb252, 1, none⟩) (Kd.R_far (p := ⟨gb252, 0, none⟩) (Kd.R_types HO238.out BK252.out (by decide)) (fun _ hk => hk.2) (.int .i64 t235)) (fun _ hk => hk.2) (.slice Ao25 t236.length co25)) (fun _ hk => hk.2) (.slice Ao26 t239.length co26)) (fun _ hk => hk.2) (.slice Ao27 t242.length co27)) (fun _ hk => hk.2) (.slice Ao28 t245.length co28)) (fun _ h_ => h_.1)))); (case side2 => exact (Kd.R_reads' HO238.out).2.1); (case side3 => refine (Kd.R_reads' (e := 67) (base := w.heap.size) (ok := fun k_ => True) (n := t239.length) (c := co26) ?_).2.2; exact (by (with_reducible repeat (first | apply a0_ | apply a1_ | apply a2_)); exact (Kd.R_mono (Kd.R_far (p := ⟨gb252, 4, none⟩) (Kd.R_far (p := ⟨gb252, 3, none⟩) (Kd.R_far (p := ⟨gb252, 2, none⟩) (Kd.R_far (p := ⟨gb252, 1, none⟩) (Kd.R_far (p := ⟨gb252, 0, none⟩) (Kd.R_types HO241.out BK252.out (by decide)) (fun _ hk => hk.2) (.int .i64 t235)) (fun _ hk => hk.2) (.slice Ao25 t236.length co25)) (fun _ hk => hk.2) (.slice Ao26 t239.length co26)) (fun _ hk => hk.2) (.slice Ao27 t242.length co27)) (fun _ hk => hk.2) (.slice Ao28 t245.length co28)) (fun _ h_ => h_.1)))); (case side4 => exact (Kd.R_reads' HO241.out).2.1); (case side5 => refine (Kd.R_reads' (e := 3) (base := w.heap.size) (ok := fun k_ => (some k_ ≠ (.slice Ao28 t245.length co28 : Value).ownBlock ∧ some k_ ≠ (v249 : Value).ownBlock)) (n := t242.length) (c := co27) ?_).2.2; exact (by (with_reducible repeat (first | apply a0_ | apply a1_ | apply a2_)); exact (Kd.R_mono (Kd.R_far (p := ⟨gb252, 4, none⟩) (Kd.R_far (p := ⟨gb252, 3, none⟩) (Kd.R_far (p := ⟨gb252, 2, none⟩) (Kd.R_far (p := ⟨gb252, 1, none⟩) (Kd.R_far (p := ⟨gb252, 0, none⟩) (Kd.R_types HO244.out BK252.out (by decide)) (fun _ hk => hk.2) (.int .i64 t235)) (fun _ hk => hk.2) (.slice Ao25 t236.length co25)) (fun _ hk => hk.2) (.slice Ao26 t239.length co26)) (fun _ hk => hk.2) (.slice Ao27 t242.length co27)) (fun _ hk => hk.2) (.slice Ao28 t245.length co28)) (fun _ h_ => h_.1)))); (case side6 => exact (Kd.R_reads' HO244.out).2.1); (case side7 => refine (Kd.R_reads' (e := 3) (base := w.heap.size) (ok := fun k_ => (some k_ ≠ (.slice Ao27 t242.length co27 : Value).ownBlock ∧ some k_ ≠ (v249 : Value).ownBlock)) (n := t245.length) (c := co28) ?_).2.2; exact (by (with_reducible repeat (first | apply a0_ | apply a1_ | apply a2_)); exact (Kd.R_mono (Kd.R_far (p := ⟨gb252, 4, none⟩) (Kd.R_far (p := ⟨gb252, 3, none⟩) (Kd.R_far (p := ⟨gb252, 2, none⟩) (Kd.R_far (p := ⟨gb252, 1, none⟩) (Kd.R_far (p := ⟨gb252, 0, none⟩) (Kd.R_types HO247.out BK252.out (by decide)) (fun _ hk => hk.2) (.int .i64 t235)) (fun _ hk => hk.2) (.slice Ao25 t236.length co25)) (fun _ hk => hk.2) (.slice Ao26 t239.length co26)) (fun _ hk => hk.2) (.slice Ao27 t242.length co27)) (fun _ hk => hk.2) (.slice Ao28 t245.length co28)) (fun _ h_ => h_.1)))); (case side8 => exact (Kd.R_reads' HO247.out).2.1); rintro e w50 ⟨rfl, hb⟩; refine ⟨_, rfl, ?_⟩; have n0_ := M_ (Kd.R_below (by (with_reducible repeat (first | apply a0_ | apply a1_ | apply a2_)); exact (Kd.R_mono (Kd.R_far (p := ⟨gb252, 4, none⟩) (Kd.R_far (p := ⟨gb252, 3, none⟩) (Kd.R_far (p := ⟨gb252, 2, none⟩) (Kd.R_far (p := ⟨gb252, 1, none⟩) (Kd.R_far (p := ⟨gb252, 0, none⟩) (Kd.R_types HO238.out BK252.out (by decide)) (fun _ hk => hk.2) (.int .i64 t235)) (fun _ hk => hk.2) (.slice Ao25 t236.length co25)) (fun _ hk => hk.2) (.slice Ao26 t239.length co26)) (fun _ hk => hk.2) (.slice Ao27 t242.length co27)) (fun _ hk => hk.2) (.slice Ao28 t245.length co28)) (fun _ h_ => h_.1))) hb); have n1_ := M_ (Kd.R_below (by (with_reducible repeat (first | apply a0_ | apply a1_ | apply a2_)); exact (Kd.R_mono (Kd.R_far (p := ⟨gb252, 4, none⟩) (Kd.R_far (p := ⟨gb252, 3, none⟩) (Kd.R_far (p := ⟨gb252, 2, none⟩) (Kd.R_far (p := ⟨gb252, 1, none⟩) (Kd.R_far (p := ⟨gb252, 0, none⟩) (Kd.R_types HO241.out BK252.out (by decide)) (fun _ hk => hk.2) (.int .i64 t235)) (fun _ hk => hk.2) (.slice Ao25 t236.length co25)) (fun _ hk => hk.2) (.slice Ao26 t239.length co26)) (fun _ hk => hk.2) (.slice Ao27 t242.length co27)) (fun _ hk => hk.2) (.slice Ao28 t245.length co28)) (fun _ h_ => h_.1))) hb); have n2_ := M_ (Kd.R_below (by (with_reducible repeat (first | apply a0_ | apply a1_ | apply a2_)); exact (Kd.R_mono (Kd.R_far (p := ⟨gb252, 4, none⟩) (Kd.R_far (p := ⟨gb252, 3, none⟩) (Kd.R_far (p := ⟨gb252, 2, none⟩) (Kd.R_far (p := ⟨gb252, 1, none⟩) (Kd.R_far (p := ⟨gb252, 0, none⟩) (Kd.R_types HO244.out BK252.out (by decide)) (fun _ hk => hk.2) (.int .i64 t235)) (fun _ hk => hk.2) (.slice Ao25 t236.length co25)) (fun _ hk => hk.2) (.slice Ao26 t239.length co26)) (fun _ hk => hk.2) (.slice Ao27 t242.length co27)) (fun _ hk => hk.2) (.slice Ao28 t245.length co28)) (fun _ h_ => h_.1))) hb); have n3_ := M_ (Kd.R_below (by (with_reducible repeat (first | apply a0_ | apply a1_ | apply a2_)); exact (Kd.R_mono (Kd.R_far (p := ⟨gb252, 4, none⟩) (Kd.R_far (p := ⟨gb252, 3, none⟩) (Kd.R_far (p := ⟨gb252, 2, none⟩) (Kd.R_far (p := ⟨gb252, 1, none⟩) (Kd.R_far (p := ⟨gb252, 0, none⟩) (Kd.R_types HO247.out BK252.out (by decide)) (fun _ hk => hk.2) (.int .i64 t235)) (fun _ hk => hk.2) (.slice Ao25 t236.length co25)) (fun _ hk => hk.2) (.slice Ao26 t239.length co26)) (fun _ hk => hk.2) (.slice Ao27 t242.length co27)) (fun _ hk => hk.2) (.slice Ao28 t245.length co28)) (fun _ h_ => h_.1))) hb); have n4_ := M_ (Kd.R_below (by (with_reducible repeat (first | apply a0_ | apply a1_ | apply a2_)); exact (Kd.R_mono (Kd.R_far (p := ⟨gb252, 4, none⟩) (Kd.R_far (p := ⟨gb252, 3, none⟩) (Kd.R_far (p := ⟨gb252, 2, none⟩) (Kd.R_far (p := ⟨gb252, 1, none⟩) (Kd.R_far (p := ⟨gb252, 0, none⟩) (Kd.R_types HO250.out BK252.out (by decide)) (fun _ hk => hk.2) (.int .i64 t235)) (fun _ hk => hk.2) (.slice Ao25 t236.length co25)) (fun _ hk => hk.2) (.slice Ao26 t239.length co26)) (fun _ hk => hk.2) (.slice Ao27 t242.length co27)) (fun _ hk => hk.2) (.slice Ao28 t245.length co28)) (fun _ h_ => h_.1))) hb); have n5_ := M_ (blk_below (g := gb232) (o := .cells #[.int .i64 a0_0, .slice A0_1 l0_1.length c0_1, .slice A0_2 l0_2.length c0_2, .slice A0_3 l0_3.length c0_3, .slice A0_4 l0_4.length c0_4] 26 (0, 0)) (by (with_reducible repeat (first | refine blk_drewN ?_ _ | refine blk_drew ?_ | refine blk_alloc ?_ _)); refine blk_far ?_ NB232_252.out _; (with_reducible repeat (first | refine blk_drewN ?_ _ | refine blk_drew ?_ | refine blk_alloc ?_ _)); refine blk_far ?_ NB232_252.out _; (with_reducible repeat (first | refine blk_drewN ?_ _ | refine blk_drew ?_ | refine blk_alloc ?_ _)); refine blk_far ?_ NB232_252.out _; (with_reducible repeat (first | refine blk_drewN ?_ _ | refine blk_drew ?_ | refine blk_alloc ?_ _)); refine blk_far ?_ NB232_252.out _; (with_reducible repeat (first | refine blk_drewN ?_ _ | refine blk_drew ?_ | refine blk_alloc ?_ _)); refine blk_far ?_ NB232_252.out _; (with_reducible repeat (first | refine blk_drewN ?_ _ | refine blk_drew ?_ | refine blk_alloc ?_ _)); exact BK232.out) hb); have n6_ := M_ (blk_below (g := gb252) (o := .cells #[.int .i64 t235, .slice Ao25 t236.length co25, .slice Ao26 t239.length co26, .slice Ao27 t242.length co27, .slice Ao28 t245.length co28] 26 (0, 0)) (by (with_reducible repeat (first | refine blk_drewN ?_ _ | refine blk_drew ?_ | refine blk_alloc ?_ _)); refine blk_put (cs := #[.int .i64 t235, .slice Ao25 t236.length co25, .slice Ao26 t239.length co26, .slice Ao27 t242.length co27, .slice none 0 0]) ?_ 4 _ rfl; (with_reducible repeat (first | refine blk_drewN ?_ _ | refine blk_drew ?_ | refine blk_alloc ?_ _)); refine blk_put (cs := #[.int .i64 t235, .slice Ao25 t236.length co25, .slice Ao26 t239.length co26, .slice none 0 0, .slice none 0 0]) ?_ 3 _ rfl; (with_reducible repeat (first | refine blk_drewN ?_ _ | refine blk_drew ?_ | refine blk_alloc ?_ _)); refine blk_put (cs := #[.int .i64 t235, .slice Ao25 t236.length co25, .slice none 0 0, .slice none 0 0, .slice none 0 0]) ?_ 2 _ rfl; (with_reducible repeat (first | refine blk_drewN ?_ _ | refine blk_drew ?_ | refine blk_alloc ?_ _)); refine blk_put (cs := #[.int .i64 t235, .slice none 0 0, .slice none 0 0, .slice none 0 0, .slice none 0 0]) ?_ 1 _ rfl; (with_reducible repeat (first | refine blk_drewN ?_ _ | refine blk_drew ?_ | refine blk_alloc ?_ _)); refine blk_put (cs := #[.int .i64 0, .slice none 0 0, .slice none 0 0, .slice none 0 0, .slice none 0 0]) ?_ 0 _ rfl; (with_reducible repeat (first | refine blk_drewN ?_ _ | refine blk_drew ?_ | refine blk_alloc ?_ _)); exact BK252.out) hb); have n7_ := M_ (below_step (by repeat (first | (with_reducible first | exact HB.out | apply b0_ | apply b1_ | apply b2_ | refine below_set ?_ GE232.out | refine below_set ?_ GE252.out) | exact HB.out)) hb); clear HO238; clear HO241; clear HO244; clear HO247; clear HO250; clear BK232; clear BK252; clear HB; have HO238 := n0_; have HO241 := n1_; have HO244 := n2_; have HO247 := n3_; have HO250 := n4_; have BK232 := n5_; have BK252 := n6_; have HB := n7_; clear n0_ n1_ n2_ n3_ n4_ n5_ n6_ n7_; (try clear hb); (try clear hb2); (try clear hk); (try clear hi)))
       go_meet
       case rel => exact ⟨_, (true), (by first | rfl | (simp; done) | (simp [*]; done)), H', ⟨by have := HJ3.out; first | omega | exact Nat.le_refl _⟩, ⟨by (with_reducible repeat (first | apply a0_ | apply a1_ | apply a2_)); exact HO238.out⟩, ⟨by (with_reducible repeat (first | apply a0_ | apply a1_ | apply a2_)); exact HO241.out⟩, ⟨by (with_reducible repeat (first | apply a0_ | apply a1_ | apply a2_)); exact Kd.R_mono HO244.out (fun _ hk => hk.1)⟩, ⟨by (with_reducible repeat (first | apply a0_ | apply a1_ | apply a2_)); exact Kd.R_mono HO247.out (fun _ hk => hk.1)⟩, ⟨by (with_reducible repeat (first | refine blk_drewN ?_ _ | refine blk_drew ?_ | refine blk_alloc ?_ _)); exact BK232.out⟩, ⟨by (with_reducible repeat (first | refine blk_drewN ?_ _ | refine blk_drew ?_ | refine blk_alloc ?_ _)); exact BK252.out⟩, ⟨by repeat (first | (with_reducible first | exact HB.out | apply b0_ | apply b1_ | apply b2_ | refine below_set ?_ GE232.out | refine below_set ?_ GE252.out) | exact HB.out)⟩⟩
     case rest =>
      clear HC19
      try clear c1
      try clear c2
      try clear p2
      try clear c3
      try clear c4
      try clear c6
      try clear c8
      try clear c11
      try clear c11b0
      try clear c11b1
      try clear c12
      try clear c16
      try clear c18
      try clear c18b0
      try clear c18b1
      try clear c23
      try clear c24
      try clear c30
      try clear c30b0
      try clear c30b1
      try clear c31
      try clear c31b0
      try clear c31b1
      try clear c32
      try clear c37
      try clear c37b0
      try clear c37b1
      try clear c38
      try clear c43
      try clear c48
      try clear hcz12_0
      try clear hcz12_1
      try clear hcz12_2
      try clear hcz12_3
      try clear hcz12_4
      try clear hcz14_0
      try clear hcz14_1
      try clear hcz14_2
      try clear hcz14_3
      try clear hcz14_4
      try clear hcz20_0
      try clear hcz20_1
      try clear hcz20_2
      try clear hcz20_3
      try clear hcz20_4
      try clear hcz24_0
      try clear hcz24_1
      try clear hcz24_2
      try clear hcz24_3
      try clear hcz24_4
      try clear hcz33_0
      try clear hcz33_1
      try clear hcz33_2
      try clear hcz33_3
      try clear hcz33_4
      try clear hcz35_0
      try clear hcz35_1
      try clear hcz35_2
      try clear hcz35_3
      try clear hcz35_4
      try clear hcz36_0
      try clear hcz36_1
      try clear hcz36_2
      try clear hcz36_3
      try clear hcz36_4
      try clear hcz39_0
      try clear hcz39_1
      try clear hcz39_2
      try clear hcz39_3
      try clear hcz39_4
      try clear hcz41_0
      try clear hcz41_1
      try clear hcz41_2
      try clear hcz41_3
      try clear hcz41_4
      try clear hcz42_0
      try clear hcz42_1
      try clear hcz42_2
      try clear hcz42_3
      try clear hcz42_4
      try clear hcz44_0
      try clear hcz44_1
      try clear hcz44_2
      try clear hcz44_3
      try clear hcz44_4
      try clear hcz46_0
      try clear hcz46_1
      try clear hcz46_2
      try clear hcz46_3
      try clear hcz46_4
      try clear hcz47_0
      try clear hcz47_1
      try clear hcz47_2
      try clear hcz47_3
      try clear hcz47_4
      try clear hcz49_0
      try clear hcz49_1
      try clear hcz49_2
      try clear hcz49_3
      try clear hcz49_4
      try clear hcz9_0
      try clear hcz9_1
      try clear hcz9_2
      try clear hcz9_3
      try clear hcz9_4
      try clear hfz12_0
      try clear hfz12_1
      try clear hfz12_2
      try clear hfz12_3
      try clear hfz12_4
      try clear hfz14_0
      try clear hfz14_1
      try clear hfz14_2
      try clear hfz14_3
      try clear hfz14_4
      try clear hfz20_0
      try clear hfz20_1
      try clear hfz20_2
      try clear hfz20_3
      try clear hfz20_4
      try clear hfz24_0
      try clear hfz24_1
      try clear hfz24_2
      try clear hfz24_3
      try clear hfz24_4
      try clear hfz33_0
      try clear hfz33_1
      try clear hfz33_2
      try clear hfz33_3
      try clear hfz33_4
      try clear hfz35_0
      try clear hfz35_1
      try clear hfz35_2
      try clear hfz35_3
      try clear hfz35_4
      try clear hfz36_0
      try clear hfz36_1
      try clear hfz36_2
      try clear hfz36_3
      try clear hfz36_4
      try clear hfz39_0
      try clear hfz39_1
      try clear hfz39_2
      try clear hfz39_3
      try clear hfz39_4
      try clear hfz41_0
      try clear hfz41_1
      try clear hfz41_2
      try clear hfz41_3
      try clear hfz41_4
      try clear hfz42_0
      try clear hfz42_1
      try clear hfz42_2
      try clear hfz42_3
      try clear hfz42_4
      try clear hfz44_0
      try clear hfz44_1
      try clear hfz44_2
      try clear hfz44_3
      try clear hfz44_4
      try clear hfz46_0
      try clear hfz46_1
      try clear hfz46_2
      try clear hfz46_3
      try clear hfz46_4
      try clear hfz47_0
      try clear hfz47_1
      try clear hfz47_2
      try clear hfz47_3
      try clear hfz47_4
      try clear hfz49_0
      try clear hfz49_1
      try clear hfz49_2
      try clear hfz49_3
      try clear hfz49_4
      try clear hfz9_0
      try clear hfz9_1
      try clear hfz9_2
      try clear hfz9_3
      try clear hfz9_4
      try clear p2
      obtain ⟨kq, x66_18, rfl, HA, HJ18, HO_253001, HO_253002, HO_253003, HO_253004, BK232, BK252, HB⟩ := hcut
      cases kq with
      | zero => exact absurd HA.out (by simp [spiritlevellaw26_HashFew.j1])
      | succ kj18 =>
       have H := HA.out
       clear HA
       simp only [spiritlevellaw26_HashFew.j1] at H
       by_cases c51 : x66_18 = true
       ·subst c51
        have H1 : (some false) = some r := by rw [if_pos rfl] at H; exact H
        clear H
        have H := H1
        clear H1
        exact absurd ((Option.some.inj H).trans HTR_.out) (by decide)
       ·replace c51 := Bool.eq_false_iff.mpr c51
        subst c51
        have H1 : (spiritlevellaw26_HashFew.l0 kj18 t233 0 t235 t236 t239 t242 t245) = some r := by rw [if_neg (show ¬ (false = true) by decide)] at H; exact H
        clear H
        have H := H1
        clear H1
        have H' := M_ H
        clear H
        go_wp2
        go_loopg [9] kj18 (fun kq v9 w' => ∃ (x9_3 : Int), v9 = .int .i64 x9_3 ∧ Aside0 (spiritlevellaw26_HashFew.l0 kq t233 x9_3 t235 t236 t239 t242 t245 = some r) ∧ Aside0 (kq ≤ kj18) ∧ Aside0 (Kd.R k86 86 w' w.heap.size (fun _ => True) (.slice Ao25 t236.length co25) t236) ∧ Aside0 (Kd.R k67 67 w' w.heap.size (fun _ => True) (.slice Ao26 t239.length co26) t239) ∧ Aside0 (Kd.R (Kd.int .i64) 3 w' w.heap.size (fun k_ => some k_ ≠ ((.slice Ao28 t245.length co28) : Value).ownBlock) (.slice Ao27 t242.length co27) t242) ∧ Aside0 (Kd.R (Kd.int .i64) 3 w' w.heap.size (fun k_ => some k_ ≠ ((.slice Ao27 t242.length co27) : Value).ownBlock) (.slice Ao28 t245.length co28) t245) ∧ Aside0 (w'.heap[gb232]? = some (.cells #[.int .i64 a0_0, (.slice A0_1 l0_1.length c0_1), (.slice A0_2 l0_2.length c0_2), (.slice A0_3 l0_3.length c0_3), (.slice A0_4 l0_4.length c0_4)] 26 (0, 0))) ∧ Aside0 (w'.heap[gb252]? = some (.cells #[.int .i64 t235, (.slice Ao25 t236.length co25), (.slice Ao26 t239.length co26), (.slice Ao27 t242.length co27), (.slice Ao28 t245.length co28)] 26 (0, 0))) ∧ Aside0 (Below w.heap.size w w'))
        case atStart => exact ⟨(0), (by first | rfl | (simp; done) | (simp [*]; done)), H', ⟨Nat.le_refl _⟩, ⟨by (with_reducible repeat (first | apply a0_ | apply a1_ | apply a2_)); exact HO_253001.out⟩, ⟨by (with_reducible repeat (first | apply a0_ | apply a1_ | apply a2_)); exact HO_253002.out⟩, ⟨by (with_reducible repeat (first | apply a0_ | apply a1_ | apply a2_)); exact HO_253003.out⟩, ⟨by (with_reducible repeat (first | apply a0_ | apply a1_ | apply a2_)); exact HO_253004.out⟩, ⟨by (with_reducible repeat (first | refine blk_drewN ?_ _ | refine blk_drew ?_ | refine blk_alloc ?_ _)); exact BK232.out⟩, ⟨by (with_reducible repeat (first | refine blk_drewN ?_ _ | refine blk_drew ?_ | refine blk_alloc ?_ _)); exact BK252.out⟩, ⟨by repeat (first | (with_reducible first | exact HB.out | apply b0_ | apply b1_ | apply b2_ | refine below_set ?_ GE232.out | refine below_set ?_ GE252.out) | exact HB.out)⟩⟩
        case round =>
         clear H'
         try clear c1
         try clear c2
         try clear p2
         try clear c3
         try clear c4
         try clear c5
         try clear c6
         try clear c8
         try clear c11
         try clear c11b0
         try clear c11b1
         try clear c12
         try clear c16
         try clear c18
         try clear c18b0
         try clear c18b1
         try clear c23
         try clear c24
         try clear c30
         try clear c30b0
         try clear c30b1
         try clear c31
         try clear c31b0
         try clear c31b1
         try clear c32
         try clear c37
         try clear c37b0
         try clear c37b1
         try clear c38
         try clear c43
         try clear c48
         try clear c51
         try clear hcz12_0
         try clear hcz12_1
         try clear hcz12_2
         try clear hcz12_3
         try clear hcz12_4
         try clear hcz14_0
         try clear hcz14_1
         try clear hcz14_2
         try clear hcz14_3
         try clear hcz14_4
         try clear hcz20_0
         try clear hcz20_1
         try clear hcz20_2
         try clear hcz20_3
         try clear hcz20_4
         try clear hcz24_0
         try clear hcz24_1
         try clear hcz24_2
         try clear hcz24_3
         try clear hcz24_4
         try clear hcz33_0
         try clear hcz33_1
         try clear hcz33_2
         try clear hcz33_3
         try clear hcz33_4
         try clear hcz35_0
         try clear hcz35_1
         try clear hcz35_2
         try clear hcz35_3
         try clear hcz35_4
         try clear hcz36_0
         try clear hcz36_1
         try clear hcz36_2
         try clear hcz36_3
         try clear hcz36_4
         try clear hcz39_0
         try clear hcz39_1
         try clear hcz39_2
         try clear hcz39_3
         try clear hcz39_4
         try clear hcz41_0
         try clear hcz41_1
         try clear hcz41_2
         try clear hcz41_3
         try clear hcz41_4
         try clear hcz42_0
         try clear hcz42_1
         try clear hcz42_2
         try clear hcz42_3
         try clear hcz42_4
         try clear hcz44_0
         try clear hcz44_1
         try clear hcz44_2
         try clear hcz44_3
         try clear hcz44_4
         try clear hcz46_0
         try clear hcz46_1
         try clear hcz46_2
         try clear hcz46_3
         try clear hcz46_4
         try clear hcz47_0
         try clear hcz47_1
         try clear hcz47_2
         try clear hcz47_3
         try clear hcz47_4
         try clear hcz49_0
         try clear hcz49_1
         try clear hcz49_2
         try clear hcz49_3
         try clear hcz49_4
         try clear hcz9_0
         try clear hcz9_1
         try clear hcz9_2
         try clear hcz9_3
         try clear hcz9_4
         try clear hfz12_0
         try clear hfz12_1
         try clear hfz12_2
         try clear hfz12_3
         try clear hfz12_4
         try clear hfz14_0
         try clear hfz14_1
         try clear hfz14_2
         try clear hfz14_3
         try clear hfz14_4
         try clear hfz20_0
         try clear hfz20_1
         try clear hfz20_2
         try clear hfz20_3
         try clear hfz20_4
         try clear hfz24_0
         try clear hfz24_1
         try clear hfz24_2
         try clear hfz24_3
         try clear hfz24_4
         try clear hfz33_0
         try clear hfz33_1
         try clear hfz33_2
         try clear hfz33_3
         try clear hfz33_4
         try clear hfz35_0
         try clear hfz35_1
         try clear hfz35_2
         try clear hfz35_3
         try clear hfz35_4
         try clear hfz36_0
         try clear hfz36_1
         try clear hfz36_2
         try clear hfz36_3
         try clear hfz36_4
         try clear hfz39_0
         try clear hfz39_1
         try clear hfz39_2
         try clear hfz39_3
         try clear hfz39_4
         try clear hfz41_0
         try clear hfz41_1
         try clear hfz41_2
         try clear hfz41_3
         try clear hfz41_4
         try clear hfz42_0
         try clear hfz42_1
         try clear hfz42_2
         try clear hfz42_3
         try clear hfz42_4
         try clear hfz44_0
         try clear hfz44_1
         try clear hfz44_2
         try clear hfz44_3
         try clear hfz44_4
         try clear hfz46_0
         try clear hfz46_1
         try clear hfz46_2
         try clear hfz46_3
         try clear hfz46_4
         try clear hfz47_0
         try clear hfz47_1
         try clear hfz47_2
         try clear hfz47_3
         try clear hfz47_4
         try clear hfz49_0
         try clear hfz49_1
         try clear hfz49_2
         try clear hfz49_3
         try clear hfz49_4
         try clear hfz9_0
         try clear hfz9_1
         try clear hfz9_2
         try clear hfz9_3
         try clear hfz9_4
         try clear p2
         obtain ⟨x9_3, rfl, HA, HK3, HO_253001, HO_253002, HO_253003, HO_253004, BK232, BK252, HB⟩ := hrel
         cases gk with
         | zero => exact absurd HA.out (by simp [spiritlevellaw26_HashFew.l0])
         | succ k3 =>
          have H := HA.out
          clear HA
          simp only [spiritlevellaw26_HashFew.l0] at H
          by_cases c52 : x9_3 < (t239.length : Int)
          ·rw [if_pos c52] at H
           have c52b0 : decide (x9_3 < (t239.length : Int)) = true := decide_eq_true c52
           clear c52
           by_cases c53 : 0 ≤ x9_3
           ·rw [if_pos c53] at H
            have c53b0 : decide (0 ≤ x9_3) = true := decide_eq_true c53
            clear c53
            replace H := Option.bind_eq_some_iff.mp H
            obtain ⟨⟨t287, t288, t289⟩, A540, H⟩ := H
            replace H : (if t289 = 0 then (spiritlevellaw26_HashFew.j3 k3 t233 x9_3 t288 t235 t236 t239 t242 t245) else (spiritlevellaw26_HashFew.j3 k3 t233 x9_3 true t235 t236 t239 t242 t245)) = some r := H
            have A54 := M_ A540
            clear A540
            have HC55 := M_ H
            clear H
            have hnb56 := NB252_232.out
            have hnc56 := NB232_252.out
            have hcz57_0 : wr.cell? ⟨gb252, 0, none⟩ = some (.int .i64 t235) := (blk_cell BK252.out 0).trans rfl
            have hcz57_1 : wr.cell? ⟨gb252, 1, none⟩ = some (.slice Ao25 t236.length co25) := (blk_cell BK252.out 1).trans rfl
            have hcz57_2 : wr.cell? ⟨gb252, 2, none⟩ = some (.slice Ao26 t239.length co26) := (blk_cell BK252.out 2).trans rfl
            have hcz57_3 : wr.cell? ⟨gb252, 3, none⟩ = some (.slice Ao27 t242.length co27) := (blk_cell BK252.out 3).trans rfl
            have hcz57_4 : wr.cell? ⟨gb252, 4, none⟩ = some (.slice Ao28 t245.length co28) := (blk_cell BK252.out 4).trans rfl
            have hfz57_0 := blk_frozen BK252.out 0
            have hfz57_1 := blk_frozen BK252.out 1
            have hfz57_2 := blk_frozen BK252.out 2
            have hfz57_3 := blk_frozen BK252.out 3
            have hfz57_4 := blk_frozen BK252.out 4
            try go_wp2
            have n0_ := M_ (Kd.R_drew HO_253001.out)
            have n1_ := M_ (Kd.R_drew HO_253002.out)
            have n2_ := M_ (Kd.R_drew HO_253003.out)
            have n3_ := M_ (Kd.R_drew HO_253004.out)
            have n4_ := M_ (blk_drew BK232.out)
            have n5_ := M_ (blk_drew BK252.out)
            have n6_ := M_ (below_drew1 HB.out)
            clear HO_253001
            clear HO_253002
            clear HO_253003
            clear HO_253004
            clear BK232
            clear BK252
            clear HB
            have HO_253001 := n0_
            have HO_253002 := n1_
            have HO_253003 := n2_
            have HO_253004 := n3_
            have BK232 := n4_
            have BK252 := n5_
            have HB := n6_
            clear n0_ n1_ n2_ n3_ n4_ n5_ n6_
            have p285 : 0 ≤ (x9_3 : Int) := of_decide_eq_true (by first | (with_reducible assumption) | assumption)
            have q285 : x9_3 < (t239.length : Int) := of_decide_eq_true (by first | (with_reducible assumption) | assumption)
            obtain ⟨ad285, e285, hx285_0, hx285_1⟩ := at_T67 (Kd.R_reads' HO_253002.out).2.2 x9_3 p285 q285
            cases e285
            replace p285 := eq_true p285
            replace q285 := eq_true q285
            have p286 : 0 ≤ (x9_3 : Int) := of_decide_eq_true (by first | (with_reducible assumption) | assumption)
            have q286 : x9_3 < (t239.length : Int) := of_decide_eq_true (by first | (with_reducible assumption) | assumption)
            obtain ⟨ad286, e286, hx286_0, hx286_1⟩ := at_T67 (Kd.R_reads' HO_253002.out).2.2 x9_3 p286 q286
            obtain rfl : ad285 = ad286 := (by injection e286)
            replace p286 := eq_true p286
            replace q286 := eq_true q286
            refine start_ (n := 20) (S := fun w' => w'.cell? ⟨gb252, 0, none⟩ = some (.int .i64 t235) ∧ w'.cell? ⟨gb252, 1, none⟩ = some (.slice Ao25 t236.length co25) ∧ w'.cell? ⟨gb252, 2, none⟩ = some (.slice (some ad285) t239.length co26) ∧ w'.cell? ⟨gb252, 3, none⟩ = some (.slice Ao27 t242.length co27) ∧ w'.cell? ⟨gb252, 4, none⟩ = some (.slice Ao28 t245.length co28) ∧ w'.cell? (ad285.add ((x9_3).toNat * 2)) = some (.int .i64 ((rd_T67 t239 x9_3).f0)) ∧ w'.cell? ⟨(ad285.add ((x9_3).toNat * 2)).block, (ad285.add ((x9_3).toNat * 2)).off + 1, none⟩ = some (.int .i64 ((rd_T67 t239 x9_3).f1)) ∧ w'.cell? (ad285.add ((x9_3).toNat * 2)) = some (.int .i64 ((rd_T67 t239 x9_3).f0)) ∧ w'.cell? ⟨(ad285.add ((x9_3).toNat * 2)).block, (ad285.add ((x9_3).toNat * 2)).off + 1, none⟩ = some (.int .i64 ((rd_T67 t239 x9_3).f1))) (ds := []) z35_ (by kernel_rfl) rfl rfl ⟨(blk_cell BK252.out 0).trans rfl, (blk_cell BK252.out 1).trans rfl, (blk_cell BK252.out 2).trans rfl, (blk_cell BK252.out 3).trans rfl, (blk_cell BK252.out 4).trans rfl, hx285_0, hx285_1, hx286_0, hx286_1⟩ (fun hHeld => ?_); refine with_tabW spiritlevellaw26_HashFew.tab12 spiritlevellaw26_HashFew.bits12 (fun HT_ HW_ => ?_)
            generalize wr.drew = w58 at HO_253001 HO_253002 HO_253003 HO_253004 BK232 BK252 HB hx285_0 hx285_1 hx286_0 hx286_1 hHeld ⊢
            refine pure_ (i := 0) (N := some 75) (v := ?_) (a' := ?_) z36_ rfl rfl (any_of HT_.out (by kernel_rfl)) (fun _ _ _ h => h) (Or.inl ⟨by rfl, ?_⟩) ?_ ?_
            rotate_left
            ·intro w'
             go_simp
             with_reducible rfl
            rotate_left
            ·simp only [Act.put, e1_, e2_, e3_, i64_w, i32_w]
             rfl
            refine pure_ (i := 2) (N := some 77) (v := ?_) (a' := ?_) z37_ rfl rfl (any_of HT_.out (by kernel_rfl)) (fun _ _ _ h => h) (Or.inl ⟨by rfl, ?_⟩) ?_ ?_
            rotate_left
            ·intro w'
             go_simp
             with_reducible rfl
            rotate_left
            ·simp only [Act.put, e1_, e2_, e3_, i64_w, i32_w]
             rfl
            refine pure_ (i := 6) (N := some 81) (v := ?_) (a' := ?_) z38_ rfl rfl (any_of HT_.out (by kernel_rfl)) (fun _ _ _ h => h) (Or.inl ⟨by rfl, ?_⟩) ?_ ?_
            rotate_left
            ·intro w'
             go_simp
             with_reducible rfl
            rotate_left
            ·simp only [Act.put, e1_, e2_, e3_, i64_w, i32_w]
             rfl
            refine pure_ (i := 8) (N := some 83) (v := ?_) (a' := ?_) z39_ rfl rfl (any_of HT_.out (by kernel_rfl)) (fun _ _ _ h => h) (Or.inl ⟨by rfl, ?_⟩) ?_ ?_
            rotate_left
            ·intro w'
             go_simp
             with_reducible rfl
            rotate_left
            ·simp only [Act.put, e1_, e2_, e3_, i64_w, i32_w]
             rfl
            refine take_ (i := 1) (N := some 76) (v := ?_) (a' := ?_) z40_ rfl rfl (take_ofW HT_.out HW_.out (by kernel_rfl)) (fun _ _ _ h => h) (Or.inl ⟨by rfl, ?_⟩) hHeld ?_ ?_
            rotate_left
            ·rintro w' ⟨s0, s1, s2, s3, s4, s5, s6, s7, s8⟩
             go_simp
             with_reducible rfl
            rotate_left
            ·simp only [Act.put, e1_, e2_, e3_, i64_w, i32_w]
             rfl
            refine pure_ (i := 3) (N := some 78) (v := ?_) (a' := ?_) z41_ rfl rfl (any_of HT_.out (by kernel_rfl)) (fun _ _ _ h => h) (Or.inl ⟨by rfl, ?_⟩) ?_ ?_
            rotate_left
            ·intro w'
             go_simp
             with_reducible rfl
            rotate_left
            ·simp only [Act.put, e1_, e2_, e3_, i64_w, i32_w]
             rfl
            refine pure_ (i := 4) (N := some 79) (v := ?_) (a' := ?_) z42_ rfl rfl (any_of HT_.out (by kernel_rfl)) (fun _ _ _ h => h) (Or.inl ⟨by rfl, ?_⟩) ?_ ?_
            rotate_left
            ·intro w'
             go_simp
             with_reducible rfl
            rotate_left
            ·simp only [Act.put, e1_, e2_, e3_, i64_w, i32_w]
             rfl
            refine take_ (i := 5) (N := some 80) (v := ?_) (a' := ?_) z43_ rfl rfl (take_ofW HT_.out HW_.out (by kernel_rfl)) (fun _ _ _ h => h) (Or.inl ⟨by rfl, ?_⟩) hHeld ?_ ?_
            rotate_left
            ·rintro w' ⟨s0, s1, s2, s3, s4, s5, s6, s7, s8⟩
             go_simp
             with_reducible rfl
            rotate_left
            ·simp only [Act.put, e1_, e2_, e3_, i64_w, i32_w]
             rfl
            refine take_ (i := 7) (N := some 82) (v := ?_) (a' := ?_) z44_ rfl rfl (take_ofW HT_.out HW_.out (by kernel_rfl)) (fun _ _ _ h => h) (Or.inl ⟨by rfl, ?_⟩) hHeld ?_ ?_
            rotate_left
            ·rintro w' ⟨s0, s1, s2, s3, s4, s5, s6, s7, s8⟩
             go_simp
             with_reducible rfl
            rotate_left
            ·simp only [Act.put, e1_, e2_, e3_, i64_w, i32_w]
             rfl
            refine pure_ (i := 9) (N := some 84) (v := ?_) (a' := ?_) z45_ rfl rfl (any_of HT_.out (by kernel_rfl)) (fun _ _ _ h => h) (Or.inl ⟨by rfl, ?_⟩) ?_ ?_
            rotate_left
            ·intro w'
             go_simp
             with_reducible rfl
            rotate_left
            ·simp only [Act.put, e1_, e2_, e3_, i64_w, i32_w]
             rfl
            refine pure_ (i := 10) (N := some 85) (v := ?_) (a' := ?_) z46_ rfl rfl (any_of HT_.out (by kernel_rfl)) (fun _ _ _ h => h) (Or.inl ⟨by rfl, ?_⟩) ?_ ?_
            rotate_left
            ·intro w'
             go_simp
             with_reducible rfl
            rotate_left
            ·simp only [Act.put, e1_, e2_, e3_, i64_w, i32_w]
             rfl
            refine take_ (i := 11) (N := some 86) (v := ?_) (a' := ?_) z47_ rfl rfl (take_ofW HT_.out HW_.out (by kernel_rfl)) (fun _ _ _ h => h) (Or.inl ⟨by rfl, ?_⟩) hHeld ?_ ?_
            rotate_left
            ·rintro w' ⟨s0, s1, s2, s3, s4, s5, s6, s7, s8⟩
             go_simp
             with_reducible rfl
            rotate_left
            ·simp only [Act.put, e1_, e2_, e3_, i64_w, i32_w]
             rfl
            refine one_ (i := 12) (N := some 87) z48_ rfl rfl (one_of HT_.out (by kernel_rfl)) (by decide) (fun K hK => ?_)
            refine goes_ Try.func25 (by kernel_rfl) rfl #[.int .i64 ((rd_T67 t239 x9_3).f0), .int .i64 ((rd_T67 t239 x9_3).f1)] (by rfl) rfl rfl (by (try simp only [List.map_toArray, List.map_cons, List.map_nil]); first | done | rfl | (simp only [List.length_drop, List.length_take]; rfl)) ?_
            with_reducible refine (lits_And.calls k3 ((rd_T67 t239 x9_3).f0) ((rd_T67 t239 x9_3).f1) t287 t288 t289 _ A54.out).mono ?_
            rintro e w59 ⟨rfl, hb⟩
            have HS5_ := (hb.cell (World.block_lt_of_cell? _ _ (hHeld.2.2.2.2.2.1))).trans (hHeld.2.2.2.2.2.1)
            have HS6_ := (hb.cell (World.block_lt_of_cell? _ _ (hHeld.2.2.2.2.2.2.1))).trans (hHeld.2.2.2.2.2.2.1)
            have HS7_ := (hb.cell (World.block_lt_of_cell? _ _ (hHeld.2.2.2.2.2.2.2.1))).trans (hHeld.2.2.2.2.2.2.2.1)
            have HS8_ := (hb.cell (World.block_lt_of_cell? _ _ (hHeld.2.2.2.2.2.2.2.2))).trans (hHeld.2.2.2.2.2.2.2.2)
            refine ⟨_, rfl, ?_⟩
            have n0_ := M_ (Kd.R_below (by (with_reducible repeat (first | apply a0_ | apply a1_ | apply a2_)); exact HO_253001.out) hb)
            have n1_ := M_ (Kd.R_below (by (with_reducible repeat (first | apply a0_ | apply a1_ | apply a2_)); exact HO_253002.out) hb)
            have n2_ := M_ (Kd.R_below (by (with_reducible repeat (first | apply a0_ | apply a1_ | apply a2_)); exact HO_253003.out) hb)
            have n3_ := M_ (Kd.R_below (by (with_reducible repeat (first | apply a0_ | apply a1_ | apply a2_)); exact HO_253004.out) hb)
            have n4_ := M_ (blk_below (g := gb232) (o := .cells #[.int .i64 a0_0, .slice A0_1 l0_1.length c0_1, .slice A0_2 l0_2.length c0_2, .slice A0_3 l0_3.length c0_3, .slice A0_4 l0_4.length c0_4] 26 (0, 0)) (by (with_reducible repeat (first | refine blk_drewN ?_ _ | refine blk_drew ?_ | refine blk_alloc ?_ _)); exact BK232.out) hb)
            have n5_ := M_ (blk_below (g := gb252) (o := .cells #[.int .i64 t235, .slice Ao25 t236.length co25, .slice (some ad285) t239.length co26, .slice Ao27 t242.length co27, .slice Ao28 t245.length co28] 26 (0, 0)) (by (with_reducible repeat (first | refine blk_drewN ?_ _ | refine blk_drew ?_ | refine blk_alloc ?_ _)); exact BK252.out) hb)
            have n6_ := M_ (below_step (by repeat (first | (with_reducible first | exact HB.out | apply b0_ | apply b1_ | apply b2_ | refine below_set ?_ GE232.out | refine below_set ?_ GE252.out) | exact HB.out)) hb)
            clear HO_253001
            clear HO_253002
            clear HO_253003
            clear HO_253004
            clear BK232
            clear BK252
            clear HB
            have HO_253001 := n0_
            have HO_253002 := n1_
            have HO_253003 := n2_
            have HO_253004 := n3_
            have BK232 := n4_
            have BK252 := n5_
            have HB := n6_
            clear n0_ n1_ n2_ n3_ n4_ n5_ n6_
            (try clear hb)
            (try clear hb2)
            (try clear hk)
            (try clear hi)
            refine hK.out _ _ ⟨(blk_cell BK252.out 0).trans rfl, (blk_cell BK252.out 1).trans rfl, (blk_cell BK252.out 2).trans rfl, (blk_cell BK252.out 3).trans rfl, (blk_cell BK252.out 4).trans rfl, HS5_, HS6_, HS7_, HS8_⟩ (fun hHeld => ?_)
            clear hK K
            refine norm_ (a' := ?_) ?_ ?_
            rotate_left
            ·show Act.put _ (some 87) _ = _
             simp only [Act.put, e1_, e2_, e3_, i64_w, i32_w]
             rfl
            refine pure_ (i := 13) (N := some 74) (v := ?_) (a' := ?_) z49_ rfl rfl (any_of HT_.out (by kernel_rfl)) (fun _ _ _ h => h) (Or.inl ⟨by rfl, ?_⟩) ?_ ?_
            rotate_left
            ·intro w'
             go_simp
             with_reducible rfl
            rotate_left
            ·simp only [Act.put, e1_, e2_, e3_, i64_w, i32_w]
             rfl
            refine pure_ (i := 14) (N := some 88) (v := ?_) (a' := ?_) z50_ rfl rfl (any_of HT_.out (by kernel_rfl)) (fun _ _ _ h => h) (Or.inl ⟨by rfl, ?_⟩) ?_ ?_
            rotate_left
            ·intro w'
             go_simp
             with_reducible rfl
            rotate_left
            ·simp only [Act.put, e1_, e2_, e3_, i64_w, i32_w]
             rfl
            refine pure_ (i := 15) (N := some 89) (v := ?_) (a' := ?_) z51_ rfl rfl (any_of HT_.out (by kernel_rfl)) (fun _ _ _ h => h) (Or.inl ⟨by rfl, ?_⟩) ?_ ?_
            rotate_left
            ·intro w'
             go_simp
             with_reducible rfl
            rotate_left
            ·simp only [Act.put, e1_, e2_, e3_, i64_w, i32_w]
             rfl
            refine pure_ (i := 16) (N := some 90) (v := ?_) (a' := ?_) z52_ rfl rfl (any_of HT_.out (by kernel_rfl)) (fun _ _ _ h => h) (Or.inl ⟨by rfl, ?_⟩) ?_ ?_
            rotate_left
            ·intro w'
             go_simp
             with_reducible rfl
            rotate_left
            ·simp only [Act.put, e1_, e2_, e3_, i64_w, i32_w]
             rfl
            refine pure_ (i := 17) (N := some 10) (v := ?_) (a' := ?_) z53_ rfl rfl (any_of HT_.out (by kernel_rfl)) (fun _ _ _ h => h) (Or.inl ⟨by rfl, ?_⟩) ?_ ?_
            rotate_left
            ·intro w'
             go_simp
             with_reducible rfl
            rotate_left
            ·simp only [Act.put, e1_, e2_, e3_, i64_w, i32_w]
             rfl
            refine pure_ (i := 18) (N := some 11) (v := ?_) (a' := ?_) z54_ rfl rfl (any_of HT_.out (by kernel_rfl)) (fun _ _ _ h => h) (Or.inl ⟨by rfl, ?_⟩) ?_ ?_
            rotate_left
            ·intro w'
             go_simp
             with_reducible rfl
            rotate_left
            ·simp only [Act.put, e1_, e2_, e3_, i64_w, i32_w]
             rfl
            refine pure_ (i := 19) (N := some 12) (v := ?_) (a' := ?_) z55_ rfl rfl (any_of HT_.out (by kernel_rfl)) (fun _ _ _ h => h) (Or.inl ⟨by rfl, ?_⟩) ?_ ?_
            rotate_left
            ·intro w'
             go_simp
             with_reducible rfl
            rotate_left
            ·simp only [Act.put, e1_, e2_, e3_, i64_w, i32_w]
             rfl
            refine done_ (done_of HT_.out (by kernel_rfl)) ?_
            go_upto_region 13 with (fail)
            go_cut [95] (fun v95 wc => ∃ (kq : Nat) (x95_54 : Bool), v95 = .bool x95_54 ∧ Aside0 (spiritlevellaw26_HashFew.j3 kq t233 x9_3 x95_54 t235 t236 t239 t242 t245 = some r) ∧ Aside0 (kq ≤ k3) ∧ Aside0 (Kd.R k86 86 wc w.heap.size (fun _ => True) (.slice Ao25 t236.length co25) t236) ∧ Aside0 (Kd.R k67 67 wc w.heap.size (fun _ => True) (.slice (some ad285) t239.length co26) t239) ∧ Aside0 (Kd.R (Kd.int .i64) 3 wc w.heap.size (fun k_ => some k_ ≠ ((.slice Ao28 t245.length co28) : Value).ownBlock) (.slice Ao27 t242.length co27) t242) ∧ Aside0 (Kd.R (Kd.int .i64) 3 wc w.heap.size (fun k_ => some k_ ≠ ((.slice Ao27 t242.length co27) : Value).ownBlock) (.slice Ao28 t245.length co28) t245) ∧ Aside0 (wc.heap[gb232]? = some (.cells #[.int .i64 a0_0, (.slice A0_1 l0_1.length c0_1), (.slice A0_2 l0_2.length c0_2), (.slice A0_3 l0_3.length c0_3), (.slice A0_4 l0_4.length c0_4)] 26 (0, 0))) ∧ Aside0 (wc.heap[gb252]? = some (.cells #[.int .i64 t235, (.slice Ao25 t236.length co25), (.slice (some ad285) t239.length co26), (.slice Ao27 t242.length co27), (.slice Ao28 t245.length co28)] 26 (0, 0))) ∧ Aside0 (Below w.heap.size w wc))
            case first =>
             have H := HC55.out
             clear HC55
             by_cases c60 : t289 = 0
             ·rw [if_pos c60] at H
              have c60b0 : (t289 == 0) = true := beq_iff_eq.mpr c60
              have c60b1 : (t289 != 0) = false := bne_eq_false_iff_eq.mpr c60
              clear c60
              (first | rw [c60b0] | (simp only [i64_w, i32_w]; rw [c60b0]) | skip)
              have H' := M_ H
              clear H
              go_wp2
              go_meet
              case rel => exact ⟨_, (t288), (by first | rfl | (simp; done) | (simp [*]; done)), H', ⟨by have := HJ3.out; have := HJ18.out; have := HK3.out; first | omega | exact Nat.le_refl _⟩, ⟨by (with_reducible repeat (first | apply a0_ | apply a1_ | apply a2_)); exact HO_253001.out⟩, ⟨by (with_reducible repeat (first | apply a0_ | apply a1_ | apply a2_)); exact HO_253002.out⟩, ⟨by (with_reducible repeat (first | apply a0_ | apply a1_ | apply a2_)); exact HO_253003.out⟩, ⟨by (with_reducible repeat (first | apply a0_ | apply a1_ | apply a2_)); exact HO_253004.out⟩, ⟨by (with_reducible repeat (first | refine blk_drewN ?_ _ | refine blk_drew ?_ | refine blk_alloc ?_ _)); exact BK232.out⟩, ⟨by (with_reducible repeat (first | refine blk_drewN ?_ _ | refine blk_drew ?_ | refine blk_alloc ?_ _)); exact BK252.out⟩, ⟨by repeat (first | (with_reducible first | exact HB.out | apply b0_ | apply b1_ | apply b2_ | refine below_set ?_ GE232.out | refine below_set ?_ GE252.out) | exact HB.out)⟩⟩
             ·rw [if_neg c60] at H
              have c60b0 : (t289 == 0) = false := beq_eq_false_iff_ne.mpr c60
              have c60b1 : (t289 != 0) = true := bne_iff_ne.mpr c60
              (first | rw [c60b0] | (simp only [i64_w, i32_w]; rw [c60b0]) | skip)
              have H' := M_ H
              clear H
              go_wp2
              go_meet
              case rel => exact ⟨_, (true), (by first | rfl | (simp; done) | (simp [*]; done)), H', ⟨by have := HJ3.out; have := HJ18.out; have := HK3.out; first | omega | exact Nat.le_refl _⟩, ⟨by (with_reducible repeat (first | apply a0_ | apply a1_ | apply a2_)); exact HO_253001.out⟩, ⟨by (with_reducible repeat (first | apply a0_ | apply a1_ | apply a2_)); exact HO_253002.out⟩, ⟨by (with_reducible repeat (first | apply a0_ | apply a1_ | apply a2_)); exact HO_253003.out⟩, ⟨by (with_reducible repeat (first | apply a0_ | apply a1_ | apply a2_)); exact HO_253004.out⟩, ⟨by (with_reducible repeat (first | refine blk_drewN ?_ _ | refine blk_drew ?_ | refine blk_alloc ?_ _)); exact BK232.out⟩, ⟨by (with_reducible repeat (first | refine blk_drewN ?_ _ | refine blk_drew ?_ | refine blk_alloc ?_ _)); exact BK252.out⟩, ⟨by repeat (first | (with_reducible first | exact HB.out | apply b0_ | apply b1_ | apply b2_ | refine below_set ?_ GE232.out | refine below_set ?_ GE252.out) | exact HB.out)⟩⟩
            case rest =>
             clear HC55
             try clear c1
             try clear c2
             try clear p2
             try clear q2
             try clear hx2
             try clear c3
             try clear c4
             try clear c5
             try clear c6
             try clear c8
             try clear c11
             try clear c11b0
             try clear c11b1
             try clear c12
             try clear c16
             try clear c18
             try clear c18b0
             try clear c18b1
             try clear c23
             try clear c24
             try clear c25
             try clear p28
             try clear q28
             try clear hx28
             try clear c30
             try clear c30b0
             try clear c30b1
             try clear c31
             try clear c31b0
             try clear c31b1
             try clear c32
             try clear c37
             try clear c37b0
             try clear c37b1
             try clear c38
             try clear c43
             try clear c48
             try clear c51
             try clear c52
             try clear c52b0
             try clear c53
             try clear c53b0
             try clear c56
             try clear c60
             try clear c60b0
             try clear c60b1
             try clear hcz12_0
             try clear hcz12_1
             try clear hcz12_2
             try clear hcz12_3
             try clear hcz12_4
             try clear hcz14_0
             try clear hcz14_1
             try clear hcz14_2
             try clear hcz14_3
             try clear hcz14_4
             try clear hcz20_0
             try clear hcz20_1
             try clear hcz20_2
             try clear hcz20_3
             try clear hcz20_4
             try clear hcz24_0
             try clear hcz24_1
             try clear hcz24_2
             try clear hcz24_3
             try clear hcz24_4
             try clear hcz33_0
             try clear hcz33_1
             try clear hcz33_2
             try clear hcz33_3
             try clear hcz33_4
             try clear hcz35_0
             try clear hcz35_1
             try clear hcz35_2
             try clear hcz35_3
             try clear hcz35_4
             try clear hcz36_0
             try clear hcz36_1
             try clear hcz36_2
             try clear hcz36_3
             try clear hcz36_4
             try clear hcz39_0
             try clear hcz39_1
             try clear hcz39_2
             try clear hcz39_3
             try clear hcz39_4
             try clear hcz41_0
             try clear hcz41_1
             try clear hcz41_2
             try clear hcz41_3
             try clear hcz41_4
             try clear hcz42_0
             try clear hcz42_1
             try clear hcz42_2
             try clear hcz42_3
             try clear hcz42_4
             try clear hcz44_0
             try clear hcz44_1
             try clear hcz44_2
             try clear hcz44_3
             try clear hcz44_4
             try clear hcz46_0
             try clear hcz46_1
             try clear hcz46_2
             try clear hcz46_3
             try clear hcz46_4
             try clear hcz47_0
             try clear hcz47_1
             try clear hcz47_2
             try clear hcz47_3
             try clear hcz47_4
             try clear hcz49_0
             try clear hcz49_1
             try clear hcz49_2
             try clear hcz49_3
             try clear hcz49_4
             try clear hcz57_0
             try clear hcz57_1
             try clear hcz57_2
             try clear hcz57_3
             try clear hcz57_4
             try clear hcz9_0
             try clear hcz9_1
             try clear hcz9_2
             try clear hcz9_3
             try clear hcz9_4
             try clear hfz12_0
             try clear hfz12_1
             try clear hfz12_2
             try clear hfz12_3
             try clear hfz12_4
             try clear hfz14_0
             try clear hfz14_1
             try clear hfz14_2
             try clear hfz14_3
             try clear hfz14_4
             try clear hfz20_0
             try clear hfz20_1
             try clear hfz20_2
             try clear hfz20_3
             try clear hfz20_4
             try clear hfz24_0
             try clear hfz24_1
             try clear hfz24_2
             try clear hfz24_3
             try clear hfz24_4
             try clear hfz33_0
             try clear hfz33_1
             try clear hfz33_2
             try clear hfz33_3
             try clear hfz33_4
             try clear hfz35_0
             try clear hfz35_1
             try clear hfz35_2
             try clear hfz35_3
             try clear hfz35_4
             try clear hfz36_0
             try clear hfz36_1
             try clear hfz36_2
             try clear hfz36_3
             try clear hfz36_4
             try clear hfz39_0
             try clear hfz39_1
             try clear hfz39_2
             try clear hfz39_3
             try clear hfz39_4
             try clear hfz41_0
             try clear hfz41_1
             try clear hfz41_2
             try clear hfz41_3
             try clear hfz41_4
             try clear hfz42_0
             try clear hfz42_1
             try clear hfz42_2
             try clear hfz42_3
             try clear hfz42_4
             try clear hfz44_0
             try clear hfz44_1
             try clear hfz44_2
             try clear hfz44_3
             try clear hfz44_4
             try clear hfz46_0
             try clear hfz46_1
             try clear hfz46_2
             try clear hfz46_3
             try clear hfz46_4
             try clear hfz47_0
             try clear hfz47_1
             try clear hfz47_2
             try clear hfz47_3
             try clear hfz47_4
             try clear hfz49_0
             try clear hfz49_1
             try clear hfz49_2
             try clear hfz49_3
             try clear hfz49_4
             try clear hfz57_0
             try clear hfz57_1
             try clear hfz57_2
             try clear hfz57_3
             try clear hfz57_4
             try clear hfz9_0
             try clear hfz9_1
             try clear hfz9_2
             try clear hfz9_3
             try clear hfz9_4
             try clear hx285_0
             try clear hx285_1
             try clear hx286_0
             try clear hx286_1
             try clear p2
             try clear p285
             try clear p286
             try clear q285
             try clear q286
             obtain ⟨kq, x95_54, rfl, HA, HJ54, HO_253001, HO_253002, HO_253003, HO_253004, BK232, BK252, HB⟩ := hcut
             cases kq with
             | zero => exact absurd HA.out (by simp [spiritlevellaw26_HashFew.j3])
             | succ kj54 =>
              have H := HA.out
              clear HA
              simp only [spiritlevellaw26_HashFew.j3] at H
              by_cases c61 : x95_54 = true
              ·subst c61
               have H1 : (some false) = some r := by rw [if_pos rfl] at H; exact H
               clear H
               have H := H1
               clear H1
               exact absurd ((Option.some.inj H).trans HTR_.out) (by decide)
              ·replace c61 := Bool.eq_false_iff.mpr c61
               subst c61
               have H1 : (spiritlevellaw26_HashFew.l1 kj54 t233 x9_3 0 t235 t236 t239 t242 t245) = some r := by rw [if_neg (show ¬ (false = true) by decide)] at H; exact H
               clear H
               have H := H1
               clear H1
               have H' := M_ H
               clear H
               go_wp2
               go_loopg [13] kj54 (fun kq v13 w' => ∃ (x13_5 : Int), v13 = .int .i64 x13_5 ∧ Aside0 (spiritlevellaw26_HashFew.l1 kq t233 x9_3 x13_5 t235 t236 t239 t242 t245 = some r) ∧ Aside0 (kq ≤ kj54) ∧ Aside0 (Kd.R k86 86 w' w.heap.size (fun _ => True) (.slice Ao25 t236.length co25) t236) ∧ Aside0 (Kd.R k67 67 w' w.heap.size (fun _ => True) (.slice (some ad285) t239.length co26) t239) ∧ Aside0 (Kd.R (Kd.int .i64) 3 w' w.heap.size (fun k_ => some k_ ≠ ((.slice Ao28 t245.length co28) : Value).ownBlock) (.slice Ao27 t242.length co27) t242) ∧ Aside0 (Kd.R (Kd.int .i64) 3 w' w.heap.size (fun k_ => some k_ ≠ ((.slice Ao27 t242.length co27) : Value).ownBlock) (.slice Ao28 t245.length co28) t245) ∧ Aside0 (w'.heap[gb232]? = some (.cells #[.int .i64 a0_0, (.slice A0_1 l0_1.length c0_1), (.slice A0_2 l0_2.length c0_2), (.slice A0_3 l0_3.length c0_3), (.slice A0_4 l0_4.length c0_4)] 26 (0, 0))) ∧ Aside0 (w'.heap[gb252]? = some (.cells #[.int .i64 t235, (.slice Ao25 t236.length co25), (.slice (some ad285) t239.length co26), (.slice Ao27 t242.length co27), (.slice Ao28 t245.length co28)] 26 (0, 0))) ∧ Aside0 (Below w.heap.size w w'))
               case atStart => exact ⟨(0), (by first | rfl | (simp; done) | (simp [*]; done)), H', ⟨Nat.le_refl _⟩, ⟨by (with_reducible repeat (first | apply a0_ | apply a1_ | apply a2_)); exact HO_253001.out⟩, ⟨by (with_reducible repeat (first | apply a0_ | apply a1_ | apply a2_)); exact HO_253002.out⟩, ⟨by (with_reducible repeat (first | apply a0_ | apply a1_ | apply a2_)); exact HO_253003.out⟩, ⟨by (with_reducible repeat (first | apply a0_ | apply a1_ | apply a2_)); exact HO_253004.out⟩, ⟨by (with_reducible repeat (first | refine blk_drewN ?_ _ | refine blk_drew ?_ | refine blk_alloc ?_ _)); exact BK232.out⟩, ⟨by (with_reducible repeat (first | refine blk_drewN ?_ _ | refine blk_drew ?_ | refine blk_alloc ?_ _)); exact BK252.out⟩, ⟨by repeat (first | (with_reducible first | exact HB.out | apply b0_ | apply b1_ | apply b2_ | refine below_set ?_ GE232.out | refine below_set ?_ GE252.out) | exact HB.out)⟩⟩
               case round =>
                clear H'
                try clear c1
                try clear c2
                try clear p2
                try clear q2
                try clear hx2
                try clear c3
                try clear c4
                try clear c5
                try clear c6
                try clear c8
                try clear c11
                try clear c11b0
                try clear c11b1
                try clear c12
                try clear c16
                try clear c18
                try clear c18b0
                try clear c18b1
                try clear c23
                try clear c24
                try clear c25
                try clear p28
                try clear q28
                try clear hx28
                try clear c30
                try clear c30b0
                try clear c30b1
                try clear c31
                try clear c31b0
                try clear c31b1
                try clear c32
                try clear c37
                try clear c37b0
                try clear c37b1
                try clear c38
                try clear c43
                try clear c48
                try clear c51
                try clear c52
                try clear c52b0
                try clear c53
                try clear c53b0
                try clear c56
                try clear c60
                try clear c60b0
                try clear c60b1
                try clear c61
                try clear hcz12_0
                try clear hcz12_1
                try clear hcz12_2
                try clear hcz12_3
                try clear hcz12_4
                try clear hcz14_0
                try clear hcz14_1
                try clear hcz14_2
                try clear hcz14_3
                try clear hcz14_4
                try clear hcz20_0
                try clear hcz20_1
                try clear hcz20_2
                try clear hcz20_3
                try clear hcz20_4
                try clear hcz24_0
                try clear hcz24_1
                try clear hcz24_2
                try clear hcz24_3
                try clear hcz24_4
                try clear hcz33_0
                try clear hcz33_1
                try clear hcz33_2
                try clear hcz33_3
                try clear hcz33_4
                try clear hcz35_0
                try clear hcz35_1
                try clear hcz35_2
                try clear hcz35_3
                try clear hcz35_4
                try clear hcz36_0
                try clear hcz36_1
                try clear hcz36_2
                try clear hcz36_3
                try clear hcz36_4
                try clear hcz39_0
                try clear hcz39_1
                try clear hcz39_2
                try clear hcz39_3
                try clear hcz39_4
                try clear hcz41_0
                try clear hcz41_1
                try clear hcz41_2
                try clear hcz41_3
                try clear hcz41_4
                try clear hcz42_0
                try clear hcz42_1
                try clear hcz42_2
                try clear hcz42_3
                try clear hcz42_4
                try clear hcz44_0
                try clear hcz44_1
                try clear hcz44_2
                try clear hcz44_3
                try clear hcz44_4
                try clear hcz46_0
                try clear hcz46_1
                try clear hcz46_2
                try clear hcz46_3
                try clear hcz46_4
                try clear hcz47_0
                try clear hcz47_1
                try clear hcz47_2
                try clear hcz47_3
                try clear hcz47_4
                try clear hcz49_0
                try clear hcz49_1
                try clear hcz49_2
                try clear hcz49_3
                try clear hcz49_4
                try clear hcz57_0
                try clear hcz57_1
                try clear hcz57_2
                try clear hcz57_3
                try clear hcz57_4
                try clear hcz9_0
                try clear hcz9_1
                try clear hcz9_2
                try clear hcz9_3
                try clear hcz9_4
                try clear hfz12_0
                try clear hfz12_1
                try clear hfz12_2
                try clear hfz12_3
                try clear hfz12_4
                try clear hfz14_0
                try clear hfz14_1
                try clear hfz14_2
                try clear hfz14_3
                try clear hfz14_4
                try clear hfz20_0
                try clear hfz20_1
                try clear hfz20_2
                try clear hfz20_3
                try clear hfz20_4
                try clear hfz24_0
                try clear hfz24_1
                try clear hfz24_2
                try clear hfz24_3
                try clear hfz24_4
                try clear hfz33_0
                try clear hfz33_1
                try clear hfz33_2
                try clear hfz33_3
                try clear hfz33_4
                try clear hfz35_0
                try clear hfz35_1
                try clear hfz35_2
                try clear hfz35_3
                try clear hfz35_4
                try clear hfz36_0
                try clear hfz36_1
                try clear hfz36_2
                try clear hfz36_3
                try clear hfz36_4
                try clear hfz39_0
                try clear hfz39_1
                try clear hfz39_2
                try clear hfz39_3
                try clear hfz39_4
                try clear hfz41_0
                try clear hfz41_1
                try clear hfz41_2
                try clear hfz41_3
                try clear hfz41_4
                try clear hfz42_0
                try clear hfz42_1
                try clear hfz42_2
                try clear hfz42_3
                try clear hfz42_4
                try clear hfz44_0
                try clear hfz44_1
                try clear hfz44_2
                try clear hfz44_3
                try clear hfz44_4
                try clear hfz46_0
                try clear hfz46_1
                try clear hfz46_2
                try clear hfz46_3
                try clear hfz46_4
                try clear hfz47_0
                try clear hfz47_1
                try clear hfz47_2
                try clear hfz47_3
                try clear hfz47_4
                try clear hfz49_0
                try clear hfz49_1
                try clear hfz49_2
                try clear hfz49_3
                try clear hfz49_4
                try clear hfz57_0
                try clear hfz57_1
                try clear hfz57_2
                try clear hfz57_3
                try clear hfz57_4
                try clear hfz9_0
                try clear hfz9_1
                try clear hfz9_2
                try clear hfz9_3
                try clear hfz9_4
                try clear hx285_0
                try clear hx285_1
                try clear hx286_0
                try clear hx286_1
                try clear p2
                try clear p28
                try clear p285
                try clear p286
                try clear q2
                try clear q28
                try clear q285
                try clear q286
                obtain ⟨x13_5, rfl, HA, HK5, HO_253001, HO_253002, HO_253003, HO_253004, BK232, BK252, HB⟩ := hrel
                cases gk with
                | zero => exact absurd HA.out (by simp [spiritlevellaw26_HashFew.l1])
                | succ k5 =>
                 have H := HA.out
                 clear HA
                 simp only [spiritlevellaw26_HashFew.l1] at H
                 by_cases c62 : x13_5 < x9_3
                 ·rw [if_pos c62] at H
                  have c62b0 : decide (x13_5 < x9_3) = true := decide_eq_true c62
                  clear c62
                  by_cases c63 : 0 ≤ x13_5
                  ·rw [if_pos c63] at H
                   have c63b0 : decide (0 ≤ x13_5) = true := decide_eq_true c63
                   clear c63
                   by_cases c64 : x13_5 < (t239.length : Int)
                   ·rw [if_pos c64] at H
                    have c64b0 : decide (x13_5 < (t239.length : Int)) = true := decide_eq_true c64
                    clear c64
                    by_cases c65 : 0 ≤ x9_3
                    ·rw [if_pos c65] at H
                     have c65b0 : decide (0 ≤ x9_3) = true := decide_eq_true c65
                     clear c65
                     by_cases c66 : x9_3 < (t239.length : Int)
                     ·rw [if_pos c66] at H
                      have c66b0 : decide (x9_3 < (t239.length : Int)) = true := decide_eq_true c66
                      clear c66
                      by_cases c67 : (((rd_T67 t239 x13_5).f0) == ((rd_T67 t239 x9_3).f0) && (((rd_T67 t239 x13_5).f1) == ((rd_T67 t239 x9_3).f1))) = true
                      ·rw [if_pos c67] at H
                       have c67b0 : (((rd_T67 t239 x13_5).f0) == ((rd_T67 t239 x9_3).f0) && (((rd_T67 t239 x13_5).f1) == ((rd_T67 t239 x9_3).f1))) = true := c67
                       (try (have c67b1 : decide (((rd_T67 t239 x13_5).f0) = ((rd_T67 t239 x9_3).f0) && (((rd_T67 t239 x13_5).f1) == ((rd_T67 t239 x9_3).f1))) = true := by simpa using c67))
                       (try (have c67b2 : (((rd_T67 t239 x13_5).f0) == ((rd_T67 t239 x9_3).f0) && (((rd_T67 t239 x13_5).f1) == ((rd_T67 t239 x9_3).f1))) = true := by simpa using c67))
                       clear c67
                       exact absurd ((Option.some.inj H).trans HTR_.out) (by decide)
                      ·rw [if_neg c67] at H
                       have c67b0 : (((rd_T67 t239 x13_5).f0) == ((rd_T67 t239 x9_3).f0) && (((rd_T67 t239 x13_5).f1) == ((rd_T67 t239 x9_3).f1))) = false := by simpa using c67
                       (try (have c67b1 : decide (((rd_T67 t239 x13_5).f0) = ((rd_T67 t239 x9_3).f0) && (((rd_T67 t239 x13_5).f1) == ((rd_T67 t239 x9_3).f1))) = false := by simpa using c67))
                       (try (have c67b2 : (((rd_T67 t239 x13_5).f0) == ((rd_T67 t239 x9_3).f0) && (((rd_T67 t239 x13_5).f1) == ((rd_T67 t239 x9_3).f1))) = false := by simpa using c67))
                       (try (have c67b3 : ¬ (((rd_T67 t239 x13_5).f0) = ((rd_T67 t239 x9_3).f0) && (((rd_T67 t239 x13_5).f1) == ((rd_T67 t239 x9_3).f1))) := by simpa using c67))
                       clear c67
                       have H' := M_ H
                       clear H
                       try go_wp2
                       have n0_ := M_ (Kd.R_drew HO_253001.out)
                       have n1_ := M_ (Kd.R_drew HO_253002.out)
                       have n2_ := M_ (Kd.R_drew HO_253003.out)
                       have n3_ := M_ (Kd.R_drew HO_253004.out)
                       have n4_ := M_ (blk_drew BK232.out)
                       have n5_ := M_ (blk_drew BK252.out)
                       have n6_ := M_ (below_drew1 HB.out)
                       clear HO_253001
                       clear HO_253002
                       clear HO_253003
                       clear HO_253004
                       clear BK232
                       clear BK252
                       clear HB
                       have HO_253001 := n0_
                       have HO_253002 := n1_
                       have HO_253003 := n2_
                       have HO_253004 := n3_
                       have BK232 := n4_
                       have BK252 := n5_
                       have HB := n6_
                       clear n0_ n1_ n2_ n3_ n4_ n5_ n6_
                       have p290 : 0 ≤ (x13_5 : Int) := of_decide_eq_true (by first | (with_reducible assumption) | assumption)
                       have q290 : x13_5 < (t239.length : Int) := of_decide_eq_true (by first | (with_reducible assumption) | assumption)
                       obtain ⟨ad290, e290, hx290_0, hx290_1⟩ := at_T67 (Kd.R_reads' HO_253002.out).2.2 x13_5 p290 q290
                       obtain rfl : ad285 = ad290 := (by injection e290)
                       replace p290 := eq_true p290
                       replace q290 := eq_true q290
                       have p291 : 0 ≤ (x9_3 : Int) := of_decide_eq_true (by first | (with_reducible assumption) | assumption)
                       have q291 : x9_3 < (t239.length : Int) := of_decide_eq_true (by first | (with_reducible assumption) | assumption)
                       obtain ⟨ad291, e291, hx291_0, hx291_1⟩ := at_T67 (Kd.R_reads' HO_253002.out).2.2 x9_3 p291 q291
                       obtain rfl : ad285 = ad291 := (by injection e291)
                       replace p291 := eq_true p291
                       replace q291 := eq_true q291
                       refine start_ (n := 11) (S := fun w' => w'.cell? ⟨gb252, 0, none⟩ = some (.int .i64 t235) ∧ w'.cell? ⟨gb252, 1, none⟩ = some (.slice Ao25 t236.length co25) ∧ w'.cell? ⟨gb252, 2, none⟩ = some (.slice (some ad285) t239.length co26) ∧ w'.cell? ⟨gb252, 3, none⟩ = some (.slice Ao27 t242.length co27) ∧ w'.cell? ⟨gb252, 4, none⟩ = some (.slice Ao28 t245.length co28) ∧ w'.cell? (ad285.add ((x13_5).toNat * 2)) = some (.int .i64 ((rd_T67 t239 x13_5).f0)) ∧ w'.cell? ⟨(ad285.add ((x13_5).toNat * 2)).block, (ad285.add ((x13_5).toNat * 2)).off + 1, none⟩ = some (.int .i64 ((rd_T67 t239 x13_5).f1)) ∧ w'.cell? (ad285.add ((x9_3).toNat * 2)) = some (.int .i64 ((rd_T67 t239 x9_3).f0)) ∧ w'.cell? ⟨(ad285.add ((x9_3).toNat * 2)).block, (ad285.add ((x9_3).toNat * 2)).off + 1, none⟩ = some (.int .i64 ((rd_T67 t239 x9_3).f1))) (ds := []) z56_ (by kernel_rfl) rfl rfl ⟨(blk_cell BK252.out 0).trans rfl, (blk_cell BK252.out 1).trans rfl, (blk_cell BK252.out 2).trans rfl, (blk_cell BK252.out 3).trans rfl, (blk_cell BK252.out 4).trans rfl, hx290_0, hx290_1, hx291_0, hx291_1⟩ (fun hHeld => ?_); refine with_tabW spiritlevellaw26_HashFew.tab18 spiritlevellaw26_HashFew.bits18 (fun HT_ HW_ => ?_)
                       generalize wr.drew = w68 at HO_253001 HO_253002 HO_253003 HO_253004 BK232 BK252 HB hx290_0 hx290_1 hx291_0 hx291_1 hHeld ⊢
                       refine pure_ (i := 0) (N := some 101) (v := ?_) (a' := ?_) z57_ rfl rfl (any_of HT_.out (by kernel_rfl)) (fun _ _ _ h => h) (Or.inl ⟨by rfl, ?_⟩) ?_ ?_
                       rotate_left
                       ·intro w'
                        go_simp
                        with_reducible rfl
                       rotate_left
                       ·simp only [Act.put, e1_, e2_, e3_, i64_w, i32_w]
                        rfl
                       refine pure_ (i := 2) (N := some 103) (v := ?_) (a' := ?_) z58_ rfl rfl (any_of HT_.out (by kernel_rfl)) (fun _ _ _ h => h) (Or.inl ⟨by rfl, ?_⟩) ?_ ?_
                       rotate_left
                       ·intro w'
                        go_simp
                        with_reducible rfl
                       rotate_left
                       ·simp only [Act.put, e1_, e2_, e3_, i64_w, i32_w]
                        rfl
                       refine pure_ (i := 5) (N := some 106) (v := ?_) (a' := ?_) z59_ rfl rfl (any_of HT_.out (by kernel_rfl)) (fun _ _ _ h => h) (Or.inl ⟨by rfl, ?_⟩) ?_ ?_
                       rotate_left
                       ·intro w'
                        go_simp
                        with_reducible rfl
                       rotate_left
                       ·simp only [Act.put, e1_, e2_, e3_, i64_w, i32_w]
                        rfl
                       refine pure_ (i := 7) (N := some 108) (v := ?_) (a' := ?_) z60_ rfl rfl (any_of HT_.out (by kernel_rfl)) (fun _ _ _ h => h) (Or.inl ⟨by rfl, ?_⟩) ?_ ?_
                       rotate_left
                       ·intro w'
                        go_simp
                        with_reducible rfl
                       rotate_left
                       ·simp only [Act.put, e1_, e2_, e3_, i64_w, i32_w]
                        rfl
                       refine take_ (i := 1) (N := some 102) (v := ?_) (a' := ?_) z61_ rfl rfl (take_ofW HT_.out HW_.out (by kernel_rfl)) (fun _ _ _ h => h) (Or.inl ⟨by rfl, ?_⟩) hHeld ?_ ?_
                       rotate_left
                       ·rintro w' ⟨s0, s1, s2, s3, s4, s5, s6, s7, s8⟩
                        go_simp
                        with_reducible rfl
                       rotate_left
                       ·simp only [Act.put, e1_, e2_, e3_, i64_w, i32_w]
                        rfl
                       refine pure_ (i := 3) (N := some 104) (v := ?_) (a' := ?_) z62_ rfl rfl (any_of HT_.out (by kernel_rfl)) (fun _ _ _ h => h) (Or.inl ⟨by rfl, ?_⟩) ?_ ?_
                       rotate_left
                       ·intro w'
                        go_simp
                        with_reducible rfl
                       rotate_left
                       ·simp only [Act.put, e1_, e2_, e3_, i64_w, i32_w]
                        rfl
                       refine take_ (i := 4) (N := some 105) (v := ?_) (a' := ?_) z63_ rfl rfl (take_ofW HT_.out HW_.out (by kernel_rfl)) (fun _ _ _ h => h) (Or.inl ⟨by rfl, ?_⟩) hHeld ?_ ?_
                       rotate_left
                       ·rintro w' ⟨s0, s1, s2, s3, s4, s5, s6, s7, s8⟩
                        go_simp
                        with_reducible rfl
                       rotate_left
                       ·simp only [Act.put, e1_, e2_, e3_, i64_w, i32_w]
                        rfl
                       refine take_ (i := 6) (N := some 107) (v := ?_) (a' := ?_) z64_ rfl rfl (take_ofW HT_.out HW_.out (by kernel_rfl)) (fun _ _ _ h => h) (Or.inl ⟨by rfl, ?_⟩) hHeld ?_ ?_
                       rotate_left
                       ·rintro w' ⟨s0, s1, s2, s3, s4, s5, s6, s7, s8⟩
                        go_simp
                        with_reducible rfl
                       rotate_left
                       ·simp only [Act.put, e1_, e2_, e3_, i64_w, i32_w]
                        rfl
                       refine pure_ (i := 8) (N := some 109) (v := ?_) (a' := ?_) z65_ rfl rfl (any_of HT_.out (by kernel_rfl)) (fun _ _ _ h => h) (Or.inl ⟨by rfl, ?_⟩) ?_ ?_
                       rotate_left
                       ·intro w'
                        go_simp
                        with_reducible rfl
                       rotate_left
                       ·simp only [Act.put, e1_, e2_, e3_, i64_w, i32_w]
                        rfl
                       refine take_ (i := 9) (N := some 110) (v := ?_) (a' := ?_) z66_ rfl rfl (take_ofW HT_.out HW_.out (by kernel_rfl)) (fun _ _ _ h => h) (Or.inl ⟨by rfl, ?_⟩) hHeld ?_ ?_
                       rotate_left
                       ·rintro w' ⟨s0, s1, s2, s3, s4, s5, s6, s7, s8⟩
                        go_simp
                        with_reducible rfl
                       rotate_left
                       ·simp only [Act.put, e1_, e2_, e3_, i64_w, i32_w]
                        rfl
                       refine pure_ (i := 10) (N := some 111) (v := ?_) (a' := ?_) z67_ rfl rfl (any_of HT_.out (by kernel_rfl)) (fun _ _ _ h => h) (Or.inl ⟨by rfl, ?_⟩) ?_ ?_
                       rotate_left
                       ·intro w'
                        go_simp
                        with_reducible rfl
                       rotate_left
                       ·simp only [Act.put, e1_, e2_, e3_, i64_w, i32_w]
                        rfl
                       refine done_ (done_of HT_.out (by kernel_rfl)) ?_
                       try go_wp2
                       go_roundg k5
                       case measure => have := HJ3.out; have := HJ18.out; have := HK3.out; have := HJ54.out; have := HK5.out; omega
                       case rel => exact ⟨(wrap64 (x13_5 + 1)), (by first | rfl | (simp; done) | (simp [*]; done)), H', ⟨by have := HJ3.out; have := HJ18.out; have := HK3.out; have := HJ54.out; have := HK5.out; omega⟩, ⟨by (with_reducible repeat (first | apply a0_ | apply a1_ | apply a2_)); exact HO_253001.out⟩, ⟨by (with_reducible repeat (first | apply a0_ | apply a1_ | apply a2_)); exact HO_253002.out⟩, ⟨by (with_reducible repeat (first | apply a0_ | apply a1_ | apply a2_)); exact HO_253003.out⟩, ⟨by (with_reducible repeat (first | apply a0_ | apply a1_ | apply a2_)); exact HO_253004.out⟩, ⟨by (with_reducible repeat (first | refine blk_drewN ?_ _ | refine blk_drew ?_ | refine blk_alloc ?_ _)); exact BK232.out⟩, ⟨by (with_reducible repeat (first | refine blk_drewN ?_ _ | refine blk_drew ?_ | refine blk_alloc ?_ _)); exact BK252.out⟩, ⟨by repeat (first | (with_reducible first | exact HB.out | apply b0_ | apply b1_ | apply b2_ | refine below_set ?_ GE232.out | refine below_set ?_ GE252.out) | exact HB.out)⟩⟩
                     ·rw [if_neg c66] at H
                      exact absurd H (by simp)
                    ·rw [if_neg c65] at H
                     exact absurd H (by simp)
                   ·rw [if_neg c64] at H
                    exact absurd H (by simp)
                  ·rw [if_neg c63] at H
                   exact absurd H (by simp)
                 ·rw [if_neg c62] at H
                  have c62b0 : decide (x13_5 < x9_3) = false := decide_eq_false c62
                  clear c62
                  have H' := M_ H
                  clear H
                  go_wp2
                  go_roundg k5
                  case measure => have := HJ3.out; have := HJ18.out; have := HK3.out; have := HJ54.out; have := HK5.out; omega
                  case rel => exact ⟨(wrap64 (x9_3 + 1)), (by first | rfl | (simp; done) | (simp [*]; done)), H', ⟨by have := HJ3.out; have := HJ18.out; have := HK3.out; have := HJ54.out; have := HK5.out; omega⟩, ⟨by (with_reducible repeat (first | apply a0_ | apply a1_ | apply a2_)); exact HO_253001.out⟩, ⟨by (with_reducible repeat (first | apply a0_ | apply a1_ | apply a2_)); exact HO_253002.out⟩, ⟨by (with_reducible repeat (first | apply a0_ | apply a1_ | apply a2_)); exact HO_253003.out⟩, ⟨by (with_reducible repeat (first | apply a0_ | apply a1_ | apply a2_)); exact HO_253004.out⟩, ⟨by (with_reducible repeat (first | refine blk_drewN ?_ _ | refine blk_drew ?_ | refine blk_alloc ?_ _)); exact BK232.out⟩, ⟨by (with_reducible repeat (first | refine blk_drewN ?_ _ | refine blk_drew ?_ | refine blk_alloc ?_ _)); exact BK252.out⟩, ⟨by repeat (first | (with_reducible first | exact HB.out | apply b0_ | apply b1_ | apply b2_ | refine below_set ?_ GE232.out | refine below_set ?_ GE252.out) | exact HB.out)⟩⟩
           ·rw [if_neg c53] at H
            exact absurd H (by simp)
          ·rw [if_neg c52] at H
           have c52b0 : decide (x9_3 < (t239.length : Int)) = false := decide_eq_false c52
           clear c52
           replace H := Option.bind_eq_some_iff.mp H
           obtain ⟨⟨t254, t255, t258, t261, t264, t267, t268, t269, t272, t275, t278, t281, t282⟩, A690, H⟩ := H
           replace H : (if t233 = true then (if t282 = 0 then ((spiritlevelref02_Same.f k3 t235 t236 t239 t242 t245 t254 t255 t258 t261 t264).bind fun t284 => (some t284)) else (some false)) else (some false)) = some r := H
           have A69 := M_ A690
           clear A690
           by_cases c70 : t233 = true
           ·subst c70
            have H1 : (if t282 = 0 then ((spiritlevelref02_Same.f k3 t235 t236 t239 t242 t245 t254 t255 t258 t261 t264).bind fun t284 => (some t284)) else (some false)) = some r := by rw [if_pos rfl] at H; exact H
            clear H
            have H := H1
            clear H1
            by_cases c71 : t282 = 0
            ·rw [if_pos c71] at H
             have c71b0 : (t282 == 0) = true := beq_iff_eq.mpr c71
             have c71b1 : (t282 != 0) = false := bne_eq_false_iff_eq.mpr c71
             clear c71
             replace H := Option.bind_eq_some_iff.mp H
             obtain ⟨t284, A720, H⟩ := H
             replace H : (some t284) = some r := H
             have A72 := M_ A720
             clear A720
             obtain rfl := Option.some.inj H
             have hnb73 := NB252_232.out
             have hnc73 := NB232_252.out
             have hcz74_0 : wr.cell? ⟨gb252, 0, none⟩ = some (.int .i64 t235) := (blk_cell BK252.out 0).trans rfl
             have hcz74_1 : wr.cell? ⟨gb252, 1, none⟩ = some (.slice Ao25 t236.length co25) := (blk_cell BK252.out 1).trans rfl
             have hcz74_2 : wr.cell? ⟨gb252, 2, none⟩ = some (.slice Ao26 t239.length co26) := (blk_cell BK252.out 2).trans rfl
             have hcz74_3 : wr.cell? ⟨gb252, 3, none⟩ = some (.slice Ao27 t242.length co27) := (blk_cell BK252.out 3).trans rfl
             have hcz74_4 : wr.cell? ⟨gb252, 4, none⟩ = some (.slice Ao28 t245.length co28) := (blk_cell BK252.out 4).trans rfl
             have hfz74_0 := blk_frozen BK252.out 0
             have hfz74_1 := blk_frozen BK252.out 1
             have hfz74_2 := blk_frozen BK252.out 2
             have hfz74_3 := blk_frozen BK252.out 3
             have hfz74_4 := blk_frozen BK252.out 4
             go_wp2_with (first | ((with_reducible refine gate_callee (f := 20) rfl ?_); refine goesL_ (some 114) rfl rfl Try.func20 (by kernel_rfl) rfl #[.agg #[.int .i64 t235, .slice Ao25 t236.length co25, .slice Ao26 t239.length co26, .slice Ao27 t242.length co27, .slice Ao28 t245.length co28]] rfl (by (try simp only [List.map_toArray, List.map_cons, List.map_nil]); first | done | rfl | (simp only [List.length_drop, List.length_take]; rfl)) ?_; (with_reducible refine (hash_Pass.calls k3 t235 _ _ t236 _ _ t239 _ _ t242 _ _ t245 t254 t255 t258 t261 t264 t267 t268 t269 t272 t275 t278 t281 t282 _ ?side1 ?side2 ?side3 ?side4 ?side5 ?side6 ?side7 ?side8 A69.out).mono ?_); (case side1 => repeat (first | exact (Kd.R_reads' HO_253001.out).2.2 | (with_reducible refine c0_ ?_ _) | (with_reducible refine c1_ ?_ _) | (with_reducible refine c2_ ?_))); (case side2 => exact (Kd.R_reads' HO_253001.out).2.1); (case side3 => repeat (first | exact (Kd.R_reads' HO_253002.out).2.2 | (with_reducible refine c0_ ?_ _) | (with_reducible refine c1_ ?_ _) | (with_reducible refine c2_ ?_))); (case side4 => exact (Kd.R_reads' HO_253002.out).2.1); (case side5 => repeat (first | exact (Kd.R_reads' HO_253003.out).2.2 | (with_reducible refine c0_ ?_ _) | (with_reducible refine c1_ ?_ _) | (with_reducible refine c2_ ?_))); (case side6 => exact (Kd.R_reads' HO_253003.out).2.1); (case side7 => repeat (first | exact (Kd.R_reads' HO_253004.out).2.2 | (with_reducible refine c0_ ?_ _) | (with_reducible refine c1_ ?_ _) | (with_reducible refine c2_ ?_))); (case side8 => exact (Kd.R_reads' HO_253004.out).2.1); rintro e w75 ⟨v256, v259, v262, v265, v270, v273, v276, v279, rfl, ho0, ho1, ho2, ho3, ho4, ho5, ho6, ho7, hb⟩; refine ⟨_, rfl, ?_⟩; have n0_ := M_ (Kd.R_elder' (by (with_reducible repeat (first | apply a0_ | apply a1_ | apply a2_)); exact HO_253001.out) (Kd.R_base ho0) hb); have n1_ := M_ (Kd.R_mono (Kd.R_told (Kd.R_told (Kd.R_old (by (with_reducible repeat (first | apply a0_ | apply a1_ | apply a2_)); exact HO_253002.out) hb) (Kd.R_base ho1)) (Kd.R_base ho7)) (fun _ h_ => h_.1)); have n2_ := M_ (Kd.R_mono (Kd.R_told (Kd.R_told (Kd.R_told (Kd.R_told (Kd.R_old (by (with_reducible repeat (first | apply a0_ | apply a1_ | apply a2_)); exact HO_253003.out) hb) (Kd.R_base ho2)) (Kd.R_base ho3)) (Kd.R_base ho4)) (Kd.R_base ho6)) (fun _ h_ => h_.1)); have n3_ := M_ (Kd.R_mono (Kd.R_told (Kd.R_told (Kd.R_told (Kd.R_told (Kd.R_old (by (with_reducible repeat (first | apply a0_ | apply a1_ | apply a2_)); exact HO_253004.out) hb) (Kd.R_base ho2)) (Kd.R_base ho3)) (Kd.R_base ho4)) (Kd.R_base ho6)) (fun _ h_ => h_.1)); have n4_ := M_ (Kd.R_lower (Kd.R_new' ho0 (Kd.R_lt (by (with_reducible repeat (first | apply a0_ | apply a1_ | apply a2_)); exact HO_253001.out))) (below_size (by repeat (first | (with_reducible first | exact HB.out | apply b0_ | apply b1_ | apply b2_ | refine below_set ?_ GE232.out | refine below_set ?_ GE252.out) | exact HB.out)))); have n5_ := M_ (Kd.R_lower (Kd.R_new' ho1 (Kd.R_lt (by (with_reducible repeat (first | apply a0_ | apply a1_ | apply a2_)); exact HO_253002.out))) (below_size (by repeat (first | (with_reducible first | exact HB.out | apply b0_ | apply b1_ | apply b2_ | refine below_set ?_ GE232.out | refine below_set ?_ GE252.out) | exact HB.out)))); have n6_ := M_ (Kd.R_lower (Kd.R_new' (Kd.R_new' ho2 (Kd.R_lt (by (with_reducible repeat (first | apply a0_ | apply a1_ | apply a2_)); exact HO_253003.out))) (Kd.R_lt (by (with_reducible repeat (first | apply a0_ | apply a1_ | apply a2_)); exact HO_253004.out))) (below_size (by repeat (first | (with_reducible first | exact HB.out | apply b0_ | apply b1_ | apply b2_ | refine below_set ?_ GE232.out | refine below_set ?_ GE252.out) | exact HB.out)))); have n7_ := M_ (Kd.R_lower (Kd.R_new' (Kd.R_new' ho3 (Kd.R_lt (by (with_reducible repeat (first | apply a0_ | apply a1_ | apply a2_)); exact HO_253003.out))) (Kd.R_lt (by (with_reducible repeat (first | apply a0_ | apply a1_ | apply a2_)); exact HO_253004.out))) (below_size (by repeat (first | (with_reducible first | exact HB.out | apply b0_ | apply b1_ | apply b2_ | refine below_set ?_ GE232.out | refine below_set ?_ GE252.out) | exact HB.out)))); have n8_ := M_ (Kd.R_lower (Kd.R_new' (Kd.R_new' ho4 (Kd.R_lt (by (with_reducible repeat (first | apply a0_ | apply a1_ | apply a2_)); exact HO_253003.out))) (Kd.R_lt (by (with_reducible repeat (first | apply a0_ | apply a1_ | apply a2_)); exact HO_253004.out))) (below_size (by repeat (first | (with_reducible first | exact HB.out | apply b0_ | apply b1_ | apply b2_ | refine below_set ?_ GE232.out | refine below_set ?_ GE252.out) | exact HB.out)))); have n9_ := M_ (Kd.S_lower (Kd.S_new' (Kd.S_new' ho5 (Kd.R_lt (by (with_reducible repeat (first | apply a0_ | apply a1_ | apply a2_)); exact HO_253003.out))) (Kd.R_lt (by (with_reducible repeat (first | apply a0_ | apply a1_ | apply a2_)); exact HO_253004.out))) (below_size (by repeat (first | (with_reducible first | exact HB.out | apply b0_ | apply b1_ | apply b2_ | refine below_set ?_ GE232.out | refine below_set ?_ GE252.out) | exact HB.out)))); have n10_ := M_ (Kd.R_lower (Kd.R_new' (Kd.R_new' ho6 (Kd.R_lt (by (with_reducible repeat (first | apply a0_ | apply a1_ | apply a2_)); exact HO_253003.out))) (Kd.R_lt (by (with_reducible repeat (first | apply a0_ | apply a1_ | apply a2_)); exact HO_253004.out))) (below_size (by repeat (first | (with_reducible first | exact HB.out | apply b0_ | apply b1_ | apply b2_ | refine below_set ?_ GE232.out | refine below_set ?_ GE252.out) | exact HB.out)))); have n11_ := M_ (Kd.R_lower (Kd.R_new' ho7 (Kd.R_lt (by (with_reducible repeat (first | apply a0_ | apply a1_ | apply a2_)); exact HO_253002.out))) (below_size (by repeat (first | (with_reducible first | exact HB.out | apply b0_ | apply b1_ | apply b2_ | refine below_set ?_ GE232.out | refine below_set ?_ GE252.out) | exact HB.out)))); have n12_ := M_ (blk_below (g := gb232) (o := .cells #[.int .i64 a0_0, .slice A0_1 l0_1.length c0_1, .slice A0_2 l0_2.length c0_2, .slice A0_3 l0_3.length c0_3, .slice A0_4 l0_4.length c0_4] 26 (0, 0)) (by (with_reducible repeat (first | refine blk_drewN ?_ _ | refine blk_drew ?_ | refine blk_alloc ?_ _)); exact BK232.out) hb); have n13_ := M_ (blk_below (g := gb252) (o := .cells #[.int .i64 t235, .slice Ao25 t236.length co25, .slice Ao26 t239.length co26, .slice Ao27 t242.length co27, .slice Ao28 t245.length co28] 26 (0, 0)) (by (with_reducible repeat (first | refine blk_drewN ?_ _ | refine blk_drew ?_ | refine blk_alloc ?_ _)); exact BK252.out) hb); have n14_ := M_ (below_step (by repeat (first | (with_reducible first | exact HB.out | apply b0_ | apply b1_ | apply b2_ | refine below_set ?_ GE232.out | refine below_set ?_ GE252.out) | exact HB.out)) hb); clear HO_253001; clear HO_253002; clear HO_253003; clear HO_253004; clear BK232; clear BK252; clear HB; have HO_253001 := n0_; have HO_253002 := n1_; have HO_253003 := n2_; have HO_253004 := n3_; have HO257 := n4_; have HO260 := n5_; have HO263 := n6_; have HO266 := n7_; have HO271 := n8_; have HO274 := n9_; have HO277 := n10_; have HO280 := n11_; have BK232 := n12_; have BK252 := n13_; have HB := n14_; clear n0_ n1_ n2_ n3_ n4_ n5_ n6_ n7_ n8_ n9_ n10_ n11_ n12_ n13_ n14_; (try clear hb); (try clear hb2); (try clear hk); (try clear hi); (try clear ho0); (try clear ho1); (try clear ho2); (try clear ho3); (try clear ho4); (try clear ho5); (try clear ho6); (try clear ho7)) | ((with_reducible refine gate_dst (N := 14) rfl ?_); (try (refine gate_guard (by rfl) ?_; dsimp only)); refine box_event ?hg (N := 14) ?hd (cs := #[.int .i64 0, .slice none 0 0, .slice none 0 0, .slice none 0 0, .slice none 0 0, .int .i64 0, .int .i64 0, .slice none 0 0, .slice none 0 0, .slice none 0 0, .slice none 0 0, .int .i64 0]) (t := 55) ?hr ?_; (case hd => rfl); (case hg => rfl); (case hr => first | (go_simp; done) | (go_simp; rfl)); intro gb283 hg w76 hbox hb; have n0_ := M_ (Kd.R_below (by (with_reducible repeat (first | apply a0_ | apply a1_ | apply a2_)); exact HO_253001.out) hb); have n1_ := M_ (Kd.R_below (by (with_reducible repeat (first | apply a0_ | apply a1_ | apply a2_)); exact HO_253002.out) hb); have n2_ := M_ (Kd.R_below (by (with_reducible repeat (first | apply a0_ | apply a1_ | apply a2_)); exact HO_253003.out) hb); have n3_ := M_ (Kd.R_below (by (with_reducible repeat (first | apply a0_ | apply a1_ | apply a2_)); exact HO_253004.out) hb); have n4_ := M_ (Kd.R_below (by (with_reducible repeat (first | apply a0_ | apply a1_ | apply a2_)); exact HO257.out) hb); have n5_ := M_ (Kd.R_below (by (with_reducible repeat (first | apply a0_ | apply a1_ | apply a2_)); exact HO260.out) hb); have n6_ := M_ (Kd.R_below (by (with_reducible repeat (first | apply a0_ | apply a1_ | apply a2_)); exact HO263.out) hb); have n7_ := M_ (Kd.R_below (by (with_reducible repeat (first | apply a0_ | apply a1_ | apply a2_)); exact HO266.out) hb); have n8_ := M_ (Kd.R_below (by (with_reducible repeat (first | apply a0_ | apply a1_ | apply a2_)); exact HO271.out) hb); have n9_ := M_ (Kd.S_below (by (with_reducible repeat (first | apply Kd.S_alloc | apply Kd.S_drewN | apply Kd.S_drew)); exact HO274.out) hb); have n10_ := M_ (Kd.R_below (by (with_reducible repeat (first | apply a0_ | apply a1_ | apply a2_)); exact HO277.out) hb); have n11_ := M_ (Kd.R_below (by (with_reducible repeat (first | apply a0_ | apply a1_ | apply a2_)); exact HO280.out) hb); have n12_ := M_ (blk_below (g := gb232) (o := .cells #[.int .i64 a0_0, .slice A0_1 l0_1.length c0_1, .slice A0_2 l0_2.length c0_2, .slice A0_3 l0_3.length c0_3, .slice A0_4 l0_4.length c0_4] 26 (0, 0)) (by (with_reducible repeat (first | refine blk_drewN ?_ _ | refine blk_drew ?_ | refine blk_alloc ?_ _)); exact BK232.out) hb); have n13_ := M_ (blk_below (g := gb252) (o := .cells #[.int .i64 t235, .slice Ao25 t236.length co25, .slice Ao26 t239.length co26, .slice Ao27 t242.length co27, .slice Ao28 t245.length co28] 26 (0, 0)) (by (with_reducible repeat (first | refine blk_drewN ?_ _ | refine blk_drew ?_ | refine blk_alloc ?_ _)); exact BK252.out) hb); have n14_ := M_ (below_step (by repeat (first | (with_reducible first | exact HB.out | apply b0_ | apply b1_ | apply b2_ | refine below_set ?_ GE232.out | refine below_set ?_ GE252.out) | exact HB.out)) hb); have n15_ := M_ (hbox); have n16_ := M_ ((by rw [hg]; exact (below_size (by repeat (first | (with_reducible first | exact HB.out | apply b0_ | apply b1_ | apply b2_ | refine below_set ?_ GE232.out | refine below_set ?_ GE252.out) | exact HB.out))) : w.heap.size ≤ gb283)); have n17_ := M_ ((by rw [hg]; exact (below_size (by repeat (first | (with_reducible first | exact HB.out | apply b0_ | apply b1_ | apply b2_ | refine below_set ?_ GE232.out | refine below_set ?_ GE252.out) | exact HB.out))) : w.heap.size ≤ gb283)); have n18_ := M_ ((by rw [hg]; exact Nat.ne_of_lt (blk_lt (g := gb232) (o := .cells #[.int .i64 a0_0, .slice A0_1 l0_1.length c0_1, .slice A0_2 l0_2.length c0_2, .slice A0_3 l0_3.length c0_3, .slice A0_4 l0_4.length c0_4] 26 (0, 0)) (by (with_reducible repeat (first | refine blk_drewN ?_ _ | refine blk_drew ?_ | refine blk_alloc ?_ _)); exact BK232.out)) : gb232 ≠ gb283)); have n19_ := M_ ((by rw [hg]; exact Nat.ne_of_gt (blk_lt (g := gb232) (o := .cells #[.int .i64 a0_0, .slice A0_1 l0_1.length c0_1, .slice A0_2 l0_2.length c0_2, .slice A0_3 l0_3.length c0_3, .slice A0_4 l0_4.length c0_4] 26 (0, 0)) (by (with_reducible repeat (first | refine blk_drewN ?_ _ | refine blk_drew ?_ | refine blk_alloc ?_ _)); exact BK232.out)) : gb283 ≠ gb232)); have n20_ := M_ ((by rw [hg]; exact Nat.ne_of_lt (blk_lt (g := gb252) (o := .cells #[.int .i64 t235, .slice Ao25 t236.length co25, .slice Ao26 t239.length co26, .slice Ao27 t242.length co27, .slice Ao28 t245.length co28] 26 (0, 0)) (by (with_reducible repeat (first | refine blk_drewN ?_ _ | refine blk_drew ?_ | refine blk_alloc ?_ _)); exact BK252.out)) : gb252 ≠ gb283)); have n21_ := M_ ((by rw [hg]; exact Nat.ne_of_gt (blk_lt (g := gb252) (o := .cells #[.int .i64 t235, .slice Ao25 t236.length co25, .slice Ao26 t239.length co26, .slice Ao27 t242.length co27, .slice Ao28 t245.length co28] 26 (0, 0)) (by (with_reducible repeat (first | refine blk_drewN ?_ _ | refine blk_drew ?_ | refine blk_alloc ?_ _)); exact BK252.out)) : gb283 ≠ gb252)); clear HO_253001; clear HO_253002; clear HO_253003; clear HO_253004; clear HO257; clear HO260; clear HO263; clear HO266; clear HO271; clear HO274; clear HO277; clear HO280; clear BK232; clear BK252; clear HB; have HO_253001 := n0_; have HO_253002 := n1_; have HO_253003 := n2_; have HO_253004 := n3_; have HO257 := n4_; have HO260 := n5_; have HO263 := n6_; have HO266 := n7_; have HO271 := n8_; have HO274 := n9_; have HO277 := n10_; have HO280 := n11_; have BK232 := n12_; have BK252 := n13_; have HB := n14_; have BK283 := n15_; have GW283 := n16_; have GE283 := n17_; have NB232_283 := n18_; have NB283_232 := n19_; have NB252_283 := n20_; have NB283_252 := n21_; clear n0_ n1_ n2_ n3_ n4_ n5_ n6_ n7_ n8_ n9_ n10_ n11_ n12_ n13_ n14_ n15_ n16_ n17_ n18_ n19_ n20_ n21_; clear hb hbox hg; have hnb77 := NB283_232.out; have hnc77 := NB232_283.out; have hnb78 := NB283_252.out; have hnc78 := NB252_283.out; have hcz79_0 : w76.cell? ⟨gb283, 0, none⟩ = some (.int .i64 0) := (blk_cell BK283.out 0).trans rfl; have hcz79_1 : w76.cell? ⟨gb283, 1, none⟩ = some (.slice none 0 0) := (blk_cell BK283.out 1).trans rfl; have hcz79_2 : w76.cell? ⟨gb283, 2, none⟩ = some (.slice none 0 0) := (blk_cell BK283.out 2).trans rfl; have hcz79_3 : w76.cell? ⟨gb283, 3, none⟩ = some (.slice none 0 0) := (blk_cell BK283.out 3).trans rfl; have hcz79_4 : w76.cell? ⟨gb283, 4, none⟩ = some (.slice none 0 0) := (blk_cell BK283.out 4).trans rfl; have hcz79_5 : w76.cell? ⟨gb283, 5, none⟩ = some (.int .i64 0) := (blk_cell BK283.out 5).trans rfl; have hcz79_6 : w76.cell? ⟨gb283, 6, none⟩ = some (.int .i64 0) := (blk_cell BK283.out 6).trans rfl; have hcz79_7 : w76.cell? ⟨gb283, 7, none⟩ = some (.slice none 0 0) := (blk_cell BK283.out 7).trans rfl; have hcz79_8 : w76.cell? ⟨gb283, 8, none⟩ = some (.slice none 0 0) := (blk_cell BK283.out 8).trans rfl; have hcz79_9 : w76.cell? ⟨gb283, 9, none⟩ = some (.slice none 0 0) := (blk_cell BK283.out 9).trans rfl; have hcz79_10 : w76.cell? ⟨gb283, 10, none⟩ = some (.slice none 0 0) := (blk_cell BK283.out 10).trans rfl; have hcz79_11 : w76.cell? ⟨gb283, 11, none⟩ = some (.int .i64 0) := (blk_cell BK283.out 11).trans rfl; have hfz79_0 := blk_frozen BK283.out 0; have hfz79_1 := blk_frozen BK283.out 1; have hfz79_2 := blk_frozen BK283.out 2; have hfz79_3 := blk_frozen BK283.out 3; have hfz79_4 := blk_frozen BK283.out 4; have hfz79_5 := blk_frozen BK283.out 5; have hfz79_6 := blk_frozen BK283.out 6; have hfz79_7 := blk_frozen BK283.out 7; have hfz79_8 := blk_frozen BK283.out 8; have hfz79_9 := blk_frozen BK283.out 9; have hfz79_10 := blk_frozen BK283.out 10; have hfz79_11 := blk_frozen BK283.out 11; obtain ⟨Ao80, co80, eo80⟩ := Kd.R_slice HO257.out; subst eo80; obtain ⟨Ao81, co81, eo81⟩ := Kd.R_slice HO260.out; subst eo81; obtain ⟨Ao82, co82, eo82⟩ := Kd.R_slice HO263.out; subst eo82; obtain ⟨Ao83, co83, eo83⟩ := Kd.R_slice HO266.out; subst eo83; obtain ⟨Ao84, co84, eo84⟩ := Kd.R_slice HO271.out; subst eo84; obtain ⟨Ao85, co85, eo85⟩ := Kd.S_slice HO274.out; subst eo85; obtain ⟨Ao86, co86, eo86⟩ := Kd.R_slice HO277.out; subst eo86; obtain ⟨Ao87, co87, eo87⟩ := Kd.R_slice HO280.out; subst eo87; have hcz88_0 : w76.cell? ⟨gb252, 0, none⟩ = some (.int .i64 t235) := (blk_cell BK252.out 0).trans rfl; have hcz88_1 : w76.cell? ⟨gb252, 1, none⟩ = some (.slice Ao25 t236.length co25) := (blk_cell BK252.out 1).trans rfl; have hcz88_2 : w76.cell? ⟨gb252, 2, none⟩ = some (.slice Ao26 t239.length co26) := (blk_cell BK252.out 2).trans rfl; have hcz88_3 : w76.cell? ⟨gb252, 3, none⟩ = some (.slice Ao27 t242.length co27) := (blk_cell BK252.out 3).trans rfl; have hcz88_4 : w76.cell? ⟨gb252, 4, none⟩ = some (.slice Ao28 t245.length co28) := (blk_cell BK252.out 4).trans rfl; have hfz88_0 := blk_frozen BK252.out 0; have hfz88_1 := blk_frozen BK252.out 1; have hfz88_2 := blk_frozen BK252.out 2; have hfz88_3 := blk_frozen BK252.out 3; have hfz88_4 := blk_frozen BK252.out 4) | (go_at_call 11; (with_reducible refine (spiritlevelref02_Same.calls k3 t235 _ _ t236 _ _ t239 _ _ t242 _ _ t245 t254 _ _ t255 _ _ t258 _ _ t261 _ _ t264 t284 _ ?side1 ?side2 ?side3 ?side4 ?side5 ?side6 ?side7 ?side8 ?side9 ?side10 ?side11 ?side12 ?side13 ?side14 ?side15 ?side16 A72.out).mono ?_); (case side1 => refine (Kd.R_reads' (e := 86) (base := w.heap.size) (ok := fun k_ => (True ∧ some k_ ≠ (.slice Ao80 t255.length co80 : Value).ownBlock)) (n := t236.length) (c := co25) ?_).2.2; exact (by (with_reducible repeat (first | apply a0_ | apply a1_ | apply a2_)); exact (Kd.R_mono (Kd.R_far (p := ⟨gb283, 11, none⟩) (Kd.R_far (p := ⟨gb283, 10, none⟩) (Kd.R_far (p := ⟨gb283, 9, none⟩) (Kd.R_far (p := ⟨gb283, 8, none⟩) (Kd.R_far (p := ⟨gb283, 7, none⟩) (Kd.R_far (p := ⟨gb283, 6, none⟩) (Kd.R_far (p := ⟨gb283, 5, none⟩) (Kd.R_far (p := ⟨gb283, 4, none⟩) (Kd.R_far (p := ⟨gb283, 3, none⟩) (Kd.R_far (p := ⟨gb283, 2, none⟩) (Kd.R_far (p := ⟨gb283, 1, none⟩) (Kd.R_far (p := ⟨gb283, 0, none⟩) (Kd.R_types HO_253001.out BK283.out (by decide)) (fun _ hk => hk.2) (.int .i64 t254)) (fun _ hk => hk.2) (.slice Ao80 t255.length co80)) (fun _ hk => hk.2) (.slice Ao81 t258.length co81)) (fun _ hk => hk.2) (.slice Ao82 t261.length co82)) (fun _ hk => hk.2) (.slice Ao83 t264.length co83)) (fun _ hk => hk.2) (.int .i64 t267)) (fun _ hk => hk.2) (.int .i64 t268)) (fun _ hk => hk.2) (.slice Ao84 t269.length co84)) (fun _ hk => hk.2) (.slice Ao85 t272.length co85)) (fun _ hk => hk.2) (.slice Ao86 t275.length co86)) (fun _ hk => hk.2) (.slice Ao87 t278.length co87)) (fun _ hk => hk.2) (.int .i64 t281)) (fun _ h_ => h_.1)))); (case side2 => exact (Kd.R_reads' HO_253001.out).2.1); (case side3 => refine (Kd.R_reads' (e := 67) (base := w.heap.size) (ok := fun k_ => ((True ∧ some k_ ≠ (.slice Ao81 t258.length co81 : Value).ownBlock) ∧ some k_ ≠ (.slice Ao87 t278.length co87 : Value).ownBlock)) (n := t239.length) (c := co26) ?_).2.2; exact (by (with_reducible repeat (first | apply a0_ | apply a1_ | apply a2_)); exact (Kd.R_mono (Kd.R_far (p := ⟨gb283, 11, none⟩) (Kd.R_far (p := ⟨gb283, 10, none⟩) (Kd.R_far (p := ⟨gb283, 9, none⟩) (Kd.R_far (p := ⟨gb283, 8, none⟩) (Kd.R_far (p := ⟨gb283, 7, none⟩) (Kd.R_far (p := ⟨gb283, 6, none⟩) (Kd.R_far (p := ⟨gb283, 5, none⟩) (Kd.R_far (p := ⟨gb283, 4, none⟩) (Kd.R_far (p := ⟨gb283, 3, none⟩) (Kd.R_far (p := ⟨gb283, 2, none⟩) (Kd.R_far (p := ⟨gb283, 1, none⟩) (Kd.R_far (p := ⟨gb283, 0, none⟩) (Kd.R_types HO_253002.out BK283.out (by decide)) (fun _ hk => hk.2) (.int .i64 t254)) (fun _ hk => hk.2) (.slice Ao80 t255.length co80)) (fun _ hk => hk.2) (.slice Ao81 t258.length co81)) (fun _ hk => hk.2) (.slice Ao82 t261.length co82)) (fun _ hk => hk.2) (.slice Ao83 t264.length co83)) (fun _ hk => hk.2) (.int .i64 t267)) (fun _ hk => hk.2) (.int .i64 t268)) (fun _ hk => hk.2) (.slice Ao84 t269.length co84)) (fun _ hk => hk.2) (.slice Ao85 t272.length co85)) (fun _ hk => hk.2) (.slice Ao86 t275.length co86)) (fun _ hk => hk.2) (.slice Ao87 t278.length co87)) (fun _ hk => hk.2) (.int .i64 t281)) (fun _ h_ => h_.1)))); (case side4 => exact (Kd.R_reads' HO_253002.out).2.1); (case side5 => refine (Kd.R_reads' (e := 3) (base := w.heap.size) (ok := fun k_ => ((((some k_ ≠ (.slice Ao28 t245.length co28 : Value).ownBlock ∧ some k_ ≠ (.slice Ao82 t261.length co82 : Value).ownBlock) ∧ some k_ ≠ (.slice Ao83 t264.length co83 : Value).ownBlock) ∧ some k_ ≠ (.slice Ao84 t269.length co84 : Value).ownBlock) ∧ some k_ ≠ (.slice Ao86 t275.length co86 : Value).ownBlock)) (n := t242.length) (c := co27) ?_).2.2; exact (by (with_reducible repeat (first | apply a0_ | apply a1_ | apply a2_)); exact (Kd.R_mono (Kd.R_far (p := ⟨gb283, 11, none⟩) (Kd.R_far (p := ⟨gb283, 10, none⟩) (Kd.R_far (p := ⟨gb283, 9, none⟩) (Kd.R_far (p := ⟨gb283, 8, none⟩) (Kd.R_far (p := ⟨gb283, 7, none⟩) (Kd.R_far (p := ⟨gb283, 6, none⟩) (Kd.R_far (p := ⟨gb283, 5, none⟩) (Kd.R_far (p := ⟨gb283, 4, none⟩) (Kd.R_far (p := ⟨gb283, 3, none⟩) (Kd.R_far (p := ⟨gb283, 2, none⟩) (Kd.R_far (p := ⟨gb283, 1, none⟩) (Kd.R_far (p := ⟨gb283, 0, none⟩) (Kd.R_types HO_253003.out BK283.out (by decide)) (fun _ hk => hk.2) (.int .i64 t254)) (fun _ hk => hk.2) (.slice Ao80 t255.length co80)) (fun _ hk => hk.2) (.slice Ao81 t258.length co81)) (fun _ hk => hk.2) (.slice Ao82 t261.length co82)) (fun _ hk => hk.2) (.slice Ao83 t264.length co83)) (fun _ hk => hk.2) (.int .i64 t267)) (fun _ hk => hk.2) (.int .i64 t268)) (fun _ hk => hk.2) (.slice Ao84 t269.length co84)) (fun _ hk => hk.2) (.slice Ao85 t272.length co85)) (fun _ hk => hk.2) (.slice Ao86 t275.length co86)) (fun _ hk => hk.2) (.slice Ao87 t278.length co87)) (fun _ hk => hk.2) (.int .i64 t281)) (fun _ h_ => h_.1)))); (case side6 => exact (Kd.R_reads' HO_253003.out).2.1); (case side7 => refine (Kd.R_reads' (e := 3) (base := w.heap.size) (ok := fun k_ => ((((some k_ ≠ (.slice Ao27 t242.length co27 : Value).ownBlock ∧ some k_ ≠ (.slice Ao82 t261.length co82 : Value).ownBlock) ∧ some k_ ≠ (.slice Ao83 t264.length co83 : Value).ownBlock) ∧ some k_ ≠ (.slice Ao84 t269.length co84 : Value).ownBlock) ∧ some k_ ≠ (.slice Ao86 t275.length co86 : Value).ownBlock)) (n := t245.length) (c := co28) ?_).2.2; exact (by (with_reducible repeat (first | apply a0_ | apply a1_ | apply a2_)); exact (Kd.R_mono (Kd.R_far (p := ⟨gb283, 11, none⟩) (Kd.R_far (p := ⟨gb283, 10, none⟩) (Kd.R_far (p := ⟨gb283, 9, none⟩) (Kd.R_far (p := ⟨gb283, 8, none⟩) (Kd.R_far (p := ⟨gb283, 7, none⟩) (Kd.R_far (p := ⟨gb283, 6, none⟩) (Kd.R_far (p := ⟨gb283, 5, none⟩) (Kd.R_far (p := ⟨gb283, 4, none⟩) (Kd.R_far (p := ⟨gb283, 3, none⟩) (Kd.R_far (p := ⟨gb283, 2, none⟩) (Kd.R_far (p := ⟨gb283, 1, none⟩) (Kd.R_far (p := ⟨gb283, 0, none⟩) (Kd.R_types HO_253004.out BK283.out (by decide)) (fun _ hk => hk.2) (.int .i64 t254)) (fun _ hk => hk.2) (.slice Ao80 t255.length co80)) (fun _ hk => hk.2) (.slice Ao81 t258.length co81)) (fun _ hk => hk.2) (.slice Ao82 t261.length co82)) (fun _ hk => hk.2) (.slice Ao83 t264.length co83)) (fun _ hk => hk.2) (.int .i64 t267)) (fun _ hk => hk.2) (.int .i64 t268)) (fun _ hk => hk.2) (.slice Ao84 t269.length co84)) (fun _ hk => hk.2) (.slice Ao85 t272.length co85)) (fun _ hk => hk.2) (.slice Ao86 t275.length co86)) (fun _ hk => hk.2) (.slice Ao87 t278.length co87)) (fun _ hk => hk.2) (.int .i64 t281)) (fun _ h_ => h_.1)))); (case side8 => exact (Kd.R_reads' HO_253004.out).2.1); (case side9 => refine (Kd.R_reads' (e := 86) (base := w.heap.size) (ok := fun k_ => (True ∧ some k_ ≠ (.slice Ao25 t236.length co25 : Value).ownBlock)) (n := t255.length) (c := co80) ?_).2.2; exact (by (with_reducible repeat (first | apply a0_ | apply a1_ | apply a2_)); exact (Kd.R_mono (Kd.R_far (p := ⟨gb283, 11, none⟩) (Kd.R_far (p := ⟨gb283, 10, none⟩) (Kd.R_far (p := ⟨gb283, 9, none⟩) (Kd.R_far (p := ⟨gb283, 8, none⟩) (Kd.R_far (p := ⟨gb283, 7, none⟩) (Kd.R_far (p := ⟨gb283, 6, none⟩) (Kd.R_far (p := ⟨gb283, 5, none⟩) (Kd.R_far (p := ⟨gb283, 4, none⟩) (Kd.R_far (p := ⟨gb283, 3, none⟩) (Kd.R_far (p := ⟨gb283, 2, none⟩) (Kd.R_far (p := ⟨gb283, 1, none⟩) (Kd.R_far (p := ⟨gb283, 0, none⟩) (Kd.R_types HO257.out BK283.out (by decide)) (fun _ hk => hk.2) (.int .i64 t254)) (fun _ hk => hk.2) (.slice Ao80 t255.length co80)) (fun _ hk => hk.2) (.slice Ao81 t258.length co81)) (fun _ hk => hk.2) (.slice Ao82 t261.length co82)) (fun _ hk => hk.2) (.slice Ao83 t264.length co83)) (fun _ hk => hk.2) (.int .i64 t267)) (fun _ hk => hk.2) (.int .i64 t268)) (fun _ hk => hk.2) (.slice Ao84 t269.length co84)) (fun _ hk => hk.2) (.slice Ao85 t272.length co85)) (fun _ hk => hk.2) (.slice Ao86 t275.length co86)) (fun _ hk => hk.2) (.slice Ao87 t278.length co87)) (fun _ hk => hk.2) (.int .i64 t281)) (fun _ h_ => h_.1)))); (case side10 => exact (Kd.R_reads' HO257.out).2.1); (case side11 => refine (Kd.R_reads' (e := 67) (base := w.heap.size) (ok := fun k_ => (some k_ ≠ (.slice Ao87 t278.length co87 : Value).ownBlock ∧ some k_ ≠ (.slice Ao26 t239.length co26 : Value).ownBlock)) (n := t258.length) (c := co81) ?_).2.2; exact (by (with_reducible repeat (first | apply a0_ | apply a1_ | apply a2_)); exact (Kd.R_mono (Kd.R_far (p := ⟨gb283, 11, none⟩) (Kd.R_far (p := ⟨gb283, 10, none⟩) (Kd.R_far (p := ⟨gb283, 9, none⟩) (Kd.R_far (p := ⟨gb283, 8, none⟩) (Kd.R_far (p := ⟨gb283, 7, none⟩) (Kd.R_far (p := ⟨gb283, 6, none⟩) (Kd.R_far (p := ⟨gb283, 5, none⟩) (Kd.R_far (p := ⟨gb283, 4, none⟩) (Kd.R_far (p := ⟨gb283, 3, none⟩) (Kd.R_far (p := ⟨gb283, 2, none⟩) (Kd.R_far (p := ⟨gb283, 1, none⟩) (Kd.R_far (p := ⟨gb283, 0, none⟩) (Kd.R_types HO260.out BK283.out (by decide)) (fun _ hk => hk.2) (.int .i64 t254)) (fun _ hk => hk.2) (.slice Ao80 t255.length co80)) (fun _ hk => hk.2) (.slice Ao81 t258.length co81)) (fun _ hk => hk.2) (.slice Ao82 t261.length co82)) (fun _ hk => hk.2) (.slice Ao83 t264.length co83)) (fun _ hk => hk.2) (.int .i64 t267)) (fun _ hk => hk.2) (.int .i64 t268)) (fun _ hk => hk.2) (.slice Ao84 t269.length co84)) (fun _ hk => hk.2) (.slice Ao85 t272.length co85)) (fun _ hk => hk.2) (.slice Ao86 t275.length co86)) (fun _ hk => hk.2) (.slice Ao87 t278.length co87)) (fun _ hk => hk.2) (.int .i64 t281)) (fun _ h_ => h_.1)))); (case side12 => exact (Kd.R_reads' HO260.out).2.1); (case side13 => refine (Kd.R_reads' (e := 3) (base := w.heap.size) (ok := fun k_ => (((some k_ ≠ (.slice Ao83 t264.length co83 : Value).ownBlock ∧ (some k_ ≠ (.slice Ao84 t269.length co84 : Value).ownBlock ∧ some k_ ≠ (.slice Ao86 t275.length co86 : Value).ownBlock)) ∧ some k_ ≠ (.slice Ao27 t242.length co27 : Value).ownBlock) ∧ some k_ ≠ (.slice Ao28 t245.length co28 : Value).ownBlock)) (n := t261.length) (c := co82) ?_).2.2; exact (by (with_reducible repeat (first | apply a0_ | apply a1_ | apply a2_)); exact (Kd.R_mono (Kd.R_far (p := ⟨gb283, 11, none⟩) (Kd.R_far (p := ⟨gb283, 10, none⟩) (Kd.R_far (p := ⟨gb283, 9, none⟩) (Kd.R_far (p := ⟨gb283, 8, none⟩) (Kd.R_far (p := ⟨gb283, 7, none⟩) (Kd.R_far (p := ⟨gb283, 6, none⟩) (Kd.R_far (p := ⟨gb283, 5, none⟩) (Kd.R_far (p := ⟨gb283, 4, none⟩) (Kd.R_far (p := ⟨gb283, 3, none⟩) (Kd.R_far (p := ⟨gb283, 2, none⟩) (Kd.R_far (p := ⟨gb283, 1, none⟩) (Kd.R_far (p := ⟨gb283, 0, none⟩) (Kd.R_types HO263.out BK283.out (by decide)) (fun _ hk => hk.2) (.int .i64 t254)) (fun _ hk => hk.2) (.slice Ao80 t255.length co80)) (fun _ hk => hk.2) (.slice Ao81 t258.length co81)) (fun _ hk => hk.2) (.slice Ao82 t261.length co82)) (fun _ hk => hk.2) (.slice Ao83 t264.length co83)) (fun _ hk => hk.2) (.int .i64 t267)) (fun _ hk => hk.2) (.int .i64 t268)) (fun _ hk => hk.2) (.slice Ao84 t269.length co84)) (fun _ hk => hk.2) (.slice Ao85 t272.length co85)) (fun _ hk => hk.2) (.slice Ao86 t275.length co86)) (fun _ hk => hk.2) (.slice Ao87 t278.length co87)) (fun _ hk => hk.2) (.int .i64 t281)) (fun _ h_ => h_.1)))); (case side14 => exact (Kd.R_reads' HO263.out).2.1); (case side15 => refine (Kd.R_reads' (e := 3) (base := w.heap.size) (ok := fun k_ => (((some k_ ≠ (.slice Ao82 t261.length co82 : Value).ownBlock ∧ (some k_ ≠ (.slice Ao84 t269.length co84 : Value).ownBlock ∧ some k_ ≠ (.slice Ao86 t275.length co86 : Value).ownBlock)) ∧ some k_ ≠ (.slice Ao27 t242.length co27 : Value).ownBlock) ∧ some k_ ≠ (.slice Ao28 t245.length co28 : Value).ownBlock)) (n := t264.length) (c := co83) ?_).2.2; exact (by (with_reducible repeat (first | apply a0_ | apply a1_ | apply a2_)); exact (Kd.R_mono (Kd.R_far (p := ⟨gb283, 11, none⟩) (Kd.R_far (p := ⟨gb283, 10, none⟩) (Kd.R_far (p := ⟨gb283, 9, none⟩) (Kd.R_far (p := ⟨gb283, 8, none⟩) (Kd.R_far (p := ⟨gb283, 7, none⟩) (Kd.R_far (p := ⟨gb283, 6, none⟩) (Kd.R_far (p := ⟨gb283, 5, none⟩) (Kd.R_far (p := ⟨gb283, 4, none⟩) (Kd.R_far (p := ⟨gb283, 3, none⟩) (Kd.R_far (p := ⟨gb283, 2, none⟩) (Kd.R_far (p := ⟨gb283, 1, none⟩) (Kd.R_far (p := ⟨gb283, 0, none⟩) (Kd.R_types HO266.out BK283.out (by decide)) (fun _ hk => hk.2) (.int .i64 t254)) (fun _ hk => hk.2) (.slice Ao80 t255.length co80)) (fun _ hk => hk.2) (.slice Ao81 t258.length co81)) (fun _ hk => hk.2) (.slice Ao82 t261.length co82)) (fun _ hk => hk.2) (.slice Ao83 t264.length co83)) (fun _ hk => hk.2) (.int .i64 t267)) (fun _ hk => hk.2) (.int .i64 t268)) (fun _ hk => hk.2) (.slice Ao84 t269.length co84)) (fun _ hk => hk.2) (.slice Ao85 t272.length co85)) (fun _ hk => hk.2) (.slice Ao86 t275.length co86)) (fun _ hk => hk.2) (.slice Ao87 t278.length co87)) (fun _ hk => hk.2) (.int .i64 t281)) (fun _ h_ => h_.1)))); (case side16 => exact (Kd.R_reads' HO266.out).2.1); rintro e w89 ⟨rfl, hb⟩; have n0_ := M_ (Kd.R_below (by (with_reducible repeat (first | apply a0_ | apply a1_ | apply a2_)); exact (Kd.R_mono (Kd.R_far (p := ⟨gb283, 11, none⟩) (Kd.R_far (p := ⟨gb283, 10, none⟩) (Kd.R_far (p := ⟨gb283, 9, none⟩) (Kd.R_far (p := ⟨gb283, 8, none⟩) (Kd.R_far (p := ⟨gb283, 7, none⟩) (Kd.R_far (p := ⟨gb283, 6, none⟩) (Kd.R_far (p := ⟨gb283, 5, none⟩) (Kd.R_far (p := ⟨gb283, 4, none⟩) (Kd.R_far (p := ⟨gb283, 3, none⟩) (Kd.R_far (p := ⟨gb283, 2, none⟩) (Kd.R_far (p := ⟨gb283, 1, none⟩) (Kd.R_far (p := ⟨gb283, 0, none⟩) (Kd.R_types HO_253001.out BK283.out (by decide)) (fun _ hk => hk.2) (.int .i64 t254)) (fun _ hk => hk.2) (.slice Ao80 t255.length co80)) (fun _ hk => hk.2) (.slice Ao81 t258.length co81)) (fun _ hk => hk.2) (.slice Ao82 t261.length co82)) (fun _ hk => hk.2) (.slice Ao83 t264.length co83)) (fun _ hk => hk.2) (.int .i64 t267)) (fun _ hk => hk.2) (.int .i64 t268)) (fun _ hk => hk.2) (.slice Ao84 t269.length co84)) (fun _ hk => hk.2) (.slice Ao85 t272.length co85)) (fun _ hk => hk.2) (.slice Ao86 t275.length co86)) (fun _ hk => hk.2) (.slice Ao87 t278.length co87)) (fun _ hk => hk.2) (.int .i64 t281)) (fun _ h_ => h_.1))) hb); have n1_ := M_ (Kd.R_below (by (with_reducible repeat (first | apply a0_ | apply a1_ | apply a2_)); exact (Kd.R_mono (Kd.R_far (p := ⟨gb283, 11, none⟩) (Kd.R_far (p := ⟨gb283, 10, none⟩) (Kd.R_far (p := ⟨gb283, 9, none⟩) (Kd.R_far (p := ⟨gb283, 8, none⟩) (Kd.R_far (p := ⟨gb283, 7, none⟩) (Kd.R_far (p := ⟨gb283, 6, none⟩) (Kd.R_far (p := ⟨gb283, 5, none⟩) (Kd.R_far (p := ⟨gb283, 4, none⟩) (Kd.R_far (p := ⟨gb283, 3, none⟩) (Kd.R_far (p := ⟨gb283, 2, none⟩) (Kd.R_far (p := ⟨gb283, 1, none⟩) (Kd.R_far (p := ⟨gb283, 0, none⟩) (Kd.R_types HO_253002.out BK283.out (by decide)) (fun _ hk => hk.2) (.int .i64 t254)) (fun _ hk => hk.2) (.slice Ao80 t255.length co80)) (fun _ hk => hk.2) (.slice Ao81 t258.length co81)) (fun _ hk => hk.2) (.slice Ao82 t261.length co82)) (fun _ hk => hk.2) (.slice Ao83 t264.length co83)) (fun _ hk => hk.2) (.int .i64 t267)) (fun _ hk => hk.2) (.int .i64 t268)) (fun _ hk => hk.2) (.slice Ao84 t269.length co84)) (fun _ hk => hk.2) (.slice Ao85 t272.length co85)) (fun _ hk => hk.2) (.slice Ao86 t275.length co86)) (fun _ hk => hk.2) (.slice Ao87 t278.length co87)) (fun _ hk => hk.2) (.int .i64 t281)) (fun _ h_ => h_.1))) hb); have n2_ := M_ (Kd.R_below (by (with_reducible repeat (first | apply a0_ | apply a1_ | apply a2_)); exact (Kd.R_mono (Kd.R_far (p := ⟨gb283, 11, none⟩) (Kd.R_far (p := ⟨gb283, 10, none⟩) (Kd.R_far (p := ⟨gb283, 9, none⟩) (Kd.R_far (p := ⟨gb283, 8, none⟩) (Kd.R_far (p := ⟨gb283, 7, none⟩) (Kd.R_far (p := ⟨gb283, 6, none⟩) (Kd.R_far (p := ⟨gb283, 5, none⟩) (Kd.R_far (p := ⟨gb283, 4, none⟩) (Kd.R_far (p := ⟨gb283, 3, none⟩) (Kd.R_far (p := ⟨gb283, 2, none⟩) (Kd.R_far (p := ⟨gb283, 1, none⟩) (Kd.R_far (p := ⟨gb283, 0, none⟩) (Kd.R_types HO_253003.out BK283.out (by decide)) (fun _ hk => hk.2) (.int .i64 t254)) (fun _ hk => hk.2) (.slice Ao80 t255.length co80)) (fun _ hk => hk.2) (.slice Ao81 t258.length co81)) (fun _ hk => hk.2) (.slice Ao82 t261.length co82)) (fun _ hk => hk.2) (.slice Ao83 t264.length co83)) (fun _ hk => hk.2) (.int .i64 t267)) (fun _ hk => hk.2) (.int .i64 t268)) (fun _ hk => hk.2) (.slice Ao84 t269.length co84)) (fun _ hk => hk.2) (.slice Ao85 t272.length co85)) (fun _ hk => hk.2) (.slice Ao86 t275.length co86)) (fun _ hk => hk.2) (.slice Ao87 t278.length co87)) (fun _ hk => hk.2) (.int .i64 t281)) (fun _ h_ => h_.1))) hb); have n3_ := M_ (Kd.R_below (by (with_reducible repeat (first | apply a0_ | apply a1_ | apply a2_)); exact (Kd.R_mono (Kd.R_far (p := ⟨gb283, 11, none⟩) (Kd.R_far (p := ⟨gb283, 10, none⟩) (Kd.R_far (p := ⟨gb283, 9, none⟩) (Kd.R_far (p := ⟨gb283, 8, none⟩) (Kd.R_far (p := ⟨gb283, 7, none⟩) (Kd.R_far (p := ⟨gb283, 6, none⟩) (Kd.R_far (p := ⟨gb283, 5, none⟩) (Kd.R_far (p := ⟨gb283, 4, none⟩) (Kd.R_far (p := ⟨gb283, 3, none⟩) (Kd.R_far (p := ⟨gb283, 2, none⟩) (Kd.R_far (p := ⟨gb283, 1, none⟩) (Kd.R_far (p := ⟨gb283, 0, none⟩) (Kd.R_types HO_253004.out BK283.out (by decide)) (fun _ hk => hk.2) (.int .i64 t254)) (fun _ hk => hk.2) (.slice Ao80 t255.length co80)) (fun _ hk => hk.2) (.slice Ao81 t258.length co81)) (fun _ hk => hk.2) (.slice Ao82 t261.length co82)) (fun _ hk => hk.2) (.slice Ao83 t264.length co83)) (fun _ hk => hk.2) (.int .i64 t267)) (fun _ hk => hk.2) (.int .i64 t268)) (fun _ hk => hk.2) (.slice Ao84 t269.length co84)) (fun _ hk => hk.2) (.slice Ao85 t272.length co85)) (fun _ hk => hk.2) (.slice Ao86 t275.length co86)) (fun _ hk => hk.2) (.slice Ao87 t278.length co87)) (fun _ hk => hk.2) (.int .i64 t281)) (fun _ h_ => h_.1))) hb); have n4_ := M_ (Kd.R_below (by (with_reducible repeat (first | apply a0_ | apply a1_ | apply a2_)); exact (Kd.R_mono (Kd.R_far (p := ⟨gb283, 11, none⟩) (Kd.R_far (p := ⟨gb283, 10, none⟩) (Kd.R_far (p := ⟨gb283, 9, none⟩) (Kd.R_far (p := ⟨gb283, 8, none⟩) (Kd.R_far (p := ⟨gb283, 7, none⟩) (Kd.R_far (p := ⟨gb283, 6, none⟩) (Kd.R_far (p := ⟨gb283, 5, none⟩) (Kd.R_far (p := ⟨gb283, 4, none⟩) (Kd.R_far (p := ⟨gb283, 3, none⟩) (Kd.R_far (p := ⟨gb283, 2, none⟩) (Kd.R_far (p := ⟨gb283, 1, none⟩) (Kd.R_far (p := ⟨gb283, 0, none⟩) (Kd.R_types HO257.out BK283.out (by decide)) (fun _ hk => hk.2) (.int .i64 t254)) (fun _ hk => hk.2) (.slice Ao80 t255.length co80)) (fun _ hk => hk.2) (.slice Ao81 t258.length co81)) (fun _ hk => hk.2) (.slice Ao82 t261.length co82)) (fun _ hk => hk.2) (.slice Ao83 t264.length co83)) (fun _ hk => hk.2) (.int .i64 t267)) (fun _ hk => hk.2) (.int .i64 t268)) (fun _ hk => hk.2) (.slice Ao84 t269.length co84)) (fun _ hk => hk.2) (.slice Ao85 t272.length co85)) (fun _ hk => hk.2) (.slice Ao86 t275.length co86)) (fun _ hk => hk.2) (.slice Ao87 t278.length co87)) (fun _ hk => hk.2) (.int .i64 t281)) (fun _ h_ => h_.1))) hb); have n5_ := M_ (Kd.R_below (by (with_reducible repeat (first | apply a0_ | apply a1_ | apply a2_)); exact (Kd.R_mono (Kd.R_far (p := ⟨gb283, 11, none⟩) (Kd.R_far (p := ⟨gb283, 10, none⟩) (Kd.R_far (p := ⟨gb283, 9, none⟩) (Kd.R_far (p := ⟨gb283, 8, none⟩) (Kd.R_far (p := ⟨gb283, 7, none⟩) (Kd.R_far (p := ⟨gb283, 6, none⟩) (Kd.R_far (p := ⟨gb283, 5, none⟩) (Kd.R_far (p := ⟨gb283, 4, none⟩) (Kd.R_far (p := ⟨gb283, 3, none⟩) (Kd.R_far (p := ⟨gb283, 2, none⟩) (Kd.R_far (p := ⟨gb283, 1, none⟩) (Kd.R_far (p := ⟨gb283, 0, none⟩) (Kd.R_types HO260.out BK283.out (by decide)) (fun _ hk => hk.2) (.int .i64 t254)) (fun _ hk => hk.2) (.slice Ao80 t255.length co80)) (fun _ hk => hk.2) (.slice Ao81 t258.length co81)) (fun _ hk => hk.2) (.slice Ao82 t261.length co82)) (fun _ hk => hk.2) (.slice Ao83 t264.length co83)) (fun _ hk => hk.2) (.int .i64 t267)) (fun _ hk => hk.2) (.int .i64 t268)) (fun _ hk => hk.2) (.slice Ao84 t269.length co84)) (fun _ hk => hk.2) (.slice Ao85 t272.length co85)) (fun _ hk => hk.2) (.slice Ao86 t275.length co86)) (fun _ hk => hk.2) (.slice Ao87 t278.length co87)) (fun _ hk => hk.2) (.int .i64 t281)) (fun _ h_ => h_.1))) hb); have n6_ := M_ (Kd.R_below (by (with_reducible repeat (first | apply a0_ | apply a1_ | apply a2_)); exact (Kd.R_mono (Kd.R_far (p := ⟨gb283, 11, none⟩) (Kd.R_far (p := ⟨gb283, 10, none⟩) (Kd.R_far (p := ⟨gb283, 9, none⟩) (Kd.R_far (p := ⟨gb283, 8, none⟩) (Kd.R_far (p := ⟨gb283, 7, none⟩) (Kd.R_far (p := ⟨gb283, 6, none⟩) (Kd.R_far (p := ⟨gb283, 5, none⟩) (Kd.R_far (p := ⟨gb283, 4, none⟩) (Kd.R_far (p := ⟨gb283, 3, none⟩) (Kd.R_far (p := ⟨gb283, 2, none⟩) (Kd.R_far (p := ⟨gb283, 1, none⟩) (Kd.R_far (p := ⟨gb283, 0, none⟩) (Kd.R_types HO263.out BK283.out (by decide)) (fun _ hk => hk.2) (.int .i64 t254)) (fun _ hk => hk.2) (.slice Ao80 t255.length co80)) (fun _ hk => hk.2) (.slice Ao81 t258.length co81)) (fun _ hk => hk.2) (.slice Ao82 t261.length co82)) (fun _ hk => hk.2) (.slice Ao83 t264.length co83)) (fun _ hk => hk.2) (.int .i64 t267)) (fun _ hk => hk.2) (.int .i64 t268)) (fun _ hk => hk.2) (.slice Ao84 t269.length co84)) (fun _ hk => hk.2) (.slice Ao85 t272.length co85)) (fun _ hk => hk.2) (.slice Ao86 t275.length co86)) (fun _ hk => hk.2) (.slice Ao87 t278.length co87)) (fun _ hk => hk.2) (.int .i64 t281)) (fun _ h_ => h_.1))) hb); have n7_ := M_ (Kd.R_below (by (with_reducible repeat (first | apply a0_ | apply a1_ | apply a2_)); exact (Kd.R_mono (Kd.R_far (p := ⟨gb283, 11, none⟩) (Kd.R_far (p := ⟨gb283, 10, none⟩) (Kd.R_far (p := ⟨gb283, 9, none⟩) (Kd.R_far (p := ⟨gb283, 8, none⟩) (Kd.R_far (p := ⟨gb283, 7, none⟩) (Kd.R_far (p := ⟨gb283, 6, none⟩) (Kd.R_far (p := ⟨gb283, 5, none⟩) (Kd.R_far (p := ⟨gb283, 4, none⟩) (Kd.R_far (p := ⟨gb283, 3, none⟩) (Kd.R_far (p := ⟨gb283, 2, none⟩) (Kd.R_far (p := ⟨gb283, 1, none⟩) (Kd.R_far (p := ⟨gb283, 0, none⟩) (Kd.R_types HO266.out BK283.out (by decide)) (fun _ hk => hk.2) (.int .i64 t254)) (fun _ hk => hk.2) (.slice Ao80 t255.length co80)) (fun _ hk => hk.2) (.slice Ao81 t258.length co81)) (fun _ hk => hk.2) (.slice Ao82 t261.length co82)) (fun _ hk => hk.2) (.slice Ao83 t264.length co83)) (fun _ hk => hk.2) (.int .i64 t267)) (fun _ hk => hk.2) (.int .i64 t268)) (fun _ hk => hk.2) (.slice Ao84 t269.length co84)) (fun _ hk => hk.2) (.slice Ao85 t272.length co85)) (fun _ hk => hk.2) (.slice Ao86 t275.length co86)) (fun _ hk => hk.2) (.slice Ao87 t278.length co87)) (fun _ hk => hk.2) (.int .i64 t281)) (fun _ h_ => h_.1))) hb); have n8_ := M_ (Kd.R_below (by (with_reducible repeat (first | apply a0_ | apply a1_ | apply a2_)); exact (Kd.R_mono (Kd.R_far (p := ⟨gb283, 11, none⟩) (Kd.R_far (p := ⟨gb283, 10, none⟩) (Kd.R_far (p := ⟨gb283, 9, none⟩) (Kd.R_far (p := ⟨gb283, 8, none⟩) (Kd.R_far (p := ⟨gb283, 7, none⟩) (Kd.R_far (p := ⟨gb283, 6, none⟩) (Kd.R_far (p := ⟨gb283, 5, none⟩) (Kd.R_far (p := ⟨gb283, 4, none⟩) (Kd.R_far (p := ⟨gb283, 3, none⟩) (Kd.R_far (p := ⟨gb283, 2, none⟩) (Kd.R_far (p := ⟨gb283, 1, none⟩) (Kd.R_far (p := ⟨gb283, 0, none⟩) (Kd.R_types HO271.out BK283.out (by decide)) (fun _ hk => hk.2) (.int .i64 t254)) (fun _ hk => hk.2) (.slice Ao80 t255.length co80)) (fun _ hk => hk.2) (.slice Ao81 t258.length co81)) (fun _ hk => hk.2) (.slice Ao82 t261.length co82)) (fun _ hk => hk.2) (.slice Ao83 t264.length co83)) (fun _ hk => hk.2) (.int .i64 t267)) (fun _ hk => hk.2) (.int .i64 t268)) (fun _ hk => hk.2) (.slice Ao84 t269.length co84)) (fun _ hk => hk.2) (.slice Ao85 t272.length co85)) (fun _ hk => hk.2) (.slice Ao86 t275.length co86)) (fun _ hk => hk.2) (.slice Ao87 t278.length co87)) (fun _ hk => hk.2) (.int .i64 t281)) (fun _ h_ => h_.1))) hb); have n9_ := M_ (Kd.S_below (by (with_reducible repeat (first | apply Kd.S_alloc | apply Kd.S_drewN | apply Kd.S_drew)); exact (Kd.S_mono (Kd.S_far (p := ⟨gb283, 11, none⟩) (Kd.S_far (p := ⟨gb283, 10, none⟩) (Kd.S_far (p := ⟨gb283, 9, none⟩) (Kd.S_far (p := ⟨gb283, 8, none⟩) (Kd.S_far (p := ⟨gb283, 7, none⟩) (Kd.S_far (p := ⟨gb283, 6, none⟩) (Kd.S_far (p := ⟨gb283, 5, none⟩) (Kd.S_far (p := ⟨gb283, 4, none⟩) (Kd.S_far (p := ⟨gb283, 3, none⟩) (Kd.S_far (p := ⟨gb283, 2, none⟩) (Kd.S_far (p := ⟨gb283, 1, none⟩) (Kd.S_far (p := ⟨gb283, 0, none⟩) (Kd.S_types HO274.out BK283.out (by decide)) (fun _ hk => hk.2) (.int .i64 t254)) (fun _ hk => hk.2) (.slice Ao80 t255.length co80)) (fun _ hk => hk.2) (.slice Ao81 t258.length co81)) (fun _ hk => hk.2) (.slice Ao82 t261.length co82)) (fun _ hk => hk.2) (.slice Ao83 t264.length co83)) (fun _ hk => hk.2) (.int .i64 t267)) (fun _ hk => hk.2) (.int .i64 t268)) (fun _ hk => hk.2) (.slice Ao84 t269.length co84)) (fun _ hk => hk.2) (.slice Ao85 t272.length co85)) (fun _ hk => hk.2) (.slice Ao86 t275.length co86)) (fun _ hk => hk.2) (.slice Ao87 t278.length co87)) (fun _ hk => hk.2) (.int .i64 t281)) (fun _ h_ => h_.1))) hb); have n10_ := M_ (Kd.R_below (by (with_reducible repeat (first | apply a0_ | apply a1_ | apply a2_)); exact (Kd.R_mono (Kd.R_far (p := ⟨gb283, 11, none⟩) (Kd.R_far (p := ⟨gb283, 10, none⟩) (Kd.R_far (p := ⟨gb283, 9, none⟩) (Kd.R_far (p := ⟨gb283, 8, none⟩) (Kd.R_far (p := ⟨gb283, 7, none⟩) (Kd.R_far (p := ⟨gb283, 6, none⟩) (Kd.R_far (p := ⟨gb283, 5, none⟩) (Kd.R_far (p := ⟨gb283, 4, none⟩) (Kd.R_far (p := ⟨gb283, 3, none⟩) (Kd.R_far (p := ⟨gb283, 2, none⟩) (Kd.R_far (p := ⟨gb283, 1, none⟩) (Kd.R_far (p := ⟨gb283, 0, none⟩) (Kd.R_types HO277.out BK283.out (by decide)) (fun _ hk => hk.2) (.int .i64 t254)) (fun _ hk => hk.2) (.slice Ao80 t255.length co80)) (fun _ hk => hk.2) (.slice Ao81 t258.length co81)) (fun _ hk => hk.2) (.slice Ao82 t261.length co82)) (fun _ hk => hk.2) (.slice Ao83 t264.length co83)) (fun _ hk => hk.2) (.int .i64 t267)) (fun _ hk => hk.2) (.int .i64 t268)) (fun _ hk => hk.2) (.slice Ao84 t269.length co84)) (fun _ hk => hk.2) (.slice Ao85 t272.length co85)) (fun _ hk => hk.2) (.slice Ao86 t275.length co86)) (fun _ hk => hk.2) (.slice Ao87 t278.length co87)) (fun _ hk => hk.2) (.int .i64 t281)) (fun _ h_ => h_.1))) hb); have n11_ := M_ (Kd.R_below (by (with_reducible repeat (first | apply a0_ | apply a1_ | apply a2_)); exact (Kd.R_mono (Kd.R_far (p := ⟨gb283, 11, none⟩) (Kd.R_far (p := ⟨gb283, 10, none⟩) (Kd.R_far (p := ⟨gb283, 9, none⟩) (Kd.R_far (p := ⟨gb283, 8, none⟩) (Kd.R_far (p := ⟨gb283, 7, none⟩) (Kd.R_far (p := ⟨gb283, 6, none⟩) (Kd.R_far (p := ⟨gb283, 5, none⟩) (Kd.R_far (p := ⟨gb283, 4, none⟩) (Kd.R_far (p := ⟨gb283, 3, none⟩) (Kd.R_far (p := ⟨gb283, 2, none⟩) (Kd.R_far (p := ⟨gb283, 1, none⟩) (Kd.R_far (p := ⟨gb283, 0, none⟩) (Kd.R_types HO280.out BK283.out (by decide)) (fun _ hk => hk.2) (.int .i64 t254)) (fun _ hk => hk.2) (.slice Ao80 t255.length co80)) (fun _ hk => hk.2) (.slice Ao81 t258.length co81)) (fun _ hk => hk.2) (.slice Ao82 t261.length co82)) (fun _ hk => hk.2) (.slice Ao83 t264.length co83)) (fun _ hk => hk.2) (.int .i64 t267)) (fun _ hk => hk.2) (.int .i64 t268)) (fun _ hk => hk.2) (.slice Ao84 t269.length co84)) (fun _ hk => hk.2) (.slice Ao85 t272.length co85)) (fun _ hk => hk.2) (.slice Ao86 t275.length co86)) (fun _ hk => hk.2) (.slice Ao87 t278.length co87)) (fun _ hk => hk.2) (.int .i64 t281)) (fun _ h_ => h_.1))) hb); have n12_ := M_ (blk_below (g := gb232) (o := .cells #[.int .i64 a0_0, .slice A0_1 l0_1.length c0_1, .slice A0_2 l0_2.length c0_2, .slice A0_3 l0_3.length c0_3, .slice A0_4 l0_4.length c0_4] 26 (0, 0)) (by (with_reducible repeat (first | refine blk_drewN ?_ _ | refine blk_drew ?_ | refine blk_alloc ?_ _)); refine blk_far ?_ NB232_283.out _; (with_reducible repeat (first | refine blk_drewN ?_ _ | refine blk_drew ?_ | refine blk_alloc ?_ _)); refine blk_far ?_ NB232_283.out _; (with_reducible repeat (first | refine blk_drewN ?_ _ | refine blk_drew ?_ | refine blk_alloc ?_ _)); refine blk_far ?_ NB232_283.out _; (with_reducible repeat (first | refine blk_drewN ?_ _ | refine blk_drew ?_ | refine blk_alloc ?_ _)); refine blk_far ?_ NB232_283.out _; (with_reducible repeat (first | refine blk_drewN ?_ _ | refine blk_drew ?_ | refine blk_alloc ?_ _)); refine blk_far ?_ NB232_283.out _; (with_reducible repeat (first | refine blk_drewN ?_ _ | refine blk_drew ?_ | refine blk_alloc ?_ _)); refine blk_far ?_ NB232_283.out _; (with_reducible repeat (first | refine blk_drewN ?_ _ | refine blk_drew ?_ | refine blk_alloc ?_ _)); refine blk_far ?_ NB232_283.out _; (with_reducible repeat (first | refine blk_drewN ?_ _ | refine blk_drew ?_ | refine blk_alloc ?_ _)); refine blk_far ?_ NB232_283.out _; (with_reducible repeat (first | refine blk_drewN ?_ _ | refine blk_drew ?_ | refine blk_alloc ?_ _)); refine blk_far ?_ NB232_283.out _; (with_reducible repeat (first | refine blk_drewN ?_ _ | refine blk_drew ?_ | refine blk_alloc ?_ _)); refine blk_far ?_ NB232_283.out _; (with_reducible repeat (first | refine blk_drewN ?_ _ | refine blk_drew ?_ | refine blk_alloc ?_ _)); refine blk_far ?_ NB232_283.out _; (with_reducible repeat (first | refine blk_drewN ?_ _ | refine blk_drew ?_ | refine blk_alloc ?_ _)); refine blk_far ?_ NB232_283.out _; (with_reducible repeat (first | refine blk_drewN ?_ _ | refine blk_drew ?_ | refine blk_alloc ?_ _)); exact BK232.out) hb); have n13_ := M_ (blk_below (g := gb252) (o := .cells #[.int .i64 t235, .slice Ao25 t236.length co25, .slice Ao26 t239.length co26, .slice Ao27 t242.length co27, .slice Ao28 t245.length co28] 26 (0, 0)) (by (with_reducible repeat (first | refine blk_drewN ?_ _ | refine blk_drew ?_ | refine blk_alloc ?_ _)); refine blk_far ?_ NB252_283.out _; (with_reducible repeat (first | refine blk_drewN ?_ _ | refine blk_drew ?_ | refine blk_alloc ?_ _)); refine blk_far ?_ NB252_283.out _; (with_reducible repeat (first | refine blk_drewN ?_ _ | refine blk_drew ?_ | refine blk_alloc ?_ _)); refine blk_far ?_ NB252_283.out _; (with_reducible repeat (first | refine blk_drewN ?_ _ | refine blk_drew ?_ | refine blk_alloc ?_ _)); refine blk_far ?_ NB252_283.out _; (with_reducible repeat (first | refine blk_drewN ?_ _ | refine blk_drew ?_ | refine blk_alloc ?_ _)); refine blk_far ?_ NB252_283.out _; (with_reducible repeat (first | refine blk_drewN ?_ _ | refine blk_drew ?_ | refine blk_alloc ?_ _)); refine blk_far ?_ NB252_283.out _; (with_reducible repeat (first | refine blk_drewN ?_ _ | refine blk_drew ?_ | refine blk_alloc ?_ _)); refine blk_far ?_ NB252_283.out _; (with_reducible repeat (first | refine blk_drewN ?_ _ | refine blk_drew ?_ | refine blk_alloc ?_ _)); refine blk_far ?_ NB252_283.out _; (with_reducible repeat (first | refine blk_drewN ?_ _ | refine blk_drew ?_ | refine blk_alloc ?_ _)); refine blk_far ?_ NB252_283.out _; (with_reducible repeat (first | refine blk_drewN ?_ _ | refine blk_drew ?_ | refine blk_alloc ?_ _)); refine blk_far ?_ NB252_283.out _; (with_reducible repeat (first | refine blk_drewN ?_ _ | refine blk_drew ?_ | refine blk_alloc ?_ _)); refine blk_far ?_ NB252_283.out _; (with_reducible repeat (first | refine blk_drewN ?_ _ | refine blk_drew ?_ | refine blk_alloc ?_ _)); refine blk_far ?_ NB252_283.out _; (with_reducible repeat (first | refine blk_drewN ?_ _ | refine blk_drew ?_ | refine blk_alloc ?_ _)); exact BK252.out) hb); have n14_ := M_ (blk_below (g := gb283) (o := .cells #[.int .i64 t254, .slice Ao80 t255.length co80, .slice Ao81 t258.length co81, .slice Ao82 t261.length co82, .slice Ao83 t264.length co83, .int .i64 t267, .int .i64 t268, .slice Ao84 t269.length co84, .slice Ao85 t272.length co85, .slice Ao86 t275.length co86, .slice Ao87 t278.length co87, .int .i64 t281] 55 (0, 0)) (by (with_reducible repeat (first | refine blk_drewN ?_ _ | refine blk_drew ?_ | refine blk_alloc ?_ _)); refine blk_put (cs := #[.int .i64 t254, .slice Ao80 t255.length co80, .slice Ao81 t258.length co81, .slice Ao82 t261.length co82, .slice Ao83 t264.length co83, .int .i64 t267, .int .i64 t268, .slice Ao84 t269.length co84, .slice Ao85 t272.length co85, .slice Ao86 t275.length co86, .slice Ao87 t278.length co87, .int .i64 0]) ?_ 11 _ rfl; (with_reducible repeat (first | refine blk_drewN ?_ _ | refine blk_drew ?_ | refine blk_alloc ?_ _)); refine blk_put (cs := #[.int .i64 t254, .slice Ao80 t255.length co80, .slice Ao81 t258.length co81, .slice Ao82 t261.length co82, .slice Ao83 t264.length co83, .int .i64 t267, .int .i64 t268, .slice Ao84 t269.length co84, .slice Ao85 t272.length co85, .slice Ao86 t275.length co86, .slice none 0 0, .int .i64 0]) ?_ 10 _ rfl; (with_reducible repeat (first | refine blk_drewN ?_ _ | refine blk_drew ?_ | refine blk_alloc ?_ _)); refine blk_put (cs := #[.int .i64 t254, .slice Ao80 t255.length co80, .slice Ao81 t258.length co81, .slice Ao82 t261.length co82, .slice Ao83 t264.length co83, .int .i64 t267, .int .i64 t268, .slice Ao84 t269.length co84, .slice Ao85 t272.length co85, .slice none 0 0, .slice none 0 0, .int .i64 0]) ?_ 9 _ rfl; (with_reducible repeat (first | refine blk_drewN ?_ _ | refine blk_drew ?_ | refine blk_alloc ?_ _)); refine blk_put (cs := #[.int .i64 t254, .slice Ao80 t255.length co80, .slice Ao81 t258.length co81, .slice Ao82 t261.length co82, .slice Ao83 t264.length co83, .int .i64 t267, .int .i64 t268, .slice Ao84 t269.length co84, .slice none 0 0, .slice none 0 0, .slice none 0 0, .int .i64 0]) ?_ 8 _ rfl; (with_reducible repeat (first | refine blk_drewN ?_ _ | refine blk_drew ?_ | refine blk_alloc ?_ _)); refine blk_put (cs := #[.int .i64 t254, .slice Ao80 t255.length co80, .slice Ao81 t258.length co81, .slice Ao82 t261.length co82, .slice Ao83 t264.length co83, .int .i64 t267, .int .i64 t268, .slice none 0 0, .slice none 0 0, .slice none 0 0, .slice none 0 0, .int .i64 0]) ?_ 7 _ rfl; (with_reducible repeat (first | refine blk_drewN ?_ _ | refine blk_drew ?_ | refine blk_alloc ?_ _)); refine blk_put (cs := #[.int .i64 t254, .slice Ao80 t255.length co80, .slice Ao81 t258.length co81, .slice Ao82 t261.length co82, .slice Ao83 t264.length co83, .int .i64 t267, .int .i64 0, .slice none 0 0, .slice none 0 0, .slice none 0 0, .slice none 0 0, .int .i64 0]) ?_ 6 _ rfl; (with_reducible repeat (first | refine blk_drewN ?_ _ | refine blk_drew ?_ | refine blk_alloc ?_ _)); refine blk_put (cs := #[.int .i64 t254, .slice Ao80 t255.length co80, .slice Ao81 t258.length co81, .slice Ao82 t261.length co82, .slice Ao83 t264.length co83, .int .i64 0, .int .i64 0, .slice none 0 0, .slice none 0 0, .slice none 0 0, .slice none 0 0, .int .i64 0]) ?_ 5 _ rfl; (with_reducible repeat (first | refine blk_drewN ?_ _ | refine blk_drew ?_ | refine blk_alloc ?_ _)); refine blk_put (cs := #[.int .i64 t254, .slice Ao80 t255.length co80, .slice Ao81 t258.length co81, .slice Ao82 t261.length co82, .slice none 0 0, .int .i64 0, .int .i64 0, .slice none 0 0, .slice none 0 0, .slice none 0 0, .slice none 0 0, .int .i64 0]) ?_ 4 _ rfl; (with_reducible repeat (first | refine blk_drewN ?_ _ | refine blk_drew ?_ | refine blk_alloc ?_ _)); refine blk_put (cs := #[.int .i64 t254, .slice Ao80 t255.length co80, .slice Ao81 t258.length co81, .slice none 0 0, .slice none 0 0, .int .i64 0, .int .i64 0, .slice none 0 0, .slice none 0 0, .slice none 0 0, .slice none 0 0, .int .i64 0]) ?_ 3 _ rfl; (with_reducible repeat (first | refine blk_drewN ?_ _ | refine blk_drew ?_ | refine blk_alloc ?_ _)); refine blk_put (cs := #[.int .i64 t254, .slice Ao80 t255.length co80, .slice none 0 0, .slice none 0 0, .slice none 0 0, .int .i64 0, .int .i64 0, .slice none 0 0, .slice none 0 0, .slice none 0 0, .slice none 0 0, .int .i64 0]) ?_ 2 _ rfl; (with_reducible repeat (first | refine blk_drewN ?_ _ | refine blk_drew ?_ | refine blk_alloc ?_ _)); refine blk_put (cs := #[.int .i64 t254, .slice none 0 0, .slice none 0 0, .slice none 0 0, .slice none 0 0, .int .i64 0, .int .i64 0, .slice none 0 0, .slice none 0 0, .slice none 0 0, .slice none 0 0, .int .i64 0]) ?_ 1 _ rfl; (with_reducible repeat (first | refine blk_drewN ?_ _ | refine blk_drew ?_ | refine blk_alloc ?_ _)); refine blk_put (cs := #[.int .i64 0, .slice none 0 0, .slice none 0 0, .slice none 0 0, .slice none 0 0, .int .i64 0, .int .i64 0, .slice none 0 0, .slice none 0 0, .slice none 0 0, .slice none 0 0, .int .i64 0]) ?_ 0 _ rfl; (with_reducible repeat (first | refine blk_drewN ?_ _ | refine blk_drew ?_ | refine blk_alloc ?_ _)); exact BK283.out) hb); have n15_ := M_ (below_step (by repeat (first | (with_reducible first | exact HB.out | apply b0_ | apply b1_ | apply b2_ | refine below_set ?_ GE232.out | refine below_set ?_ GE252.out | refine below_set ?_ GE283.out) | exact HB.out)) hb); clear HO_253001; clear HO_253002; clear HO_253003; clear HO_253004; clear HO257; clear HO260; clear HO263; clear HO266; clear HO271; clear HO274; clear HO277; clear HO280; clear BK232; clear BK252; clear BK283; clear HB; have HO_253001 := n0_; have HO_253002 := n1_; have HO_253003 := n2_; have HO_253004 := n3_; have HO257 := n4_; have HO260 := n5_; have HO263 := n6_; have HO266 := n7_; have HO271 := n8_; have HO274 := n9_; have HO277 := n10_; have HO280 := n11_; have BK232 := n12_; have BK252 := n13_; have BK283 := n14_; have HB := n15_; clear n0_ n1_ n2_ n3_ n4_ n5_ n6_ n7_ n8_ n9_ n10_ n11_ n12_ n13_ n14_ n15_; (try clear hb); (try clear hb2); (try clear hk); (try clear hi)))
             go_ret
             exact ⟨by first | rfl | (simp [errW_none, errW_some] <;> rfl) | (simp [*, errW_none, errW_some] <;> rfl), by repeat (first | (with_reducible first | exact HB.out | apply b0_ | apply b1_ | apply b2_ | refine below_set ?_ GE232.out | refine below_set ?_ GE252.out | refine below_set ?_ GE283.out) | exact HB.out)⟩
            ·rw [if_neg c71] at H
             have c71b0 : (t282 == 0) = false := beq_eq_false_iff_ne.mpr c71
             have c71b1 : (t282 != 0) = true := bne_iff_ne.mpr c71
             exact absurd ((Option.some.inj H).trans HTR_.out) (by decide)
           ·replace c70 := Bool.eq_false_iff.mpr c70
            subst c70
            have H1 : (some false) = some r := by rw [if_neg (show ¬ (false = true) by decide)] at H; exact H
            clear H
            have H := H1
            clear H1
            exact absurd ((Option.some.inj H).trans HTR_.out) (by decide)
    ·rw [if_neg c18] at H
     have c18b0 : (t251 == 0) = false := beq_eq_false_iff_ne.mpr c18
     have c18b1 : (t251 != 0) = true := bne_iff_ne.mpr c18
     obtain rfl := Option.some.inj H
     have hcz90_0 : wc.cell? ⟨gb232, 0, none⟩ = some (.int .i64 a0_0) := (blk_cell BK232.out 0).trans rfl
     have hcz90_1 : wc.cell? ⟨gb232, 1, none⟩ = some (.slice A0_1 l0_1.length c0_1) := (blk_cell BK232.out 1).trans rfl
     have hcz90_2 : wc.cell? ⟨gb232, 2, none⟩ = some (.slice A0_2 l0_2.length c0_2) := (blk_cell BK232.out 2).trans rfl
     have hcz90_3 : wc.cell? ⟨gb232, 3, none⟩ = some (.slice A0_3 l0_3.length c0_3) := (blk_cell BK232.out 3).trans rfl
     have hcz90_4 : wc.cell? ⟨gb232, 4, none⟩ = some (.slice A0_4 l0_4.length c0_4) := (blk_cell BK232.out 4).trans rfl
     have hfz90_0 := blk_frozen BK232.out 0
     have hfz90_1 := blk_frozen BK232.out 1
     have hfz90_2 := blk_frozen BK232.out 2
     have hfz90_3 := blk_frozen BK232.out 3
     have hfz90_4 := blk_frozen BK232.out 4
     go_wp2_with (first | ((with_reducible refine gate_callee (f := 18) rfl ?_); refine goesL_ (some 32) rfl rfl Try.func18 (by kernel_rfl) rfl #[.agg #[.int .i64 a0_0, .slice A0_1 l0_1.length c0_1, .slice A0_2 l0_2.length c0_2, .slice A0_3 l0_3.length c0_3, .slice A0_4 l0_4.length c0_4], .slice A1 l1.length c1] rfl (by (try simp only [List.map_toArray, List.map_cons, List.map_nil]); first | done | rfl | (simp only [List.length_drop, List.length_take]; rfl)) ?_; (with_reducible refine (hash_Build.calls a0_0 _ _ l0_1 _ _ l0_2 _ _ l0_3 _ _ l0_4 _ _ l1 t235 t236 t239 t242 t245 t248 t251 _ ?side1 ?side2 ?side3 ?side4 ?side5 ?side6 ?side7 ?side8 ?side9 ?side10 A17.out).mono ?_); (case side1 => repeat (first | exact (Kd.C_below HR0_1.out HB.out) | (with_reducible refine c0_ ?_ _) | (with_reducible refine c1_ ?_ _) | (with_reducible refine c2_ ?_))); (case side2 => exact HC0_1.out); (case side3 => repeat (first | exact (Kd.C_below HR0_2.out HB.out) | (with_reducible refine c0_ ?_ _) | (with_reducible refine c1_ ?_ _) | (with_reducible refine c2_ ?_))); (case side4 => exact HC0_2.out); (case side5 => repeat (first | exact (Kd.C_below HR0_3.out HB.out) | (with_reducible refine c0_ ?_ _) | (with_reducible refine c1_ ?_ _) | (with_reducible refine c2_ ?_))); (case side6 => exact HC0_3.out); (case side7 => repeat (first | exact (Kd.C_below HR0_4.out HB.out) | (with_reducible refine c0_ ?_ _) | (with_reducible refine c1_ ?_ _) | (with_reducible refine c2_ ?_))); (case side8 => exact HC0_4.out); (case side9 => repeat (first | exact (Kd.C_below HR1.out HB.out) | (with_reducible refine c0_ ?_ _) | (with_reducible refine c1_ ?_ _) | (with_reducible refine c2_ ?_))); (case side10 => exact HC1.out); rintro e w91 ⟨v237, v240, v243, v246, v249, rfl, ho0, ho1, ho2, ho3, ho4, hb⟩; refine ⟨_, rfl, ?_⟩; have n0_ := M_ (Kd.R_lower ho0 (below_size (by repeat (first | (with_reducible first | exact HB.out | apply b0_ | apply b1_ | apply b2_ | refine below_set ?_ GE232.out) | exact HB.out)))); have n1_ := M_ (Kd.R_lower ho1 (below_size (by repeat (first | (with_reducible first | exact HB.out | apply b0_ | apply b1_ | apply b2_ | refine below_set ?_ GE232.out) | exact HB.out)))); have n2_ := M_ (Kd.R_lower ho2 (below_size (by repeat (first | (with_reducible first | exact HB.out | apply b0_ | apply b1_ | apply b2_ | refine below_set ?_ GE232.out) | exact HB.out)))); have n3_ := M_ (Kd.R_lower ho3 (below_size (by repeat (first | (with_reducible first | exact HB.out | apply b0_ | apply b1_ | apply b2_ | refine below_set ?_ GE232.out) | exact HB.out)))); have n4_ := M_ (Kd.R_lower ho4 (below_size (by repeat (first | (with_reducible first | exact HB.out | apply b0_ | apply b1_ | apply b2_ | refine below_set ?_ GE232.out) | exact HB.out)))); have n5_ := M_ (blk_below (g := gb232) (o := .cells #[.int .i64 a0_0, .slice A0_1 l0_1.length c0_1, .slice A0_2 l0_2.length c0_2, .slice A0_3 l0_3.length c0_3, .slice A0_4 l0_4.length c0_4] 26 (0, 0)) (by (with_reducible repeat (first | refine blk_drewN ?_ _ | refine blk_drew ?_ | refine blk_alloc ?_ _)); exact BK232.out) hb); have n6_ := M_ (below_step (by repeat (first | (with_reducible first | exact HB.out | apply b0_ | apply b1_ | apply b2_ | refine below_set ?_ GE232.out) | exact HB.out)) hb); clear BK232; clear HB; have HO238 := n0_; have HO241 := n1_; have HO244 := n2_; have HO247 := n3_; have HO250 := n4_; have BK232 := n5_; have HB := n6_; clear n0_ n1_ n2_ n3_ n4_ n5_ n6_; (try clear hb); (try clear hb2); (try clear hk); (try clear hi); (try clear ho0); (try clear ho1); (try clear ho2); (try clear ho3); (try clear ho4)) | ((with_reducible refine gate_dst (N := 6) rfl ?_); (try (refine gate_guard (by rfl) ?_; dsimp only)); refine box_event ?hg (N := 6) ?hd (cs := #[.int .i64 0, .slice none 0 0, .slice none 0 0, .slice none 0 0, .slice none 0 0]) (t := 26) ?hr ?_; (case hd => rfl); (case hg => rfl); (case hr => first | (go_simp; done) | (go_simp; rfl)); intro gb252 hg w92 hbox hb; have n0_ := M_ (Kd.R_below (by (with_reducible repeat (first | apply a0_ | apply a1_ | apply a2_)); exact HO238.out) hb); have n1_ := M_ (Kd.R_below (by (with_reducible repeat (first | apply a0_ | apply a1_ | apply a2_)); exact HO241.out) hb); have n2_ := M_ (Kd.R_below (by (with_reducible repeat (first | apply a0_ | apply a1_ | apply a2_)); exact HO244.out) hb); have n3_ := M_ (Kd.R_below (by (with_reducible repeat (first | apply a0_ | apply a1_ | apply a2_)); exact HO247.out) hb); have n4_ := M_ (Kd.R_below (by (with_reducible repeat (first | apply a0_ | apply a1_ | apply a2_)); exact HO250.out) hb); have n5_ := M_ (blk_below (g := gb232) (o := .cells #[.int .i64 a0_0, .slice A0_1 l0_1.length c0_1, .slice A0_2 l0_2.length c0_2, .slice A0_3 l0_3.length c0_3, .slice A0_4 l0_4.length c0_4] 26 (0, 0)) (by (with_reducible repeat (first | refine blk_drewN ?_ _ | refine blk_drew ?_ | refine blk_alloc ?_ _)); exact BK232.out) hb); have n6_ := M_ (below_step (by repeat (first | (with_reducible first | exact HB.out | apply b0_ | apply b1_ | apply b2_ | refine below_set ?_ GE232.out) | exact HB.out)) hb); have n7_ := M_ (hbox); have n8_ := M_ ((by rw [hg]; exact (below_size (by repeat (first | (with_reducible first | exact HB.out | apply b0_ | apply b1_ | apply b2_ | refine below_set ?_ GE232.out) | exact HB.out))) : w.heap.size ≤ gb252)); have n9_ := M_ ((by rw [hg]; exact (below_size (by repeat (first | (with_reducible first | exact HB.out | apply b0_ | apply b1_ | apply b2_ | refine below_set ?_ GE232.out) | exact HB.out))) : w.heap.size ≤ gb252)); have n10_ := M_ ((by rw [hg]; exact Nat.ne_of_lt (blk_lt (g := gb232) (o := .cells #[.int .i64 a0_0, .slice A0_1 l0_1.length c0_1, .slice A0_2 l0_2.length c0_2, .slice A0_3 l0_3.length c0_3, .slice A0_4 l0_4.length c0_4] 26 (0, 0)) (by (with_reducible repeat (first | refine blk_drewN ?_ _ | refine blk_drew ?_ | refine blk_alloc ?_ _)); exact BK232.out)) : gb232 ≠ gb252)); have n11_ := M_ ((by rw [hg]; exact Nat.ne_of_gt (blk_lt (g := gb232) (o := .cells #[.int .i64 a0_0, .slice A0_1 l0_1.length c0_1, .slice A0_2 l0_2.length c0_2, .slice A0_3 l0_3.length c0_3, .slice A0_4 l0_4.length c0_4] 26 (0, 0)) (by (with_reducible repeat (first | refine blk_drewN ?_ _ | refine blk_drew ?_ | refine blk_alloc ?_ _)); exact BK232.out)) : gb252 ≠ gb232)); clear HO238; clear HO241; clear HO244; clear HO247; clear HO250; clear BK232; clear HB; have HO238 := n0_; have HO241 := n1_; have HO244 := n2_; have HO247 := n3_; have HO250 := n4_; have BK232 := n5_; have HB := n6_; have BK252 := n7_; have GW252 := n8_; have GE252 := n9_; have NB232_252 := n10_; have NB252_232 := n11_; clear n0_ n1_ n2_ n3_ n4_ n5_ n6_ n7_ n8_ n9_ n10_ n11_; clear hb hbox hg; have hnb93 := NB252_232.out; have hnc93 := NB232_252.out; have hcz94_0 : w92.cell? ⟨gb252, 0, none⟩ = some (.int .i64 0) := (blk_cell BK252.out 0).trans rfl; have hcz94_1 : w92.cell? ⟨gb252, 1, none⟩ = some (.slice none 0 0) := (blk_cell BK252.out 1).trans rfl; have hcz94_2 : w92.cell? ⟨gb252, 2, none⟩ = some (.slice none 0 0) := (blk_cell BK252.out 2).trans rfl; have hcz94_3 : w92.cell? ⟨gb252, 3, none⟩ = some (.slice none 0 0) := (blk_cell BK252.out 3).trans rfl; have hcz94_4 : w92.cell? ⟨gb252, 4, none⟩ = some (.slice none 0 0) := (blk_cell BK252.out 4).trans rfl; have hfz94_0 := blk_frozen BK252.out 0; have hfz94_1 := blk_frozen BK252.out 1; have hfz94_2 := blk_frozen BK252.out 2; have hfz94_3 := blk_frozen BK252.out 3; have hfz94_4 := blk_frozen BK252.out 4; obtain ⟨Ao95, co95, eo95⟩ := Kd.R_slice HO238.out; subst eo95; obtain ⟨Ao96, co96, eo96⟩ := Kd.R_slice HO241.out; subst eo96; obtain ⟨Ao97, co97, eo97⟩ := Kd.R_slice HO244.out; subst eo97; obtain ⟨Ao98, co98, eo98⟩ := Kd.R_slice HO247.out; subst eo98))
     go_ret
     exact ⟨by first | rfl | (simp [errW_none, errW_some] <;> rfl) | (simp [*, errW_none, errW_some] <;> rfl), by repeat (first | (with_reducible first | exact HB.out | apply b0_ | apply b1_ | apply b2_ | refine below_set ?_ GE232.out | refine below_set ?_ GE252.out) | exact HB.out)⟩

/-- THE ONE PURE STATEMENT of spiritlevellaw26_HashFew. -/
def spiritlevellaw26_HashFew.Pure : Prop := ∀ (a0_0 : Int) (l0_1 : List (S86)) (l0_2 : List (S67)) (l0_3 : List Int) (l0_4 : List Int) (l1 : List Int), ((Lit.int .i64 a0_0).wf = true) → (l0_1.length ≤ 9223372036854775807 ∧ l0_1.length * 16 ≤ 140737488351232 ∧ ∀ x0_ ∈ l0_1, ((Lit.int .i64 x0_.f0).wf = true) ∧ ((Lit.int .i64 x0_.f1).wf = true)) → (l0_2.length ≤ 9223372036854775807 ∧ l0_2.length * 16 ≤ 140737488351232 ∧ ∀ x0_ ∈ l0_2, ((Lit.int .i64 x0_.f0).wf = true) ∧ ((Lit.int .i64 x0_.f1).wf = true)) → (l0_3.length ≤ 9223372036854775807 ∧ l0_3.length * 8 ≤ 140737488351232 ∧ ∀ x0_ ∈ l0_3, (Lit.int .i64 x0_).wf = true) → (l0_4.length ≤ 9223372036854775807 ∧ l0_4.length * 8 ≤ 140737488351232 ∧ ∀ x0_ ∈ l0_4, (Lit.int .i64 x0_).wf = true) → (l1.length ≤ 9223372036854775807 ∧ l1.length * 8 ≤ 140737488351232 ∧ ∀ x0_ ∈ l1, (Lit.int .i64 x0_).wf = true) → ∃ k, spiritlevellaw26_HashFew.f k a0_0 l0_1 l0_2 l0_3 l0_4 l1 = some true
theorem spiritlevellaw26_HashFew.walk (P : spiritlevellaw26_HashFew.Pure) (a0_0 : Int) (A0_1 : Option Addr) (c0_1 : Nat) (l0_1 : List (S86)) (A0_2 : Option Addr) (c0_2 : Nat) (l0_2 : List (S67)) (A0_3 : Option Addr) (c0_3 : Nat) (l0_3 : List Int) (A0_4 : Option Addr) (c0_4 : Nat) (l0_4 : List Int) (A1 : Option Addr) (c1 : Nat) (l1 : List Int) (w : World) (hr0_1 : Kd.C k86 w A0_1 l0_1.length l0_1) (hc0_1 : l0_1.length ≤ c0_1) (hr0_2 : Kd.C k67 w A0_2 l0_2.length l0_2) (hc0_2 : l0_2.length ≤ c0_2) (hr0_3 : Kd.C (Kd.int .i64) w A0_3 l0_3.length l0_3) (hc0_3 : l0_3.length ≤ c0_3) (hr0_4 : Kd.C (Kd.int .i64) w A0_4 l0_4.length l0_4) (hc0_4 : l0_4.length ≤ c0_4) (hr1 : Kd.C (Kd.int .i64) w A1 l1.length l1) (hc1 : l1.length ≤ c1) (ok0_0 : (Lit.int .i64 a0_0).wf = true) (ok0_1 : l0_1.length ≤ 9223372036854775807 ∧ l0_1.length * 16 ≤ 140737488351232 ∧ ∀ x0_ ∈ l0_1, ((Lit.int .i64 x0_.f0).wf = true) ∧ ((Lit.int .i64 x0_.f1).wf = true)) (ok0_2 : l0_2.length ≤ 9223372036854775807 ∧ l0_2.length * 16 ≤ 140737488351232 ∧ ∀ x0_ ∈ l0_2, ((Lit.int .i64 x0_.f0).wf = true) ∧ ((Lit.int .i64 x0_.f1).wf = true)) (ok0_3 : l0_3.length ≤ 9223372036854775807 ∧ l0_3.length * 8 ≤ 140737488351232 ∧ ∀ x0_ ∈ l0_3, (Lit.int .i64 x0_).wf = true) (ok0_4 : l0_4.length ≤ 9223372036854775807 ∧ l0_4.length * 8 ≤ 140737488351232 ∧ ∀ x0_ ∈ l0_4, (Lit.int .i64 x0_).wf = true) (ok1 : l1.length ≤ 9223372036854775807 ∧ l1.length * 8 ≤ 140737488351232 ∧ ∀ x0_ ∈ l1, (Lit.int .i64 x0_).wf = true) :
  Calls Try.prog 6 #[.agg #[.int .i64 a0_0, .slice A0_1 l0_1.length c0_1, .slice A0_2 l0_2.length c0_2, .slice A0_3 l0_3.length c0_3, .slice A0_4 l0_4.length c0_4], .slice A1 l1.length c1] w fun e w' => e = .returned (.bool true) ∧ Below w.heap.size w w' := by
 obtain ⟨k, h⟩ := P a0_0 l0_1 l0_2 l0_3 l0_4 l1 ok0_0 ok0_1 ok0_2 ok0_3 ok0_4 ok1
 refine (spiritlevellaw26_HashFew.calls k a0_0 A0_1 c0_1 l0_1 A0_2 c0_2 l0_2 A0_3 c0_3 l0_3 A0_4 c0_4 l0_4 A1 c1 l1 true w hr0_1 hc0_1 hr0_2 hc0_2 hr0_3 hc0_3 hr0_4 hc0_4 hr1 hc1 rfl h).mono ?_
 rintro e w' ⟨rfl, hd⟩
 exact ⟨rfl, hd⟩

end Go.Proofs.Ytnbccfecmpocaaa.QHashFew
