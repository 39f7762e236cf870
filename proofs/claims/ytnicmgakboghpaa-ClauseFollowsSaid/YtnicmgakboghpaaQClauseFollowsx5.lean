-- Made by wip/myprint.sh (a patched print): a text of this session's own.
import Derived.Test.YtnicmgakboghpaaQClauseFollowsx0
import Derived.Test.YtnicmgakboghpaaQClauseFollowsx1
import Derived.Test.YtnicmgakboghpaaQClauseFollowsx3
import Derived.Test.YtnicmgakboghpaaQClauseFollowsx4
namespace Go.Proofs.Ytnicmgakboghpaa.QClauseFollows
open Go.RowKit Go.Proofs.YtnicmgakboghpaaW.PrintWords Go.Proofs.YtnicmgakboghpaaW.PrintLast Go.Proofs.YtnicmgakboghpaaW.PrintMore
attribute [local go_sem] max2_int min2_int max_two min_two max_three min_three max_four min_four   -- for this text's walks alone
set_option linter.unusedVariables false
set_option linter.unusedSimpArgs false

/-! ### spiritlevelref13_Has: function 20 -/
def spiritlevelref13_Has.l0 : Nat → List Int → Int → Int → Option (Bool)
  | 0, _, _, _ => none
  | k + 1, x0, x1, x5 => if x5 < (x0.length : Int) then (if 0 ≤ x5 then (if (rd x0 x5) = x1 then (some true) else (spiritlevelref13_Has.l0 k x0 x1 (wrap64 (x5 + 1)))) else (none)) else (some false)
def spiritlevelref13_Has.f (k : Nat) (l0 : List Int) (a1 : Int) : Option (Bool) := spiritlevelref13_Has.l0 k l0 a1 0
theorem spiritlevelref13_Has.mono_l : ∀ k, (∀ y0 y1 y2, LeO (spiritlevelref13_Has.l0 k y0 y1 y2) (spiritlevelref13_Has.l0 (k + 1) y0 y1 y2))
  | 0 => fun _ _ _ r h => by simp [spiritlevelref13_Has.l0] at h
  | k + 1 => by
    have ih0 := spiritlevelref13_Has.mono_l k
    · intro y0 y1 y2
      unfold spiritlevelref13_Has.l0
      repeat' first
      | (with_reducible exact ih0 _ _ _)
      | (with_reducible exact LeO.refl _)
      | (with_reducible exact LeO.none _)
      | (with_reducible refine LeO.ite ?_ ?_)
      | (with_reducible refine LeO.bind ?_ (fun _ => ?_))
      | exact ih0 _ _ _
      | exact LeO.none _
      | refine LeO.ite ?_ ?_
      | refine LeO.bind ?_ (fun _ => ?_)
theorem spiritlevelref13_Has.mono : ∀ a0 a1 k, LeO (spiritlevelref13_Has.f k a0 a1) (spiritlevelref13_Has.f (k + 1) a0 a1) := by
  intro a0 a1 k
  have ih0 := spiritlevelref13_Has.mono_l k
  unfold spiritlevelref13_Has.f
  repeat' first
      | (with_reducible exact ih0 _ _ _)
      | (with_reducible exact LeO.refl _)
      | (with_reducible exact LeO.none _)
      | (with_reducible refine LeO.ite ?_ ?_)
      | (with_reducible refine LeO.bind ?_ (fun _ => ?_))
      | exact ih0 _ _ _
      | exact LeO.none _
      | refine LeO.ite ?_ ?_
      | refine LeO.bind ?_ (fun _ => ?_)
set_option maxHeartbeats 8000000 in
set_option maxRecDepth 100000 in
theorem spiritlevelref13_Has.calls (k : Nat) (A0 : Option Addr) (c0 : Nat) (l0 : List Int) (a1 : Int) (r : Bool) (w : World) (hr0 : Kd.C (Kd.int .i64) w A0 l0.length l0) (hc0 : l0.length ≤ c0) (h : spiritlevelref13_Has.f k l0 a1 = some r) :
    Calls Try.prog 20 #[.slice A0 l0.length c0, .int .i64 a1] w fun e w' => e = .returned (.bool r) ∧ Drawn0 w w' := by
  have HR0 := Aside0.mk hr0
  have HC0 := Aside0.mk hc0
  clear hr0 hc0
  have H : (spiritlevelref13_Has.l0 k l0 a1 0) = some r := h
  clear h
  have H' := Aside0.mk H
  clear H
  go_enter Try.func20, Try.ntmps20
  go_wp2
  go_loopg [5] k (fun kq v5 w' => ∃ (x5_1 : Int), v5 = .int .i64 x5_1 ∧ Aside0 (spiritlevelref13_Has.l0 kq l0 a1 x5_1 = some r) ∧ Aside0 (kq ≤ k) ∧ Drawn0 w w')
  case atStart => exact ⟨(0), (by first | rfl | (simp; done) | (simp [*]; done)), H', ⟨Nat.le_refl _⟩, by repeat (first | exact Drawn0.refl _ | apply Drawn0.step)⟩
  case round =>
    clear H'
    try clear c2
    try clear p2
    obtain ⟨x5_1, rfl, HA, HK1, ⟨m1, rfl⟩⟩ := hrel
    cases gk with
    | zero => exact absurd HA.out (by simp [spiritlevelref13_Has.l0])
    | succ k1 =>
      have H := HA.out
      clear HA
      simp only [spiritlevelref13_Has.l0] at H
      by_cases c3 : x5_1 < (l0.length : Int)
      · rw [if_pos c3] at H
        have c3b0 : decide (x5_1 < (l0.length : Int)) = true := decide_eq_true c3
        clear c3
        by_cases c4 : 0 ≤ x5_1
        · rw [if_pos c4] at H
          have c4b0 : decide (0 ≤ x5_1) = true := decide_eq_true c4
          clear c4
          by_cases c5 : (rd l0 x5_1) = a1
          · rw [if_pos c5] at H
            have c5b0 : ((rd l0 x5_1) == a1) = true := beq_iff_eq.mpr c5
            have c5b1 : ((rd l0 x5_1) != a1) = false := bne_eq_false_iff_eq.mpr c5
            clear c5
            obtain rfl := Option.some.inj H
            have p184 : 0 ≤ (x5_1 : Int) := of_decide_eq_true (by first | (with_reducible assumption) | assumption)
            have q184 : x5_1 < (l0.length : Int) := of_decide_eq_true (by first | (with_reducible assumption) | assumption)
            obtain ⟨ad184, e184, hx184_0⟩ := Kd.at_int HR0.out x5_1 p184 q184
            cases e184
            replace p184 := eq_true p184
            replace q184 := eq_true q184
            go_wp2
            go_ret
            exact ⟨by first | rfl | (simp; done) | (simp [*]; done), by repeat (first | exact Drawn0.refl _ | apply Drawn0.step)⟩
          · rw [if_neg c5] at H
            have c5b0 : ((rd l0 x5_1) == a1) = false := beq_eq_false_iff_ne.mpr c5
            have c5b1 : ((rd l0 x5_1) != a1) = true := bne_iff_ne.mpr c5
            have H' := Aside0.mk H
            clear H
            have p184 : 0 ≤ (x5_1 : Int) := of_decide_eq_true (by first | (with_reducible assumption) | assumption)
            have q184 : x5_1 < (l0.length : Int) := of_decide_eq_true (by first | (with_reducible assumption) | assumption)
            obtain ⟨ad184, e184, hx184_0⟩ := Kd.at_int HR0.out x5_1 p184 q184
            cases e184
            replace p184 := eq_true p184
            replace q184 := eq_true q184
            go_wp2
            go_roundg k1
            case measure => have := HK1.out; omega
            case rel => exact ⟨(wrap64 (x5_1 + 1)), (by first | rfl | (simp; done) | (simp [*]; done)), H', ⟨by have := HK1.out; omega⟩, by repeat (first | exact Drawn0.refl _ | apply Drawn0.step)⟩
        · rw [if_neg c4] at H
          exact absurd H (by simp)
      · rw [if_neg c3] at H
        have c3b0 : decide (x5_1 < (l0.length : Int)) = false := decide_eq_false c3
        clear c3
        obtain rfl := Option.some.inj H
        go_wp2
        go_ret
        exact ⟨by first | rfl | (simp; done) | (simp [*]; done), by repeat (first | exact Drawn0.refl _ | apply Drawn0.step)⟩

/-! ### spiritlevellaw13_ClauseFollows: function 4 -/
mutual
def spiritlevellaw13_ClauseFollows.j0 : Nat → Int → List Int → List Int → Int → Bool → Bool → Option (Bool)
  | 0, _, _, _, _, _, _ => none
  | k + 1, x0, x1, x2, x3, x9, x43 => if x43 = true then (some x9) else ((clause_Resolve.f k x0 x1 x2 x3).bind fun bt188 => (if bt188.2.2 = 0 then (spiritlevellaw13_ClauseFollows.j1 k x0 x1 x2 x3 x9 bt188.1 bt188.2.2 bt188.2.1) else (spiritlevellaw13_ClauseFollows.j1 k x0 x1 x2 x3 x9 bt188.1 bt188.2.2 true)))
def spiritlevellaw13_ClauseFollows.j1 : Nat → Int → List Int → List Int → Int → Bool → List Int → Int → Bool → Option (Bool)
  | 0, _, _, _, _, _, _, _, _ => none
  | k + 1, x0, x1, x2, x3, x9, x10, x12, x58 => if x58 = true then (if x9 = true then (if x12 = 0 then (some ((x10.length : Int) == 0)) else (if x12 = 6 then (some ((x10.length : Int) == 0)) else (some false))) else (some false)) else (spiritlevellaw13_ClauseFollows.l0 k x0 x1 x2 x3 x9 x10 0)
def spiritlevellaw13_ClauseFollows.l0 : Nat → Int → List Int → List Int → Int → Bool → List Int → Int → Option (Bool)
  | 0, _, _, _, _, _, _, _ => none
  | k + 1, x0, x1, x2, x3, x9, x10, x13 => if 0 ≤ (IntKind.u64.wrap (x0)) then (if x13 < (shl .i64 1 (IntKind.u64.wrap (x0))) then ((spiritlevelref13_Values.f k x0 x13).bind fun t195 => ((clause_True.f k x1 t195).bind fun bt198 => ((clause_True.f k x2 t195).bind fun bt200 => ((clause_True.f k x10 t195).bind fun bt202 => (if bt198.2 = 0 then (if bt200.2 = 0 then (if bt202.2 = 0 then (if bt198.1 = true then (if bt200.1 = true then (if bt202.1 = true then (spiritlevellaw13_ClauseFollows.l0 k x0 x1 x2 x3 x9 x10 (wrap64 (x13 + 1))) else (some false)) else (spiritlevellaw13_ClauseFollows.l0 k x0 x1 x2 x3 x9 x10 (wrap64 (x13 + 1)))) else (spiritlevellaw13_ClauseFollows.l0 k x0 x1 x2 x3 x9 x10 (wrap64 (x13 + 1)))) else (some false)) else (some false)) else (some false)))))) else (if x9 = true then ((spiritlevelref13_Has.f k x10 (wrap64 (2 * x3))).bind fun t193 => (if t193 = true then (some false) else ((spiritlevelref13_Has.f k x10 (wrap64 ((wrap64 (2 * x3)) + 1))).bind fun t194 => (some (!t194))))) else (some false))) else (none)
end
def spiritlevellaw13_ClauseFollows.f (k : Nat) (a0 : Int) (l1 : List Int) (l2 : List Int) (a3 : Int) : Option (Bool) := (spiritlevellaw13_alive.f k).bind fun t185 => (if a0 < 0 then (spiritlevellaw13_ClauseFollows.j0 k a0 l1 l2 a3 t185 true) else (if a0 > 8 then (spiritlevellaw13_ClauseFollows.j0 k a0 l1 l2 a3 t185 true) else ((spiritlevelref13_Check.f k a0 l1).bind fun t186 => (if t186 = 0 then ((spiritlevelref13_Check.f k a0 l2).bind fun t187 => (if t187 = 0 then (spiritlevellaw13_ClauseFollows.j0 k a0 l1 l2 a3 t185 (!t185)) else (spiritlevellaw13_ClauseFollows.j0 k a0 l1 l2 a3 t185 true))) else (spiritlevellaw13_ClauseFollows.j0 k a0 l1 l2 a3 t185 true)))))
theorem spiritlevellaw13_ClauseFollows.mono_l : ∀ k, (∀ y0 y1 y2 y3 y4 y5, LeO (spiritlevellaw13_ClauseFollows.j0 k y0 y1 y2 y3 y4 y5) (spiritlevellaw13_ClauseFollows.j0 (k + 1) y0 y1 y2 y3 y4 y5)) ∧ (∀ y0 y1 y2 y3 y4 y5 y6 y7, LeO (spiritlevellaw13_ClauseFollows.j1 k y0 y1 y2 y3 y4 y5 y6 y7) (spiritlevellaw13_ClauseFollows.j1 (k + 1) y0 y1 y2 y3 y4 y5 y6 y7)) ∧ (∀ y0 y1 y2 y3 y4 y5 y6, LeO (spiritlevellaw13_ClauseFollows.l0 k y0 y1 y2 y3 y4 y5 y6) (spiritlevellaw13_ClauseFollows.l0 (k + 1) y0 y1 y2 y3 y4 y5 y6))
  | 0 => ⟨fun _ _ _ _ _ _ r h => by simp [spiritlevellaw13_ClauseFollows.j0] at h, fun _ _ _ _ _ _ _ _ r h => by simp [spiritlevellaw13_ClauseFollows.j1] at h, fun _ _ _ _ _ _ _ r h => by simp [spiritlevellaw13_ClauseFollows.l0] at h⟩
  | k + 1 => by
    obtain ⟨ih0, ih1, ih2⟩ := spiritlevellaw13_ClauseFollows.mono_l k
    refine ⟨?_, ?_, ?_⟩
    · intro y0 y1 y2 y3 y4 y5
      unfold spiritlevellaw13_ClauseFollows.j0
      repeat' first
      | (with_reducible exact ih0 _ _ _ _ _ _)
      | (with_reducible exact ih1 _ _ _ _ _ _ _ _)
      | (with_reducible exact ih2 _ _ _ _ _ _ _)
      | (with_reducible exact clause_Resolve.mono _ _ _ _ _)
      | (with_reducible exact clause_True.mono _ _ _)
      | (with_reducible exact spiritlevellaw13_alive.mono _)
      | (with_reducible exact spiritlevelref13_Check.mono _ _ _)
      | (with_reducible exact spiritlevelref13_Has.mono _ _ _)
      | (with_reducible exact spiritlevelref13_Values.mono _ _ _)
      | (with_reducible exact LeO.refl _)
      | (with_reducible exact LeO.none _)
      | (with_reducible refine LeO.ite ?_ ?_)
      | (with_reducible refine LeO.bind ?_ (fun _ => ?_))
      | exact ih0 _ _ _ _ _ _
      | exact ih1 _ _ _ _ _ _ _ _
      | exact ih2 _ _ _ _ _ _ _
      | exact clause_Resolve.mono _ _ _ _ _
      | exact clause_True.mono _ _ _
      | exact spiritlevellaw13_alive.mono _
      | exact spiritlevelref13_Check.mono _ _ _
      | exact spiritlevelref13_Has.mono _ _ _
      | exact spiritlevelref13_Values.mono _ _ _
      | exact LeO.none _
      | refine LeO.ite ?_ ?_
      | refine LeO.bind ?_ (fun _ => ?_)
    · intro y0 y1 y2 y3 y4 y5 y6 y7
      unfold spiritlevellaw13_ClauseFollows.j1
      repeat' first
      | (with_reducible exact ih0 _ _ _ _ _ _)
      | (with_reducible exact ih1 _ _ _ _ _ _ _ _)
      | (with_reducible exact ih2 _ _ _ _ _ _ _)
      | (with_reducible exact clause_Resolve.mono _ _ _ _ _)
      | (with_reducible exact clause_True.mono _ _ _)
      | (with_reducible exact spiritlevellaw13_alive.mono _)
      | (with_reducible exact spiritlevelref13_Check.mono _ _ _)
      | (with_reducible exact spiritlevelref13_Has.mono _ _ _)
      | (with_reducible exact spiritlevelref13_Values.mono _ _ _)
      | (with_reducible exact LeO.refl _)
      | (with_reducible exact LeO.none _)
      | (with_reducible refine LeO.ite ?_ ?_)
      | (with_reducible refine LeO.bind ?_ (fun _ => ?_))
      | exact ih0 _ _ _ _ _ _
      | exact ih1 _ _ _ _ _ _ _ _
      | exact ih2 _ _ _ _ _ _ _
      | exact clause_Resolve.mono _ _ _ _ _
      | exact clause_True.mono _ _ _
      | exact spiritlevellaw13_alive.mono _
      | exact spiritlevelref13_Check.mono _ _ _
      | exact spiritlevelref13_Has.mono _ _ _
      | exact spiritlevelref13_Values.mono _ _ _
      | exact LeO.none _
      | refine LeO.ite ?_ ?_
      | refine LeO.bind ?_ (fun _ => ?_)
    · intro y0 y1 y2 y3 y4 y5 y6
      unfold spiritlevellaw13_ClauseFollows.l0
      repeat' first
      | (with_reducible exact ih0 _ _ _ _ _ _)
      | (with_reducible exact ih1 _ _ _ _ _ _ _ _)
      | (with_reducible exact ih2 _ _ _ _ _ _ _)
      | (with_reducible exact clause_Resolve.mono _ _ _ _ _)
      | (with_reducible exact clause_True.mono _ _ _)
      | (with_reducible exact spiritlevellaw13_alive.mono _)
      | (with_reducible exact spiritlevelref13_Check.mono _ _ _)
      | (with_reducible exact spiritlevelref13_Has.mono _ _ _)
      | (with_reducible exact spiritlevelref13_Values.mono _ _ _)
      | (with_reducible exact LeO.refl _)
      | (with_reducible exact LeO.none _)
      | (with_reducible refine LeO.ite ?_ ?_)
      | (with_reducible refine LeO.bind ?_ (fun _ => ?_))
      | exact ih0 _ _ _ _ _ _
      | exact ih1 _ _ _ _ _ _ _ _
      | exact ih2 _ _ _ _ _ _ _
      | exact clause_Resolve.mono _ _ _ _ _
      | exact clause_True.mono _ _ _
      | exact spiritlevellaw13_alive.mono _
      | exact spiritlevelref13_Check.mono _ _ _
      | exact spiritlevelref13_Has.mono _ _ _
      | exact spiritlevelref13_Values.mono _ _ _
      | exact LeO.none _
      | refine LeO.ite ?_ ?_
      | refine LeO.bind ?_ (fun _ => ?_)
theorem spiritlevellaw13_ClauseFollows.mono : ∀ a0 a1 a2 a3 k, LeO (spiritlevellaw13_ClauseFollows.f k a0 a1 a2 a3) (spiritlevellaw13_ClauseFollows.f (k + 1) a0 a1 a2 a3) := by
  intro a0 a1 a2 a3 k
  obtain ⟨ih0, ih1, ih2⟩ := spiritlevellaw13_ClauseFollows.mono_l k
  unfold spiritlevellaw13_ClauseFollows.f
  repeat' first
      | (with_reducible exact ih0 _ _ _ _ _ _)
      | (with_reducible exact ih1 _ _ _ _ _ _ _ _)
      | (with_reducible exact ih2 _ _ _ _ _ _ _)
      | (with_reducible exact clause_Resolve.mono _ _ _ _ _)
      | (with_reducible exact clause_True.mono _ _ _)
      | (with_reducible exact spiritlevellaw13_alive.mono _)
      | (with_reducible exact spiritlevelref13_Check.mono _ _ _)
      | (with_reducible exact spiritlevelref13_Has.mono _ _ _)
      | (with_reducible exact spiritlevelref13_Values.mono _ _ _)
      | (with_reducible exact LeO.refl _)
      | (with_reducible exact LeO.none _)
      | (with_reducible refine LeO.ite ?_ ?_)
      | (with_reducible refine LeO.bind ?_ (fun _ => ?_))
      | exact ih0 _ _ _ _ _ _
      | exact ih1 _ _ _ _ _ _ _ _
      | exact ih2 _ _ _ _ _ _ _
      | exact clause_Resolve.mono _ _ _ _ _
      | exact clause_True.mono _ _ _
      | exact spiritlevellaw13_alive.mono _
      | exact spiritlevelref13_Check.mono _ _ _
      | exact spiritlevelref13_Has.mono _ _ _
      | exact spiritlevelref13_Values.mono _ _ _
      | exact LeO.none _
      | refine LeO.ite ?_ ?_
      | refine LeO.bind ?_ (fun _ => ?_)
set_option maxHeartbeats 8000000 in
set_option maxRecDepth 100000 in
theorem spiritlevellaw13_ClauseFollows.calls (k : Nat) (a0 : Int) (A1 : Option Addr) (c1 : Nat) (l1 : List Int) (A2 : Option Addr) (c2 : Nat) (l2 : List Int) (a3 : Int) (r : Bool) (w : World) (hr1 : Kd.C (Kd.int .i64) w A1 l1.length l1) (hc1 : l1.length ≤ c1) (hr2 : Kd.C (Kd.int .i64) w A2 l2.length l2) (hc2 : l2.length ≤ c2) (ht_ : r = true) (h : spiritlevellaw13_ClauseFollows.f k a0 l1 l2 a3 = some r) :
    Calls Try.prog 4 #[.int .i64 a0, .slice A1 l1.length c1, .slice A2 l2.length c2, .int .i64 a3] w fun e w' => e = .returned (.bool r) ∧ Below w.heap.size w w' := by
  have HT_ := Aside0.mk ht_
  clear ht_
  have HR1 := Aside0.mk hr1
  have HC1 := Aside0.mk hc1
  clear hr1 hc1
  have HR2 := Aside0.mk hr2
  have HC2 := Aside0.mk hc2
  clear hr2 hc2
  have HB := Aside0.mk (Below.refl w.heap.size w)
  have H : ((spiritlevellaw13_alive.f k).bind fun t185 => (if a0 < 0 then (spiritlevellaw13_ClauseFollows.j0 k a0 l1 l2 a3 t185 true) else (if a0 > 8 then (spiritlevellaw13_ClauseFollows.j0 k a0 l1 l2 a3 t185 true) else ((spiritlevelref13_Check.f k a0 l1).bind fun t186 => (if t186 = 0 then ((spiritlevelref13_Check.f k a0 l2).bind fun t187 => (if t187 = 0 then (spiritlevellaw13_ClauseFollows.j0 k a0 l1 l2 a3 t185 (!t185)) else (spiritlevellaw13_ClauseFollows.j0 k a0 l1 l2 a3 t185 true))) else (spiritlevellaw13_ClauseFollows.j0 k a0 l1 l2 a3 t185 true)))))) = some r := h
  clear h
  replace H := Option.bind_eq_some_iff.mp H
  obtain ⟨t185, A50, H⟩ := H
  replace H : (if a0 < 0 then (spiritlevellaw13_ClauseFollows.j0 k a0 l1 l2 a3 t185 true) else (if a0 > 8 then (spiritlevellaw13_ClauseFollows.j0 k a0 l1 l2 a3 t185 true) else ((spiritlevelref13_Check.f k a0 l1).bind fun t186 => (if t186 = 0 then ((spiritlevelref13_Check.f k a0 l2).bind fun t187 => (if t187 = 0 then (spiritlevellaw13_ClauseFollows.j0 k a0 l1 l2 a3 t185 (!t185)) else (spiritlevellaw13_ClauseFollows.j0 k a0 l1 l2 a3 t185 true))) else (spiritlevellaw13_ClauseFollows.j0 k a0 l1 l2 a3 t185 true))))) = some r := H
  have A5 := Aside0.mk A50
  clear A50
  have HC6 := Aside0.mk H
  clear H
  go_enter Try.func4, Try.ntmps4
  go_upto_region 2 with (first | ((with_reducible refine gate_callee (f := 17) rfl ?_); refine goesL_ (some 21) rfl rfl Try.func17 (by kernel_rfl) rfl #[] rfl (by (try simp only [List.map_toArray, List.map_cons, List.map_nil]); first | done | rfl | (simp only [List.length_drop, List.length_take]; rfl)) ?_; (with_reducible refine (spiritlevellaw13_alive.calls k  t185 _ A5.out).mono ?_); rintro e w7 ⟨rfl, hb⟩; refine ⟨_, rfl, ?_⟩; have n0_ := Aside0.mk (below_step (by repeat (first | (with_reducible first | exact HB.out | apply below_alloc | apply pw_below_drewN | apply below_drew1) | exact HB.out)) hb); clear HB; have HB := n0_; clear n0_; (try clear hb); (try clear hb2); (try clear hk); (try clear hi)))
  (try simp only [Act.put, List.setIfInBounds_toArray, List.set_cons_zero, List.set_cons_succ])
  go_cut [43] (fun v43 wc => ∃ (kq : Nat) (x43_5 : Bool), v43 = .bool x43_5 ∧ Aside0 (spiritlevellaw13_ClauseFollows.j0 kq a0 l1 l2 a3 t185 x43_5 = some r) ∧ Aside0 (kq ≤ k) ∧ Aside0 (Below w.heap.size w wc))
  case first =>
    have H := HC6.out
    clear HC6
    by_cases c8 : a0 < 0
    · rw [if_pos c8] at H
      have c8b0 : decide (a0 < 0) = true := decide_eq_true c8
      clear c8
      (first | rw [c8b0] | (simp only [i64_w, i32_w]; rw [c8b0]) | skip)
      have H' := Aside0.mk H
      clear H
      go_wp2
      go_meet
      case rel => exact ⟨_, (true), (by first | rfl | (simp; done) | (simp [*]; done)), H', ⟨by first | omega | exact Nat.le_refl _⟩, ⟨by repeat (first | (with_reducible first | exact HB.out | apply below_alloc | apply pw_below_drewN | apply below_drew1) | exact HB.out)⟩⟩
    · rw [if_neg c8] at H
      have c8b0 : decide (a0 < 0) = false := decide_eq_false c8
      clear c8
      (first | rw [c8b0] | (simp only [i64_w, i32_w]; rw [c8b0]) | skip)
      by_cases c9 : a0 > 8
      · rw [if_pos c9] at H
        have c9b0 : decide (8 < a0) = true := decide_eq_true c9
        clear c9
        have H' := Aside0.mk H
        clear H
        go_wp2
        go_meet
        case rel => exact ⟨_, (true), (by first | rfl | (simp; done) | (simp [*]; done)), H', ⟨by first | omega | exact Nat.le_refl _⟩, ⟨by repeat (first | (with_reducible first | exact HB.out | apply below_alloc | apply pw_below_drewN | apply below_drew1) | exact HB.out)⟩⟩
      · rw [if_neg c9] at H
        have c9b0 : decide (8 < a0) = false := decide_eq_false c9
        clear c9
        replace H := Option.bind_eq_some_iff.mp H
        obtain ⟨t186, A100, H⟩ := H
        replace H : (if t186 = 0 then ((spiritlevelref13_Check.f k a0 l2).bind fun t187 => (if t187 = 0 then (spiritlevellaw13_ClauseFollows.j0 k a0 l1 l2 a3 t185 (!t185)) else (spiritlevellaw13_ClauseFollows.j0 k a0 l1 l2 a3 t185 true))) else (spiritlevellaw13_ClauseFollows.j0 k a0 l1 l2 a3 t185 true)) = some r := H
        have A10 := Aside0.mk A100
        clear A100
        by_cases c11 : t186 = 0
        · rw [if_pos c11] at H
          have c11b0 : (t186 == 0) = true := beq_iff_eq.mpr c11
          have c11b1 : (t186 != 0) = false := bne_eq_false_iff_eq.mpr c11
          clear c11
          replace H := Option.bind_eq_some_iff.mp H
          obtain ⟨t187, A120, H⟩ := H
          replace H : (if t187 = 0 then (spiritlevellaw13_ClauseFollows.j0 k a0 l1 l2 a3 t185 (!t185)) else (spiritlevellaw13_ClauseFollows.j0 k a0 l1 l2 a3 t185 true)) = some r := H
          have A12 := Aside0.mk A120
          clear A120
          by_cases c13 : t187 = 0
          · rw [if_pos c13] at H
            have c13b0 : (t187 == 0) = true := beq_iff_eq.mpr c13
            have c13b1 : (t187 != 0) = false := bne_eq_false_iff_eq.mpr c13
            clear c13
            have H' := Aside0.mk H
            clear H
            go_wp2_with (first | (go_at_call 16; (with_reducible refine (spiritlevelref13_Check.calls k a0 _ _ l1 t186 _ ?side1 ?side2 A10.out).mono ?_); (case side1 => repeat (first | exact (Kd.C_below HR1.out HB.out) | (with_reducible refine Kd.C_alloc ?_ _) | (with_reducible refine Kd.C_drewN ?_ _) | (with_reducible refine Kd.C_drew ?_))); (case side2 => exact HC1.out); rintro e w14 ⟨rfl, hb⟩; have n0_ := Aside0.mk (below_step (by repeat (first | (with_reducible first | exact HB.out | apply below_alloc | apply pw_below_drewN | apply below_drew1) | exact HB.out)) hb); clear HB; have HB := n0_; clear n0_; (try clear hb); (try clear hb2); (try clear hk); (try clear hi)) | (go_at_call 16; (with_reducible refine (spiritlevelref13_Check.calls k a0 _ _ l2 t187 _ ?side1 ?side2 A12.out).mono ?_); (case side1 => repeat (first | exact (Kd.C_below HR2.out HB.out) | (with_reducible refine Kd.C_alloc ?_ _) | (with_reducible refine Kd.C_drewN ?_ _) | (with_reducible refine Kd.C_drew ?_))); (case side2 => exact HC2.out); rintro e w15 ⟨rfl, hb⟩; have n0_ := Aside0.mk (below_step (by repeat (first | (with_reducible first | exact HB.out | apply below_alloc | apply pw_below_drewN | apply below_drew1) | exact HB.out)) hb); clear HB; have HB := n0_; clear n0_; (try clear hb); (try clear hb2); (try clear hk); (try clear hi)))
            go_meet
            case rel => exact ⟨_, (!t185), (by first | rfl | (simp; done) | (simp [*]; done)), H', ⟨by first | omega | exact Nat.le_refl _⟩, ⟨by repeat (first | (with_reducible first | exact HB.out | apply below_alloc | apply pw_below_drewN | apply below_drew1) | exact HB.out)⟩⟩
          · rw [if_neg c13] at H
            have c13b0 : (t187 == 0) = false := beq_eq_false_iff_ne.mpr c13
            have c13b1 : (t187 != 0) = true := bne_iff_ne.mpr c13
            have H' := Aside0.mk H
            clear H
            go_wp2_with (first | (go_at_call 16; (with_reducible refine (spiritlevelref13_Check.calls k a0 _ _ l1 t186 _ ?side1 ?side2 A10.out).mono ?_); (case side1 => repeat (first | exact (Kd.C_below HR1.out HB.out) | (with_reducible refine Kd.C_alloc ?_ _) | (with_reducible refine Kd.C_drewN ?_ _) | (with_reducible refine Kd.C_drew ?_))); (case side2 => exact HC1.out); rintro e w16 ⟨rfl, hb⟩; have n0_ := Aside0.mk (below_step (by repeat (first | (with_reducible first | exact HB.out | apply below_alloc | apply pw_below_drewN | apply below_drew1) | exact HB.out)) hb); clear HB; have HB := n0_; clear n0_; (try clear hb); (try clear hb2); (try clear hk); (try clear hi)) | (go_at_call 16; (with_reducible refine (spiritlevelref13_Check.calls k a0 _ _ l2 t187 _ ?side1 ?side2 A12.out).mono ?_); (case side1 => repeat (first | exact (Kd.C_below HR2.out HB.out) | (with_reducible refine Kd.C_alloc ?_ _) | (with_reducible refine Kd.C_drewN ?_ _) | (with_reducible refine Kd.C_drew ?_))); (case side2 => exact HC2.out); rintro e w17 ⟨rfl, hb⟩; have n0_ := Aside0.mk (below_step (by repeat (first | (with_reducible first | exact HB.out | apply below_alloc | apply pw_below_drewN | apply below_drew1) | exact HB.out)) hb); clear HB; have HB := n0_; clear n0_; (try clear hb); (try clear hb2); (try clear hk); (try clear hi)))
            go_meet
            case rel => exact ⟨_, (true), (by first | rfl | (simp; done) | (simp [*]; done)), H', ⟨by first | omega | exact Nat.le_refl _⟩, ⟨by repeat (first | (with_reducible first | exact HB.out | apply below_alloc | apply pw_below_drewN | apply below_drew1) | exact HB.out)⟩⟩
        · rw [if_neg c11] at H
          have c11b0 : (t186 == 0) = false := beq_eq_false_iff_ne.mpr c11
          have c11b1 : (t186 != 0) = true := bne_iff_ne.mpr c11
          have H' := Aside0.mk H
          clear H
          go_wp2_with (first | (go_at_call 16; (with_reducible refine (spiritlevelref13_Check.calls k a0 _ _ l1 t186 _ ?side1 ?side2 A10.out).mono ?_); (case side1 => repeat (first | exact (Kd.C_below HR1.out HB.out) | (with_reducible refine Kd.C_alloc ?_ _) | (with_reducible refine Kd.C_drewN ?_ _) | (with_reducible refine Kd.C_drew ?_))); (case side2 => exact HC1.out); rintro e w18 ⟨rfl, hb⟩; have n0_ := Aside0.mk (below_step (by repeat (first | (with_reducible first | exact HB.out | apply below_alloc | apply pw_below_drewN | apply below_drew1) | exact HB.out)) hb); clear HB; have HB := n0_; clear n0_; (try clear hb); (try clear hb2); (try clear hk); (try clear hi)))
          go_meet
          case rel => exact ⟨_, (true), (by first | rfl | (simp; done) | (simp [*]; done)), H', ⟨by first | omega | exact Nat.le_refl _⟩, ⟨by repeat (first | (with_reducible first | exact HB.out | apply below_alloc | apply pw_below_drewN | apply below_drew1) | exact HB.out)⟩⟩
  case rest =>
    clear HC6
    try clear c1
    try clear c2
    try clear p2
    try clear c4
    try clear c8
    try clear c8b0
    try clear c9
    try clear c9b0
    try clear c11
    try clear c11b0
    try clear c11b1
    try clear c13
    try clear c13b0
    try clear c13b1
    try clear c17
    obtain ⟨kq, x43_5, rfl, HA, HJ5, HB⟩ := hcut
    cases kq with
    | zero => exact absurd HA.out (by simp [spiritlevellaw13_ClauseFollows.j0])
    | succ kj5 =>
      have H := HA.out
      clear HA
      simp only [spiritlevellaw13_ClauseFollows.j0] at H
      by_cases c19 : x43_5 = true
      · subst c19
        have H1 : (some t185) = some r := by rw [if_pos rfl] at H; exact H
        clear H
        have H := H1
        clear H1
        obtain rfl := Option.some.inj H
        go_wp2
        go_ret
        exact ⟨by first | rfl | (simp [errW_none, errW_some] <;> rfl) | (simp [*, errW_none, errW_some] <;> rfl), by repeat (first | (with_reducible first | exact HB.out | apply below_alloc | apply pw_below_drewN | apply below_drew1) | exact HB.out)⟩
      · replace c19 := Bool.eq_false_iff.mpr c19
        subst c19
        have H1 : ((clause_Resolve.f kj5 a0 l1 l2 a3).bind fun bt188 => (if bt188.2.2 = 0 then (spiritlevellaw13_ClauseFollows.j1 kj5 a0 l1 l2 a3 t185 bt188.1 bt188.2.2 bt188.2.1) else (spiritlevellaw13_ClauseFollows.j1 kj5 a0 l1 l2 a3 t185 bt188.1 bt188.2.2 true))) = some r := by rw [if_neg (show ¬ (false = true) by decide)] at H; exact H
        clear H
        have H := H1
        clear H1
        replace H := Option.bind_eq_some_iff.mp H
        obtain ⟨⟨t188, t189, t190⟩, A200, H⟩ := H
        replace H : (if t190 = 0 then (spiritlevellaw13_ClauseFollows.j1 kj5 a0 l1 l2 a3 t185 t188 t190 t189) else (spiritlevellaw13_ClauseFollows.j1 kj5 a0 l1 l2 a3 t185 t188 t190 true)) = some r := H
        have A20 := Aside0.mk A200
        clear A200
        have HC21 := Aside0.mk H
        clear H
        go_upto_region 5 with (first | ((with_reducible refine gate_callee (f := 18) rfl ?_); refine goesL_ (some 50) rfl rfl Try.func18 (by kernel_rfl) rfl #[.int .i64 a0, .slice A1 l1.length c1, .slice A2 l2.length c2, .int .i64 a3] rfl (by (try simp only [List.map_toArray, List.map_cons, List.map_nil]); first | done | rfl | (simp only [List.length_drop, List.length_take]; rfl)) ?_; (with_reducible refine (clause_Resolve.calls kj5 a0 _ _ l1 _ _ l2 a3 t188 t189 t190 _ ?side1 ?side2 ?side3 ?side4 A20.out).mono ?_); (case side1 => repeat (first | exact (Kd.C_below HR1.out HB.out) | (with_reducible refine Kd.C_alloc ?_ _) | (with_reducible refine Kd.C_drewN ?_ _) | (with_reducible refine Kd.C_drew ?_))); (case side2 => exact HC1.out); (case side3 => repeat (first | exact (Kd.C_below HR2.out HB.out) | (with_reducible refine Kd.C_alloc ?_ _) | (with_reducible refine Kd.C_drewN ?_ _) | (with_reducible refine Kd.C_drew ?_))); (case side4 => exact HC2.out); rintro e w22 ⟨v191, rfl, ho0, hb⟩; refine ⟨_, rfl, ?_⟩; have n0_ := Aside0.mk (Kd.R_lower ho0 (below_size (by repeat (first | (with_reducible first | exact HB.out | apply below_alloc | apply pw_below_drewN | apply below_drew1) | exact HB.out)))); have n1_ := Aside0.mk (below_step (by repeat (first | (with_reducible first | exact HB.out | apply below_alloc | apply pw_below_drewN | apply below_drew1) | exact HB.out)) hb); clear HB; have HO192 := n0_; have HB := n1_; clear n0_ n1_; (try clear hb); (try clear hb2); (try clear hk); (try clear hi); (try clear ho0)))
        (try simp only [Act.put, List.setIfInBounds_toArray, List.set_cons_zero, List.set_cons_succ])
        go_cut [58] (fun v58 wc => ∃ (kq : Nat) (x58_20 : Bool), v58 = .bool x58_20 ∧ Aside0 (spiritlevellaw13_ClauseFollows.j1 kq a0 l1 l2 a3 t185 t188 t190 x58_20 = some r) ∧ Aside0 (kq ≤ kj5) ∧ Aside0 (Kd.R (Kd.int .i64) 3 wc w.heap.size (fun _ => True) v191 t188) ∧ Aside0 (Below w.heap.size w wc))
        case first =>
          have H := HC21.out
          clear HC21
          by_cases c23 : t190 = 0
          · rw [if_pos c23] at H
            have c23b0 : (t190 == 0) = true := beq_iff_eq.mpr c23
            have c23b1 : (t190 != 0) = false := bne_eq_false_iff_eq.mpr c23
            clear c23
            (first | rw [c23b0] | (simp only [i64_w, i32_w]; rw [c23b0]) | skip)
            have H' := Aside0.mk H
            clear H
            go_wp2
            go_meet
            case rel => exact ⟨_, (t189), (by first | rfl | (simp; done) | (simp [*]; done)), H', ⟨by have := HJ5.out; first | omega | exact Nat.le_refl _⟩, ⟨by (with_reducible repeat (first | apply Kd.R_alloc | apply Kd.R_drewN | apply Kd.R_drew)); exact HO192.out⟩, ⟨by repeat (first | (with_reducible first | exact HB.out | apply below_alloc | apply pw_below_drewN | apply below_drew1) | exact HB.out)⟩⟩
          · rw [if_neg c23] at H
            have c23b0 : (t190 == 0) = false := beq_eq_false_iff_ne.mpr c23
            have c23b1 : (t190 != 0) = true := bne_iff_ne.mpr c23
            (first | rw [c23b0] | (simp only [i64_w, i32_w]; rw [c23b0]) | skip)
            have H' := Aside0.mk H
            clear H
            go_wp2
            go_meet
            case rel => exact ⟨_, (true), (by first | rfl | (simp; done) | (simp [*]; done)), H', ⟨by have := HJ5.out; first | omega | exact Nat.le_refl _⟩, ⟨by (with_reducible repeat (first | apply Kd.R_alloc | apply Kd.R_drewN | apply Kd.R_drew)); exact HO192.out⟩, ⟨by repeat (first | (with_reducible first | exact HB.out | apply below_alloc | apply pw_below_drewN | apply below_drew1) | exact HB.out)⟩⟩
        case rest =>
          clear HC21
          try clear c1
          try clear c2
          try clear p2
          try clear c4
          try clear c8
          try clear c8b0
          try clear c9
          try clear c9b0
          try clear c11
          try clear c11b0
          try clear c11b1
          try clear c13
          try clear c13b0
          try clear c13b1
          try clear c17
          try clear c18
          try clear c19
          try clear c23
          try clear c23b0
          try clear c23b1
          try clear p2
          obtain ⟨kq, x58_20, rfl, HA, HJ20, HO_10, HB⟩ := hcut
          cases kq with
          | zero => exact absurd HA.out (by simp [spiritlevellaw13_ClauseFollows.j1])
          | succ kj20 =>
            have H := HA.out
            clear HA
            simp only [spiritlevellaw13_ClauseFollows.j1] at H
            by_cases c24 : x58_20 = true
            · subst c24
              have H1 : (if t185 = true then (if t190 = 0 then (some ((t188.length : Int) == 0)) else (if t190 = 6 then (some ((t188.length : Int) == 0)) else (some false))) else (some false)) = some r := by rw [if_pos rfl] at H; exact H
              clear H
              have H := H1
              clear H1
              by_cases c25 : t185 = true
              · subst c25
                have H1 : (if t190 = 0 then (some ((t188.length : Int) == 0)) else (if t190 = 6 then (some ((t188.length : Int) == 0)) else (some false))) = some r := by rw [if_pos rfl] at H; exact H
                clear H
                have H := H1
                clear H1
                by_cases c26 : t190 = 0
                · rw [if_pos c26] at H
                  have c26b0 : (t190 == 0) = true := beq_iff_eq.mpr c26
                  have c26b1 : (t190 != 0) = false := bne_eq_false_iff_eq.mpr c26
                  clear c26
                  obtain rfl := Option.some.inj H
                  obtain ⟨Ao27, co27, eo27⟩ := Kd.R_slice HO_10.out
                  subst eo27
                  go_wp2
                  go_ret
                  exact ⟨by first | rfl | (simp [errW_none, errW_some] <;> rfl) | (simp [*, errW_none, errW_some] <;> rfl), by repeat (first | (with_reducible first | exact HB.out | apply below_alloc | apply pw_below_drewN | apply below_drew1) | exact HB.out)⟩
                · rw [if_neg c26] at H
                  have c26b0 : (t190 == 0) = false := beq_eq_false_iff_ne.mpr c26
                  have c26b1 : (t190 != 0) = true := bne_iff_ne.mpr c26
                  by_cases c28 : t190 = 6
                  · rw [if_pos c28] at H
                    have c28b0 : (t190 == 6) = true := beq_iff_eq.mpr c28
                    have c28b1 : (t190 != 6) = false := bne_eq_false_iff_eq.mpr c28
                    clear c28
                    obtain rfl := Option.some.inj H
                    obtain ⟨Ao29, co29, eo29⟩ := Kd.R_slice HO_10.out
                    subst eo29
                    go_wp2
                    go_ret
                    exact ⟨by first | rfl | (simp [errW_none, errW_some] <;> rfl) | (simp [*, errW_none, errW_some] <;> rfl), by repeat (first | (with_reducible first | exact HB.out | apply below_alloc | apply pw_below_drewN | apply below_drew1) | exact HB.out)⟩
                  · rw [if_neg c28] at H
                    have c28b0 : (t190 == 6) = false := beq_eq_false_iff_ne.mpr c28
                    have c28b1 : (t190 != 6) = true := bne_iff_ne.mpr c28
                    exact absurd ((Option.some.inj H).trans HT_.out) (by decide)
              · replace c25 := Bool.eq_false_iff.mpr c25
                subst c25
                have H1 : (some false) = some r := by rw [if_neg (show ¬ (false = true) by decide)] at H; exact H
                clear H
                have H := H1
                clear H1
                exact absurd ((Option.some.inj H).trans HT_.out) (by decide)
            · replace c24 := Bool.eq_false_iff.mpr c24
              subst c24
              have H1 : (spiritlevellaw13_ClauseFollows.l0 kj20 a0 l1 l2 a3 t185 t188 0) = some r := by rw [if_neg (show ¬ (false = true) by decide)] at H; exact H
              clear H
              have H := H1
              clear H1
              have H' := Aside0.mk H
              clear H
              go_wp2
              go_loopg [13] kj20 (fun kq v13 w' => ∃ (x13_3 : Int), v13 = .int .i64 x13_3 ∧ Aside0 (spiritlevellaw13_ClauseFollows.l0 kq a0 l1 l2 a3 t185 t188 x13_3 = some r) ∧ Aside0 (kq ≤ kj20) ∧ Aside0 (Kd.R (Kd.int .i64) 3 w' w.heap.size (fun _ => True) v191 t188) ∧ Aside0 (Below w.heap.size w w'))
              case atStart => exact ⟨(0), (by first | rfl | (simp; done) | (simp [*]; done)), H', ⟨Nat.le_refl _⟩, ⟨by (with_reducible repeat (first | apply Kd.R_alloc | apply Kd.R_drewN | apply Kd.R_drew)); exact HO_10.out⟩, ⟨by repeat (first | (with_reducible first | exact HB.out | apply below_alloc | apply pw_below_drewN | apply below_drew1) | exact HB.out)⟩⟩
              case round =>
                clear H'
                try clear c1
                try clear c2
                try clear p2
                try clear c4
                try clear c8
                try clear c8b0
                try clear c9
                try clear c9b0
                try clear c11
                try clear c11b0
                try clear c11b1
                try clear c13
                try clear c13b0
                try clear c13b1
                try clear c17
                try clear c18
                try clear c19
                try clear c23
                try clear c23b0
                try clear c23b1
                try clear c24
                try clear c25
                try clear c26
                try clear c26b0
                try clear c26b1
                try clear c28
                try clear c28b0
                try clear c28b1
                try clear p2
                obtain ⟨x13_3, rfl, HA, HK3, HO_10, HB⟩ := hrel
                cases gk with
                | zero => exact absurd HA.out (by simp [spiritlevellaw13_ClauseFollows.l0])
                | succ k3 =>
                  have H := HA.out
                  clear HA
                  simp only [spiritlevellaw13_ClauseFollows.l0] at H
                  obtain ⟨ji30, hji30⟩ : ∃ j_ : Int, (IntKind.u64.wrap (a0)) = j_ := ⟨_, rfl⟩
                  replace H : (if 0 ≤ (ji30) then (if x13_3 < (shl .i64 1 (ji30)) then ((spiritlevelref13_Values.f k3 a0 x13_3).bind fun t195 => ((clause_True.f k3 l1 t195).bind fun bt198 => ((clause_True.f k3 l2 t195).bind fun bt200 => ((clause_True.f k3 t188 t195).bind fun bt202 => (if bt198.2 = 0 then (if bt200.2 = 0 then (if bt202.2 = 0 then (if bt198.1 = true then (if bt200.1 = true then (if bt202.1 = true then (spiritlevellaw13_ClauseFollows.l0 k3 a0 l1 l2 a3 t185 t188 (wrap64 (x13_3 + 1))) else (some false)) else (spiritlevellaw13_ClauseFollows.l0 k3 a0 l1 l2 a3 t185 t188 (wrap64 (x13_3 + 1)))) else (spiritlevellaw13_ClauseFollows.l0 k3 a0 l1 l2 a3 t185 t188 (wrap64 (x13_3 + 1)))) else (some false)) else (some false)) else (some false)))))) else (if t185 = true then ((spiritlevelref13_Has.f k3 t188 (wrap64 (2 * a3))).bind fun t193 => (if t193 = true then (some false) else ((spiritlevelref13_Has.f k3 t188 (wrap64 ((wrap64 (2 * a3)) + 1))).bind fun t194 => (some (!t194))))) else (some false))) else (none)) = some r := by first | (rw [hji30] at H; exact H) | (simp only [hji30] at H ⊢; exact H)
                  by_cases c31 : 0 ≤ (ji30)
                  · rw [if_pos c31] at H
                    have c31b0 := eq_true c31
                    have c31b1 : decide (0 ≤ (ji30)) = true := decide_eq_true c31
                    clear c31
                    obtain ⟨ji32, hji32⟩ : ∃ j_ : Int, (shl .i64 1 (ji30)) = j_ := ⟨_, rfl⟩
                    replace H : (if x13_3 < (ji32) then ((spiritlevelref13_Values.f k3 a0 x13_3).bind fun t195 => ((clause_True.f k3 l1 t195).bind fun bt198 => ((clause_True.f k3 l2 t195).bind fun bt200 => ((clause_True.f k3 t188 t195).bind fun bt202 => (if bt198.2 = 0 then (if bt200.2 = 0 then (if bt202.2 = 0 then (if bt198.1 = true then (if bt200.1 = true then (if bt202.1 = true then (spiritlevellaw13_ClauseFollows.l0 k3 a0 l1 l2 a3 t185 t188 (wrap64 (x13_3 + 1))) else (some false)) else (spiritlevellaw13_ClauseFollows.l0 k3 a0 l1 l2 a3 t185 t188 (wrap64 (x13_3 + 1)))) else (spiritlevellaw13_ClauseFollows.l0 k3 a0 l1 l2 a3 t185 t188 (wrap64 (x13_3 + 1)))) else (some false)) else (some false)) else (some false)))))) else (if t185 = true then ((spiritlevelref13_Has.f k3 t188 (wrap64 (2 * a3))).bind fun t193 => (if t193 = true then (some false) else ((spiritlevelref13_Has.f k3 t188 (wrap64 ((wrap64 (2 * a3)) + 1))).bind fun t194 => (some (!t194))))) else (some false))) = some r := by first | (rw [hji32] at H; exact H) | (simp only [hji32] at H ⊢; exact H)
                    have hji32_ : (IntKind.i64.wrap (1 * 2 ^ min (ji30).toNat 64)) = ji32 := hji32
                    have hji32z : (ji30) ≤ 64 → (IntKind.i64.wrap (1 * 2 ^ (ji30).toNat)) = ji32 := shl_small hji32
                    have hji32u : (IntKind.i64.wrap (2 ^ min (ji30).toNat 64)) = ji32 := by have h_ := hji32_; rw [Int.one_mul] at h_; exact h_
                    have hji32v : (ji30) ≤ 64 → (IntKind.i64.wrap (2 ^ (ji30).toNat)) = ji32 := fun hle_ => by have h_ := hji32z hle_; rw [Int.one_mul] at h_; exact h_
                    have hji32y : (wrap64 (1 * 2 ^ min (ji30).toNat 64)) = ji32 := (i64_w _).symm.trans hji32_
                    have hji32x : (ji30) ≤ 64 → (wrap64 (1 * 2 ^ (ji30).toNat)) = ji32 := fun h_ => (i64_w _).symm.trans (hji32z h_)
                    by_cases c33 : x13_3 < (ji32)
                    · rw [if_pos c33] at H
                      have c33b0 : decide (x13_3 < (ji32)) = true := decide_eq_true c33
                      clear c33
                      replace H := Option.bind_eq_some_iff.mp H
                      obtain ⟨t195, A340, H⟩ := H
                      replace H : ((clause_True.f k3 l1 t195).bind fun bt198 => ((clause_True.f k3 l2 t195).bind fun bt200 => ((clause_True.f k3 t188 t195).bind fun bt202 => (if bt198.2 = 0 then (if bt200.2 = 0 then (if bt202.2 = 0 then (if bt198.1 = true then (if bt200.1 = true then (if bt202.1 = true then (spiritlevellaw13_ClauseFollows.l0 k3 a0 l1 l2 a3 t185 t188 (wrap64 (x13_3 + 1))) else (some false)) else (spiritlevellaw13_ClauseFollows.l0 k3 a0 l1 l2 a3 t185 t188 (wrap64 (x13_3 + 1)))) else (spiritlevellaw13_ClauseFollows.l0 k3 a0 l1 l2 a3 t185 t188 (wrap64 (x13_3 + 1)))) else (some false)) else (some false)) else (some false))))) = some r := H
                      have A34 := Aside0.mk A340
                      clear A340
                      replace H := Option.bind_eq_some_iff.mp H
                      obtain ⟨⟨t198, t199⟩, A350, H⟩ := H
                      replace H : ((clause_True.f k3 l2 t195).bind fun bt200 => ((clause_True.f k3 t188 t195).bind fun bt202 => (if t199 = 0 then (if bt200.2 = 0 then (if bt202.2 = 0 then (if t198 = true then (if bt200.1 = true then (if bt202.1 = true then (spiritlevellaw13_ClauseFollows.l0 k3 a0 l1 l2 a3 t185 t188 (wrap64 (x13_3 + 1))) else (some false)) else (spiritlevellaw13_ClauseFollows.l0 k3 a0 l1 l2 a3 t185 t188 (wrap64 (x13_3 + 1)))) else (spiritlevellaw13_ClauseFollows.l0 k3 a0 l1 l2 a3 t185 t188 (wrap64 (x13_3 + 1)))) else (some false)) else (some false)) else (some false)))) = some r := H
                      have A35 := Aside0.mk A350
                      clear A350
                      replace H := Option.bind_eq_some_iff.mp H
                      obtain ⟨⟨t200, t201⟩, A360, H⟩ := H
                      replace H : ((clause_True.f k3 t188 t195).bind fun bt202 => (if t199 = 0 then (if t201 = 0 then (if bt202.2 = 0 then (if t198 = true then (if t200 = true then (if bt202.1 = true then (spiritlevellaw13_ClauseFollows.l0 k3 a0 l1 l2 a3 t185 t188 (wrap64 (x13_3 + 1))) else (some false)) else (spiritlevellaw13_ClauseFollows.l0 k3 a0 l1 l2 a3 t185 t188 (wrap64 (x13_3 + 1)))) else (spiritlevellaw13_ClauseFollows.l0 k3 a0 l1 l2 a3 t185 t188 (wrap64 (x13_3 + 1)))) else (some false)) else (some false)) else (some false))) = some r := H
                      have A36 := Aside0.mk A360
                      clear A360
                      replace H := Option.bind_eq_some_iff.mp H
                      obtain ⟨⟨t202, t203⟩, A370, H⟩ := H
                      replace H : (if t199 = 0 then (if t201 = 0 then (if t203 = 0 then (if t198 = true then (if t200 = true then (if t202 = true then (spiritlevellaw13_ClauseFollows.l0 k3 a0 l1 l2 a3 t185 t188 (wrap64 (x13_3 + 1))) else (some false)) else (spiritlevellaw13_ClauseFollows.l0 k3 a0 l1 l2 a3 t185 t188 (wrap64 (x13_3 + 1)))) else (spiritlevellaw13_ClauseFollows.l0 k3 a0 l1 l2 a3 t185 t188 (wrap64 (x13_3 + 1)))) else (some false)) else (some false)) else (some false)) = some r := H
                      have A37 := Aside0.mk A370
                      clear A370
                      by_cases c38 : t199 = 0
                      · rw [if_pos c38] at H
                        have c38b0 : (t199 == 0) = true := beq_iff_eq.mpr c38
                        have c38b1 : (t199 != 0) = false := bne_eq_false_iff_eq.mpr c38
                        clear c38
                        by_cases c39 : t201 = 0
                        · rw [if_pos c39] at H
                          have c39b0 : (t201 == 0) = true := beq_iff_eq.mpr c39
                          have c39b1 : (t201 != 0) = false := bne_eq_false_iff_eq.mpr c39
                          clear c39
                          by_cases c40 : t203 = 0
                          · rw [if_pos c40] at H
                            have c40b0 : (t203 == 0) = true := beq_iff_eq.mpr c40
                            have c40b1 : (t203 != 0) = false := bne_eq_false_iff_eq.mpr c40
                            clear c40
                            by_cases c41 : t198 = true
                            · subst c41
                              have H1 : (if t200 = true then (if t202 = true then (spiritlevellaw13_ClauseFollows.l0 k3 a0 l1 l2 a3 t185 t188 (wrap64 (x13_3 + 1))) else (some false)) else (spiritlevellaw13_ClauseFollows.l0 k3 a0 l1 l2 a3 t185 t188 (wrap64 (x13_3 + 1)))) = some r := by rw [if_pos rfl] at H; exact H
                              clear H
                              have H := H1
                              clear H1
                              by_cases c42 : t200 = true
                              · subst c42
                                have H1 : (if t202 = true then (spiritlevellaw13_ClauseFollows.l0 k3 a0 l1 l2 a3 t185 t188 (wrap64 (x13_3 + 1))) else (some false)) = some r := by rw [if_pos rfl] at H; exact H
                                clear H
                                have H := H1
                                clear H1
                                by_cases c43 : t202 = true
                                · subst c43
                                  have H1 : (spiritlevellaw13_ClauseFollows.l0 k3 a0 l1 l2 a3 t185 t188 (wrap64 (x13_3 + 1))) = some r := by rw [if_pos rfl] at H; exact H
                                  clear H
                                  have H := H1
                                  clear H1
                                  have H' := Aside0.mk H
                                  clear H
                                  go_wp2_with (first | ((with_reducible refine gate_callee (f := 19) rfl ?_); refine goesL_ (some 82) rfl rfl Try.func19 (by kernel_rfl) rfl #[.int .i64 a0, .int .i64 x13_3] rfl (by (try simp only [List.map_toArray, List.map_cons, List.map_nil]); first | done | rfl | (simp only [List.length_drop, List.length_take]; rfl)) ?_; (with_reducible refine (spiritlevelref13_Values.calls k3 a0 x13_3 t195 _ A34.out).mono ?_); rintro e w44 ⟨v196, rfl, ho0, hb⟩; refine ⟨_, rfl, ?_⟩; have n0_ := Aside0.mk (Kd.R_below (by (with_reducible repeat (first | apply Kd.R_alloc | apply Kd.R_drewN | apply Kd.R_drew)); exact HO_10.out) hb); have n1_ := Aside0.mk (Kd.R_lower ho0 (below_size (by repeat (first | (with_reducible first | exact HB.out | apply below_alloc | apply pw_below_drewN | apply below_drew1) | exact HB.out)))); have n2_ := Aside0.mk (below_step (by repeat (first | (with_reducible first | exact HB.out | apply below_alloc | apply pw_below_drewN | apply below_drew1) | exact HB.out)) hb); clear HO_10; clear HB; have HO_10 := n0_; have HO197 := n1_; have HB := n2_; clear n0_ n1_ n2_; (try clear hb); (try clear hb2); (try clear hk); (try clear hi); (try clear ho0); obtain ⟨Ao45, co45, eo45⟩ := Kd.R_slice HO197.out; subst eo45) | ((with_reducible refine gate_callee (f := 12) rfl ?_); refine goesL_ (some 86) rfl rfl Try.func12 (by kernel_rfl) rfl #[.slice A1 l1.length c1, .slice Ao45 t195.length co45] rfl (by (try simp only [List.map_toArray, List.map_cons, List.map_nil]); first | done | rfl | (simp only [List.length_drop, List.length_take]; rfl)) ?_; (with_reducible refine (clause_True.calls k3 _ _ l1 _ _ t195 true t199 _ ?side1 ?side2 ?side3 ?side4 A35.out).mono ?_); (case side1 => repeat (first | exact (Kd.C_below HR1.out HB.out) | (with_reducible refine Kd.C_alloc ?_ _) | (with_reducible refine Kd.C_drewN ?_ _) | (with_reducible refine Kd.C_drew ?_))); (case side2 => exact HC1.out); (case side3 => repeat (first | exact (Kd.R_reads' HO197.out).2.2 | (with_reducible refine Kd.C_alloc ?_ _) | (with_reducible refine Kd.C_drewN ?_ _) | (with_reducible refine Kd.C_drew ?_))); (case side4 => exact (Kd.R_reads' HO197.out).2.1); rintro e w' ⟨rfl, ⟨nd, rfl⟩⟩; refine ⟨_, rfl, ?_⟩) | ((with_reducible refine gate_callee (f := 12) rfl ?_); refine goesL_ (some 92) rfl rfl Try.func12 (by kernel_rfl) rfl #[.slice A2 l2.length c2, .slice Ao45 t195.length co45] rfl (by (try simp only [List.map_toArray, List.map_cons, List.map_nil]); first | done | rfl | (simp only [List.length_drop, List.length_take]; rfl)) ?_; (with_reducible refine (clause_True.calls k3 _ _ l2 _ _ t195 true t201 _ ?side1 ?side2 ?side3 ?side4 A36.out).mono ?_); (case side1 => repeat (first | exact (Kd.C_below HR2.out (by repeat (first | (with_reducible first | exact HB.out | apply below_alloc | apply pw_below_drewN | apply below_drew1) | exact HB.out))) | (with_reducible refine Kd.C_alloc ?_ _) | (with_reducible refine Kd.C_drewN ?_ _) | (with_reducible refine Kd.C_drew ?_))); (case side2 => exact HC2.out); (case side3 => repeat (first | exact (Kd.R_reads' HO197.out).2.2 | (with_reducible refine Kd.C_alloc ?_ _) | (with_reducible refine Kd.C_drewN ?_ _) | (with_reducible refine Kd.C_drew ?_))); (case side4 => exact (Kd.R_reads' HO197.out).2.1); rintro e w' ⟨rfl, ⟨nd, rfl⟩⟩; refine ⟨_, rfl, ?_⟩; obtain ⟨Ao46, co46, eo46⟩ := Kd.R_slice HO_10.out; subst eo46) | ((with_reducible refine gate_callee (f := 12) rfl ?_); refine goesL_ (some 98) rfl rfl Try.func12 (by kernel_rfl) rfl #[.slice Ao46 t188.length co46, .slice Ao45 t195.length co45] rfl (by (try simp only [List.map_toArray, List.map_cons, List.map_nil]); first | done | rfl | (simp only [List.length_drop, List.length_take]; rfl)) ?_; (with_reducible refine (clause_True.calls k3 _ _ t188 _ _ t195 true t203 _ ?side1 ?side2 ?side3 ?side4 A37.out).mono ?_); (case side1 => repeat (first | exact (Kd.R_reads' HO_10.out).2.2 | (with_reducible refine Kd.C_alloc ?_ _) | (with_reducible refine Kd.C_drewN ?_ _) | (with_reducible refine Kd.C_drew ?_))); (case side2 => exact (Kd.R_reads' HO_10.out).2.1); (case side3 => repeat (first | exact (Kd.R_reads' HO197.out).2.2 | (with_reducible refine Kd.C_alloc ?_ _) | (with_reducible refine Kd.C_drewN ?_ _) | (with_reducible refine Kd.C_drew ?_))); (case side4 => exact (Kd.R_reads' HO197.out).2.1); rintro e w' ⟨rfl, ⟨nd, rfl⟩⟩; refine ⟨_, rfl, ?_⟩))
                                  go_roundg k3
                                  case measure => have := HJ5.out; have := HJ20.out; have := HK3.out; omega
                                  case rel => exact ⟨(wrap64 (x13_3 + 1)), (by first | rfl | (simp; done) | (simp [*]; done)), H', ⟨by have := HJ5.out; have := HJ20.out; have := HK3.out; omega⟩, ⟨by (with_reducible repeat (first | apply Kd.R_alloc | apply Kd.R_drewN | apply Kd.R_drew)); exact HO_10.out⟩, ⟨by repeat (first | (with_reducible first | exact HB.out | apply below_alloc | apply pw_below_drewN | apply below_drew1) | exact HB.out)⟩⟩
                                · replace c43 := Bool.eq_false_iff.mpr c43
                                  subst c43
                                  have H1 : (some false) = some r := by rw [if_neg (show ¬ (false = true) by decide)] at H; exact H
                                  clear H
                                  have H := H1
                                  clear H1
                                  exact absurd ((Option.some.inj H).trans HT_.out) (by decide)
                              · replace c42 := Bool.eq_false_iff.mpr c42
                                subst c42
                                have H1 : (spiritlevellaw13_ClauseFollows.l0 k3 a0 l1 l2 a3 t185 t188 (wrap64 (x13_3 + 1))) = some r := by rw [if_neg (show ¬ (false = true) by decide)] at H; exact H
                                clear H
                                have H := H1
                                clear H1
                                have H' := Aside0.mk H
                                clear H
                                go_wp2_with (first | ((with_reducible refine gate_callee (f := 19) rfl ?_); refine goesL_ (some 82) rfl rfl Try.func19 (by kernel_rfl) rfl #[.int .i64 a0, .int .i64 x13_3] rfl (by (try simp only [List.map_toArray, List.map_cons, List.map_nil]); first | done | rfl | (simp only [List.length_drop, List.length_take]; rfl)) ?_; (with_reducible refine (spiritlevelref13_Values.calls k3 a0 x13_3 t195 _ A34.out).mono ?_); rintro e w47 ⟨v196, rfl, ho0, hb⟩; refine ⟨_, rfl, ?_⟩; have n0_ := Aside0.mk (Kd.R_below (by (with_reducible repeat (first | apply Kd.R_alloc | apply Kd.R_drewN | apply Kd.R_drew)); exact HO_10.out) hb); have n1_ := Aside0.mk (Kd.R_lower ho0 (below_size (by repeat (first | (with_reducible first | exact HB.out | apply below_alloc | apply pw_below_drewN | apply below_drew1) | exact HB.out)))); have n2_ := Aside0.mk (below_step (by repeat (first | (with_reducible first | exact HB.out | apply below_alloc | apply pw_below_drewN | apply below_drew1) | exact HB.out)) hb); clear HO_10; clear HB; have HO_10 := n0_; have HO197 := n1_; have HB := n2_; clear n0_ n1_ n2_; (try clear hb); (try clear hb2); (try clear hk); (try clear hi); (try clear ho0); obtain ⟨Ao48, co48, eo48⟩ := Kd.R_slice HO197.out; subst eo48) | ((with_reducible refine gate_callee (f := 12) rfl ?_); refine goesL_ (some 86) rfl rfl Try.func12 (by kernel_rfl) rfl #[.slice A1 l1.length c1, .slice Ao48 t195.length co48] rfl (by (try simp only [List.map_toArray, List.map_cons, List.map_nil]); first | done | rfl | (simp only [List.length_drop, List.length_take]; rfl)) ?_; (with_reducible refine (clause_True.calls k3 _ _ l1 _ _ t195 true t199 _ ?side1 ?side2 ?side3 ?side4 A35.out).mono ?_); (case side1 => repeat (first | exact (Kd.C_below HR1.out HB.out) | (with_reducible refine Kd.C_alloc ?_ _) | (with_reducible refine Kd.C_drewN ?_ _) | (with_reducible refine Kd.C_drew ?_))); (case side2 => exact HC1.out); (case side3 => repeat (first | exact (Kd.R_reads' HO197.out).2.2 | (with_reducible refine Kd.C_alloc ?_ _) | (with_reducible refine Kd.C_drewN ?_ _) | (with_reducible refine Kd.C_drew ?_))); (case side4 => exact (Kd.R_reads' HO197.out).2.1); rintro e w' ⟨rfl, ⟨nd, rfl⟩⟩; refine ⟨_, rfl, ?_⟩) | ((with_reducible refine gate_callee (f := 12) rfl ?_); refine goesL_ (some 92) rfl rfl Try.func12 (by kernel_rfl) rfl #[.slice A2 l2.length c2, .slice Ao48 t195.length co48] rfl (by (try simp only [List.map_toArray, List.map_cons, List.map_nil]); first | done | rfl | (simp only [List.length_drop, List.length_take]; rfl)) ?_; (with_reducible refine (clause_True.calls k3 _ _ l2 _ _ t195 false t201 _ ?side1 ?side2 ?side3 ?side4 A36.out).mono ?_); (case side1 => repeat (first | exact (Kd.C_below HR2.out (by repeat (first | (with_reducible first | exact HB.out | apply below_alloc | apply pw_below_drewN | apply below_drew1) | exact HB.out))) | (with_reducible refine Kd.C_alloc ?_ _) | (with_reducible refine Kd.C_drewN ?_ _) | (with_reducible refine Kd.C_drew ?_))); (case side2 => exact HC2.out); (case side3 => repeat (first | exact (Kd.R_reads' HO197.out).2.2 | (with_reducible refine Kd.C_alloc ?_ _) | (with_reducible refine Kd.C_drewN ?_ _) | (with_reducible refine Kd.C_drew ?_))); (case side4 => exact (Kd.R_reads' HO197.out).2.1); rintro e w' ⟨rfl, ⟨nd, rfl⟩⟩; refine ⟨_, rfl, ?_⟩; obtain ⟨Ao49, co49, eo49⟩ := Kd.R_slice HO_10.out; subst eo49) | ((with_reducible refine gate_callee (f := 12) rfl ?_); refine goesL_ (some 98) rfl rfl Try.func12 (by kernel_rfl) rfl #[.slice Ao49 t188.length co49, .slice Ao48 t195.length co48] rfl (by (try simp only [List.map_toArray, List.map_cons, List.map_nil]); first | done | rfl | (simp only [List.length_drop, List.length_take]; rfl)) ?_; (with_reducible refine (clause_True.calls k3 _ _ t188 _ _ t195 t202 t203 _ ?side1 ?side2 ?side3 ?side4 A37.out).mono ?_); (case side1 => repeat (first | exact (Kd.R_reads' HO_10.out).2.2 | (with_reducible refine Kd.C_alloc ?_ _) | (with_reducible refine Kd.C_drewN ?_ _) | (with_reducible refine Kd.C_drew ?_))); (case side2 => exact (Kd.R_reads' HO_10.out).2.1); (case side3 => repeat (first | exact (Kd.R_reads' HO197.out).2.2 | (with_reducible refine Kd.C_alloc ?_ _) | (with_reducible refine Kd.C_drewN ?_ _) | (with_reducible refine Kd.C_drew ?_))); (case side4 => exact (Kd.R_reads' HO197.out).2.1); rintro e w' ⟨rfl, ⟨nd, rfl⟩⟩; refine ⟨_, rfl, ?_⟩))
                                go_roundg k3
                                case measure => have := HJ5.out; have := HJ20.out; have := HK3.out; omega
                                case rel => exact ⟨(wrap64 (x13_3 + 1)), (by first | rfl | (simp; done) | (simp [*]; done)), H', ⟨by have := HJ5.out; have := HJ20.out; have := HK3.out; omega⟩, ⟨by (with_reducible repeat (first | apply Kd.R_alloc | apply Kd.R_drewN | apply Kd.R_drew)); exact HO_10.out⟩, ⟨by repeat (first | (with_reducible first | exact HB.out | apply below_alloc | apply pw_below_drewN | apply below_drew1) | exact HB.out)⟩⟩
                            · replace c41 := Bool.eq_false_iff.mpr c41
                              subst c41
                              have H1 : (spiritlevellaw13_ClauseFollows.l0 k3 a0 l1 l2 a3 t185 t188 (wrap64 (x13_3 + 1))) = some r := by rw [if_neg (show ¬ (false = true) by decide)] at H; exact H
                              clear H
                              have H := H1
                              clear H1
                              have H' := Aside0.mk H
                              clear H
                              go_wp2_with (first | ((with_reducible refine gate_callee (f := 19) rfl ?_); refine goesL_ (some 82) rfl rfl Try.func19 (by kernel_rfl) rfl #[.int .i64 a0, .int .i64 x13_3] rfl (by (try simp only [List.map_toArray, List.map_cons, List.map_nil]); first | done | rfl | (simp only [List.length_drop, List.length_take]; rfl)) ?_; (with_reducible refine (spiritlevelref13_Values.calls k3 a0 x13_3 t195 _ A34.out).mono ?_); rintro e w50 ⟨v196, rfl, ho0, hb⟩; refine ⟨_, rfl, ?_⟩; have n0_ := Aside0.mk (Kd.R_below (by (with_reducible repeat (first | apply Kd.R_alloc | apply Kd.R_drewN | apply Kd.R_drew)); exact HO_10.out) hb); have n1_ := Aside0.mk (Kd.R_lower ho0 (below_size (by repeat (first | (with_reducible first | exact HB.out | apply below_alloc | apply pw_below_drewN | apply below_drew1) | exact HB.out)))); have n2_ := Aside0.mk (below_step (by repeat (first | (with_reducible first | exact HB.out | apply below_alloc | apply pw_below_drewN | apply below_drew1) | exact HB.out)) hb); clear HO_10; clear HB; have HO_10 := n0_; have HO197 := n1_; have HB := n2_; clear n0_ n1_ n2_; (try clear hb); (try clear hb2); (try clear hk); (try clear hi); (try clear ho0); obtain ⟨Ao51, co51, eo51⟩ := Kd.R_slice HO197.out; subst eo51) | ((with_reducible refine gate_callee (f := 12) rfl ?_); refine goesL_ (some 86) rfl rfl Try.func12 (by kernel_rfl) rfl #[.slice A1 l1.length c1, .slice Ao51 t195.length co51] rfl (by (try simp only [List.map_toArray, List.map_cons, List.map_nil]); first | done | rfl | (simp only [List.length_drop, List.length_take]; rfl)) ?_; (with_reducible refine (clause_True.calls k3 _ _ l1 _ _ t195 false t199 _ ?side1 ?side2 ?side3 ?side4 A35.out).mono ?_); (case side1 => repeat (first | exact (Kd.C_below HR1.out HB.out) | (with_reducible refine Kd.C_alloc ?_ _) | (with_reducible refine Kd.C_drewN ?_ _) | (with_reducible refine Kd.C_drew ?_))); (case side2 => exact HC1.out); (case side3 => repeat (first | exact (Kd.R_reads' HO197.out).2.2 | (with_reducible refine Kd.C_alloc ?_ _) | (with_reducible refine Kd.C_drewN ?_ _) | (with_reducible refine Kd.C_drew ?_))); (case side4 => exact (Kd.R_reads' HO197.out).2.1); rintro e w' ⟨rfl, ⟨nd, rfl⟩⟩; refine ⟨_, rfl, ?_⟩) | ((with_reducible refine gate_callee (f := 12) rfl ?_); refine goesL_ (some 92) rfl rfl Try.func12 (by kernel_rfl) rfl #[.slice A2 l2.length c2, .slice Ao51 t195.length co51] rfl (by (try simp only [List.map_toArray, List.map_cons, List.map_nil]); first | done | rfl | (simp only [List.length_drop, List.length_take]; rfl)) ?_; (with_reducible refine (clause_True.calls k3 _ _ l2 _ _ t195 t200 t201 _ ?side1 ?side2 ?side3 ?side4 A36.out).mono ?_); (case side1 => repeat (first | exact (Kd.C_below HR2.out (by repeat (first | (with_reducible first | exact HB.out | apply below_alloc | apply pw_below_drewN | apply below_drew1) | exact HB.out))) | (with_reducible refine Kd.C_alloc ?_ _) | (with_reducible refine Kd.C_drewN ?_ _) | (with_reducible refine Kd.C_drew ?_))); (case side2 => exact HC2.out); (case side3 => repeat (first | exact (Kd.R_reads' HO197.out).2.2 | (with_reducible refine Kd.C_alloc ?_ _) | (with_reducible refine Kd.C_drewN ?_ _) | (with_reducible refine Kd.C_drew ?_))); (case side4 => exact (Kd.R_reads' HO197.out).2.1); rintro e w' ⟨rfl, ⟨nd, rfl⟩⟩; refine ⟨_, rfl, ?_⟩; obtain ⟨Ao52, co52, eo52⟩ := Kd.R_slice HO_10.out; subst eo52) | ((with_reducible refine gate_callee (f := 12) rfl ?_); refine goesL_ (some 98) rfl rfl Try.func12 (by kernel_rfl) rfl #[.slice Ao52 t188.length co52, .slice Ao51 t195.length co51] rfl (by (try simp only [List.map_toArray, List.map_cons, List.map_nil]); first | done | rfl | (simp only [List.length_drop, List.length_take]; rfl)) ?_; (with_reducible refine (clause_True.calls k3 _ _ t188 _ _ t195 t202 t203 _ ?side1 ?side2 ?side3 ?side4 A37.out).mono ?_); (case side1 => repeat (first | exact (Kd.R_reads' HO_10.out).2.2 | (with_reducible refine Kd.C_alloc ?_ _) | (with_reducible refine Kd.C_drewN ?_ _) | (with_reducible refine Kd.C_drew ?_))); (case side2 => exact (Kd.R_reads' HO_10.out).2.1); (case side3 => repeat (first | exact (Kd.R_reads' HO197.out).2.2 | (with_reducible refine Kd.C_alloc ?_ _) | (with_reducible refine Kd.C_drewN ?_ _) | (with_reducible refine Kd.C_drew ?_))); (case side4 => exact (Kd.R_reads' HO197.out).2.1); rintro e w' ⟨rfl, ⟨nd, rfl⟩⟩; refine ⟨_, rfl, ?_⟩))
                              go_roundg k3
                              case measure => have := HJ5.out; have := HJ20.out; have := HK3.out; omega
                              case rel => exact ⟨(wrap64 (x13_3 + 1)), (by first | rfl | (simp; done) | (simp [*]; done)), H', ⟨by have := HJ5.out; have := HJ20.out; have := HK3.out; omega⟩, ⟨by (with_reducible repeat (first | apply Kd.R_alloc | apply Kd.R_drewN | apply Kd.R_drew)); exact HO_10.out⟩, ⟨by repeat (first | (with_reducible first | exact HB.out | apply below_alloc | apply pw_below_drewN | apply below_drew1) | exact HB.out)⟩⟩
                          · rw [if_neg c40] at H
                            have c40b0 : (t203 == 0) = false := beq_eq_false_iff_ne.mpr c40
                            have c40b1 : (t203 != 0) = true := bne_iff_ne.mpr c40
                            exact absurd ((Option.some.inj H).trans HT_.out) (by decide)
                        · rw [if_neg c39] at H
                          have c39b0 : (t201 == 0) = false := beq_eq_false_iff_ne.mpr c39
                          have c39b1 : (t201 != 0) = true := bne_iff_ne.mpr c39
                          exact absurd ((Option.some.inj H).trans HT_.out) (by decide)
                      · rw [if_neg c38] at H
                        have c38b0 : (t199 == 0) = false := beq_eq_false_iff_ne.mpr c38
                        have c38b1 : (t199 != 0) = true := bne_iff_ne.mpr c38
                        exact absurd ((Option.some.inj H).trans HT_.out) (by decide)
                    · rw [if_neg c33] at H
                      have c33b0 : decide (x13_3 < (ji32)) = false := decide_eq_false c33
                      clear c33
                      by_cases c53 : t185 = true
                      · subst c53
                        have H1 : ((spiritlevelref13_Has.f k3 t188 (wrap64 (2 * a3))).bind fun t193 => (if t193 = true then (some false) else ((spiritlevelref13_Has.f k3 t188 (wrap64 ((wrap64 (2 * a3)) + 1))).bind fun t194 => (some (!t194))))) = some r := by rw [if_pos rfl] at H; exact H
                        clear H
                        have H := H1
                        clear H1
                        replace H := Option.bind_eq_some_iff.mp H
                        obtain ⟨t193, A540, H⟩ := H
                        replace H : (if t193 = true then (some false) else ((spiritlevelref13_Has.f k3 t188 (wrap64 ((wrap64 (2 * a3)) + 1))).bind fun t194 => (some (!t194)))) = some r := H
                        have A54 := Aside0.mk A540
                        clear A540
                        by_cases c55 : t193 = true
                        · subst c55
                          have H1 : (some false) = some r := by rw [if_pos rfl] at H; exact H
                          clear H
                          have H := H1
                          clear H1
                          exact absurd ((Option.some.inj H).trans HT_.out) (by decide)
                        · replace c55 := Bool.eq_false_iff.mpr c55
                          subst c55
                          have H1 : ((spiritlevelref13_Has.f k3 t188 (wrap64 ((wrap64 (2 * a3)) + 1))).bind fun t194 => (some (!t194))) = some r := by rw [if_neg (show ¬ (false = true) by decide)] at H; exact H
                          clear H
                          have H := H1
                          clear H1
                          replace H := Option.bind_eq_some_iff.mp H
                          obtain ⟨t194, A560, H⟩ := H
                          replace H : (some (!t194)) = some r := H
                          have A56 := Aside0.mk A560
                          clear A560
                          obtain rfl := Option.some.inj H
                          obtain ⟨Ao57, co57, eo57⟩ := Kd.R_slice HO_10.out
                          subst eo57
                          go_wp2_with (first | (go_at_call 20; (with_reducible refine (spiritlevelref13_Has.calls k3 _ _ t188 (wrap64 (2 * a3)) false _ ?side1 ?side2 A54.out).mono ?_); (case side1 => repeat (first | exact (Kd.R_reads' HO_10.out).2.2 | (with_reducible refine Kd.C_alloc ?_ _) | (with_reducible refine Kd.C_drewN ?_ _) | (with_reducible refine Kd.C_drew ?_))); (case side2 => exact (Kd.R_reads' HO_10.out).2.1); rintro e w' ⟨rfl, ⟨nd, rfl⟩⟩) | (go_at_call 20; (with_reducible refine (spiritlevelref13_Has.calls k3 _ _ t188 (wrap64 ((wrap64 (2 * a3)) + 1)) t194 _ ?side1 ?side2 A56.out).mono ?_); (case side1 => repeat (first | exact (Kd.R_reads' HO_10.out).2.2 | (with_reducible refine Kd.C_alloc ?_ _) | (with_reducible refine Kd.C_drewN ?_ _) | (with_reducible refine Kd.C_drew ?_))); (case side2 => exact (Kd.R_reads' HO_10.out).2.1); rintro e w' ⟨rfl, ⟨nd, rfl⟩⟩))
                          go_ret
                          exact ⟨by first | rfl | (simp [errW_none, errW_some] <;> rfl) | (simp only [← hji30, ← hji32]; first | rfl | (simp [errW_none, errW_some] <;> rfl)) | (simp [*, errW_none, errW_some] <;> rfl), by repeat (first | (with_reducible first | exact HB.out | apply below_alloc | apply pw_below_drewN | apply below_drew1) | exact HB.out)⟩
                      · replace c53 := Bool.eq_false_iff.mpr c53
                        subst c53
                        have H1 : (some false) = some r := by rw [if_neg (show ¬ (false = true) by decide)] at H; exact H
                        clear H
                        have H := H1
                        clear H1
                        exact absurd ((Option.some.inj H).trans HT_.out) (by decide)
                  · rw [if_neg c31] at H
                    exact absurd H (by simp)

/-- THE ONE PURE STATEMENT of spiritlevellaw13_ClauseFollows. -/
def spiritlevellaw13_ClauseFollows.Pure : Prop := ∀ (a0 : Int) (l1 : List Int) (l2 : List Int) (a3 : Int), ((Lit.int .i64 a0).wf = true) → (l1.length ≤ 9223372036854775807 ∧ l1.length * 8 ≤ 140737488351232 ∧ ∀ x0_ ∈ l1, (Lit.int .i64 x0_).wf = true) → (l2.length ≤ 9223372036854775807 ∧ l2.length * 8 ≤ 140737488351232 ∧ ∀ x0_ ∈ l2, (Lit.int .i64 x0_).wf = true) → ((Lit.int .i64 a3).wf = true) → ∃ k, spiritlevellaw13_ClauseFollows.f k a0 l1 l2 a3 = some true
theorem spiritlevellaw13_ClauseFollows.walk (P : spiritlevellaw13_ClauseFollows.Pure) (a0 : Int) (A1 : Option Addr) (c1 : Nat) (l1 : List Int) (A2 : Option Addr) (c2 : Nat) (l2 : List Int) (a3 : Int) (w : World) (hr1 : Kd.C (Kd.int .i64) w A1 l1.length l1) (hc1 : l1.length ≤ c1) (hr2 : Kd.C (Kd.int .i64) w A2 l2.length l2) (hc2 : l2.length ≤ c2) (ok0 : (Lit.int .i64 a0).wf = true) (ok1 : l1.length ≤ 9223372036854775807 ∧ l1.length * 8 ≤ 140737488351232 ∧ ∀ x0_ ∈ l1, (Lit.int .i64 x0_).wf = true) (ok2 : l2.length ≤ 9223372036854775807 ∧ l2.length * 8 ≤ 140737488351232 ∧ ∀ x0_ ∈ l2, (Lit.int .i64 x0_).wf = true) (ok3 : (Lit.int .i64 a3).wf = true) :
    Calls Try.prog 4 #[.int .i64 a0, .slice A1 l1.length c1, .slice A2 l2.length c2, .int .i64 a3] w fun e w' => e = .returned (.bool true) ∧ Below w.heap.size w w' := by
  obtain ⟨k, h⟩ := P a0 l1 l2 a3 ok0 ok1 ok2 ok3
  refine (spiritlevellaw13_ClauseFollows.calls k a0 A1 c1 l1 A2 c2 l2 a3 true w hr1 hc1 hr2 hc2 rfl h).mono ?_
  rintro e w' ⟨rfl, hd⟩
  exact ⟨rfl, hd⟩

end Go.Proofs.Ytnicmgakboghpaa.QClauseFollows
