-- Made by wip/myprint.sh (a patched print): a text of this session's own.
import Derived.Test.YtnbccfecmpocaaaQHashGatesx0
import Derived.Test.YtnbccfecmpocaaaQHashGatesx3
import Derived.Test.YtnbccfecmpocaaaQHashGatesx4
import Derived.Test.YtnbccfecmpocaaaQHashGatesx5
import Derived.Test.YtnbccfecmpocaaaQHashGatesx6
namespace Go.Proofs.Ytnbccfecmpocaaa.QHashGates
open Go.RowKit Go.Proofs.YtnbccfecmpocaaaW.PrintWords Go.Proofs.YtnbccfecmpocaaaW.PrintLast Go.Proofs.YtnbccfecmpocaaaW.PrintMore
attribute [local go_sem] max2_int min2_int max_two min_two max_three min_three max_four min_four   -- for this text's walks alone
set_option linter.unusedVariables false
set_option linter.unusedSimpArgs false

/-! ### spiritlevelref01_Not: function 72 -/
def spiritlevelref01_Not.f (a0 : Int) : Option (Int) := if (Int.tmod a0 2) = 0 then (some (wrap64 (a0 + 1))) else (some (wrap64 (a0 - 1)))
set_option maxHeartbeats 8000000 in
set_option maxRecDepth 100000 in
theorem spiritlevelref01_Not.calls (a0 : Int) (r : Int) (w : World) (h : spiritlevelref01_Not.f a0 = some r) :
    Calls Try.prog 72 #[.int .i64 a0] w fun e w' => e = .returned (.int .i64 r) ∧ Drawn0 w w' := by
  have H : (if (Int.tmod a0 2) = 0 then (some (wrap64 (a0 + 1))) else (some (wrap64 (a0 - 1)))) = some r := h
  clear h
  by_cases c2 : (Int.tmod a0 2) = 0
  · rw [if_pos c2] at H
    have c2b0 : ((Int.tmod a0 2) == 0) = true := beq_iff_eq.mpr c2
    have c2b1 : ((Int.tmod a0 2) != 0) = false := bne_eq_false_iff_eq.mpr c2
    clear c2
    obtain rfl := Option.some.inj H
    go_enter Try.func72, Try.ntmps72
    go_wp2
    go_ret
    exact ⟨by first | rfl | (simp; done) | (simp [*]; done), by repeat (first | exact Drawn0.refl _ | apply Drawn0.step)⟩
  · rw [if_neg c2] at H
    have c2b0 : ((Int.tmod a0 2) == 0) = false := beq_eq_false_iff_ne.mpr c2
    have c2b1 : ((Int.tmod a0 2) != 0) = true := bne_iff_ne.mpr c2
    obtain rfl := Option.some.inj H
    go_enter Try.func72, Try.ntmps72
    go_wp2
    go_ret
    exact ⟨by first | rfl | (simp; done) | (simp [*]; done), by repeat (first | exact Drawn0.refl _ | apply Drawn0.step)⟩

/-! ### spiritlevelref01_Simple: function 61 -/
def spiritlevelref01_Simple.j0 : Nat → Int → Int → Bool → Option (Int × Bool)
  | 0, _, _, _ => none
  | k + 1, x0, x1, x6 => if x6 = true then (some (0, true)) else (if x0 = 1 then (some (x1, true)) else (if x1 = 1 then (some (x0, true)) else (if x0 = x1 then (some (x0, true)) else (some (0, false)))))
def spiritlevelref01_Simple.f (k : Nat) (a0 : Int) (a1 : Int) : Option (Int × Bool) := if a0 = 0 then (spiritlevelref01_Simple.j0 k a0 a1 true) else (if a1 = 0 then (spiritlevelref01_Simple.j0 k a0 a1 true) else ((spiritlevelref01_Not.f a0).bind fun t145 => (spiritlevelref01_Simple.j0 k a0 a1 (t145 == a1))))
theorem spiritlevelref01_Simple.mono_l : ∀ k, (∀ y0 y1 y2, LeO (spiritlevelref01_Simple.j0 k y0 y1 y2) (spiritlevelref01_Simple.j0 (k + 1) y0 y1 y2))
  | 0 => fun _ _ _ r h => by simp [spiritlevelref01_Simple.j0] at h
  | k + 1 => by
    have ih0 := spiritlevelref01_Simple.mono_l k
    · intro y0 y1 y2
      unfold spiritlevelref01_Simple.j0
      repeat' first
      | (with_reducible exact ih0 _ _ _)
      | (with_reducible exact LeO.refl _)
      | (with_reducible exact LeO.none _)
      | (with_reducible refine LeO.ite ?_ ?_)
      | (with_reducible refine LeO.bind ?_ (fun _ => ?_))
      | exact ih0 _ _ _
      | exact LeO.none _
      | refine LeO.ite ?_ ?_
      | refine LeO.bind ?_ (fun _ => ?_)
theorem spiritlevelref01_Simple.mono : ∀ a0 a1 k, LeO (spiritlevelref01_Simple.f k a0 a1) (spiritlevelref01_Simple.f (k + 1) a0 a1) := by
  intro a0 a1 k
  have ih0 := spiritlevelref01_Simple.mono_l k
  unfold spiritlevelref01_Simple.f
  repeat' first
      | (with_reducible exact ih0 _ _ _)
      | (with_reducible exact LeO.refl _)
      | (with_reducible exact LeO.none _)
      | (with_reducible refine LeO.ite ?_ ?_)
      | (with_reducible refine LeO.bind ?_ (fun _ => ?_))
      | exact ih0 _ _ _
      | exact LeO.none _
      | refine LeO.ite ?_ ?_
      | refine LeO.bind ?_ (fun _ => ?_)
set_option maxHeartbeats 8000000 in
set_option maxRecDepth 100000 in
theorem spiritlevelref01_Simple.calls (k : Nat) (a0 : Int) (a1 : Int) (r1 : Int) (r2 : Bool) (w : World) (h : spiritlevelref01_Simple.f k a0 a1 = some (r1, r2)) :
    Calls Try.prog 61 #[.int .i64 a0, .int .i64 a1] w fun e w' => e = .returned (.tuple #[.int .i64 r1, .bool r2]) ∧ Drawn0 w w' := by
  have H : (if a0 = 0 then (spiritlevelref01_Simple.j0 k a0 a1 true) else (if a1 = 0 then (spiritlevelref01_Simple.j0 k a0 a1 true) else ((spiritlevelref01_Not.f a0).bind fun t145 => (spiritlevelref01_Simple.j0 k a0 a1 (t145 == a1))))) = some (r1, r2) := h
  clear h
  have HC3 := Aside0.mk H
  clear H
  go_enter Try.func61, Try.ntmps61
  go_upto_region 1 with (fail)
  go_cut [6] (fun v6 wc => ∃ (kq : Nat) (x6_2 : Bool), v6 = .bool x6_2 ∧ Aside0 (spiritlevelref01_Simple.j0 kq a0 a1 x6_2 = some (r1, r2)) ∧ Aside0 (kq ≤ k) ∧ Drawn0 w wc)
  case first =>
    have H := HC3.out
    clear HC3
    by_cases c4 : a0 = 0
    · rw [if_pos c4] at H
      have c4b0 : (a0 == 0) = true := beq_iff_eq.mpr c4
      have c4b1 : (a0 != 0) = false := bne_eq_false_iff_eq.mpr c4
      clear c4
      (first | rw [c4b0] | (simp only [i64_w, i32_w]; rw [c4b0]) | skip)
      have H' := Aside0.mk H
      clear H
      go_wp2
      go_meet
      case rel => exact ⟨_, (true), (by first | rfl | (simp; done) | (simp [*]; done)), H', ⟨by first | omega | exact Nat.le_refl _⟩, by repeat (first | exact Drawn0.refl _ | apply Drawn0.step)⟩
    · rw [if_neg c4] at H
      have c4b0 : (a0 == 0) = false := beq_eq_false_iff_ne.mpr c4
      have c4b1 : (a0 != 0) = true := bne_iff_ne.mpr c4
      (first | rw [c4b0] | (simp only [i64_w, i32_w]; rw [c4b0]) | skip)
      by_cases c5 : a1 = 0
      · rw [if_pos c5] at H
        have c5b0 : (a1 == 0) = true := beq_iff_eq.mpr c5
        have c5b1 : (a1 != 0) = false := bne_eq_false_iff_eq.mpr c5
        clear c5
        have H' := Aside0.mk H
        clear H
        go_wp2
        go_meet
        case rel => exact ⟨_, (true), (by first | rfl | (simp; done) | (simp [*]; done)), H', ⟨by first | omega | exact Nat.le_refl _⟩, by repeat (first | exact Drawn0.refl _ | apply Drawn0.step)⟩
      · rw [if_neg c5] at H
        have c5b0 : (a1 == 0) = false := beq_eq_false_iff_ne.mpr c5
        have c5b1 : (a1 != 0) = true := bne_iff_ne.mpr c5
        replace H := Option.bind_eq_some_iff.mp H
        obtain ⟨t145, A60, H⟩ := H
        replace H : (spiritlevelref01_Simple.j0 k a0 a1 (t145 == a1)) = some (r1, r2) := H
        have A6 := Aside0.mk A60
        clear A60
        have H' := Aside0.mk H
        clear H
        go_wp2_with (first | (go_at_call 72; (with_reducible refine (spiritlevelref01_Not.calls a0 t145 _ A6.out).mono ?_); rintro e w' ⟨rfl, ⟨nd, rfl⟩⟩))
        go_meet
        case rel => exact ⟨_, ((t145 == a1)), (by first | rfl | (simp; done) | (simp [*]; done)), H', ⟨by first | omega | exact Nat.le_refl _⟩, by repeat (first | exact Drawn0.refl _ | apply Drawn0.step)⟩
  case rest =>
    clear HC3
    try clear p2
    try clear c4
    try clear c4b0
    try clear c4b1
    try clear c5
    try clear c5b0
    try clear c5b1
    try clear c6
    obtain ⟨kq, x6_2, rfl, HA, HJ2, ⟨mc2, rfl⟩⟩ := hcut
    cases kq with
    | zero => exact absurd HA.out (by simp [spiritlevelref01_Simple.j0])
    | succ kj2 =>
      have H := HA.out
      clear HA
      simp only [spiritlevelref01_Simple.j0] at H
      by_cases c7 : x6_2 = true
      · subst c7
        have H1 : (some (0, true)) = some (r1, r2) := by rw [if_pos rfl] at H; exact H
        clear H
        have H := H1
        clear H1
        simp only [Option.some.injEq, Prod.mk.injEq] at H
        obtain ⟨rfl, rfl⟩ := H
        go_wp2
        go_ret2
        exact ⟨by first | rfl | (simp; done) | (simp [*]; done), by repeat (first | exact Drawn0.refl _ | apply Drawn0.step)⟩
      · replace c7 := Bool.eq_false_iff.mpr c7
        subst c7
        have H1 : (if a0 = 1 then (some (a1, true)) else (if a1 = 1 then (some (a0, true)) else (if a0 = a1 then (some (a0, true)) else (some (0, false))))) = some (r1, r2) := by rw [if_neg (show ¬ (false = true) by decide)] at H; exact H
        clear H
        have H := H1
        clear H1
        by_cases c8 : a0 = 1
        · rw [if_pos c8] at H
          have c8b0 : (a0 == 1) = true := beq_iff_eq.mpr c8
          have c8b1 : (a0 != 1) = false := bne_eq_false_iff_eq.mpr c8
          clear c8
          simp only [Option.some.injEq, Prod.mk.injEq] at H
          obtain ⟨rfl, rfl⟩ := H
          go_wp2
          go_ret2
          exact ⟨by first | rfl | (simp; done) | (simp [*]; done), by repeat (first | exact Drawn0.refl _ | apply Drawn0.step)⟩
        · rw [if_neg c8] at H
          have c8b0 : (a0 == 1) = false := beq_eq_false_iff_ne.mpr c8
          have c8b1 : (a0 != 1) = true := bne_iff_ne.mpr c8
          by_cases c9 : a1 = 1
          · rw [if_pos c9] at H
            have c9b0 : (a1 == 1) = true := beq_iff_eq.mpr c9
            have c9b1 : (a1 != 1) = false := bne_eq_false_iff_eq.mpr c9
            clear c9
            simp only [Option.some.injEq, Prod.mk.injEq] at H
            obtain ⟨rfl, rfl⟩ := H
            go_wp2
            go_ret2
            exact ⟨by first | rfl | (simp; done) | (simp [*]; done), by repeat (first | exact Drawn0.refl _ | apply Drawn0.step)⟩
          · rw [if_neg c9] at H
            have c9b0 : (a1 == 1) = false := beq_eq_false_iff_ne.mpr c9
            have c9b1 : (a1 != 1) = true := bne_iff_ne.mpr c9
            by_cases c10 : a0 = a1
            · rw [if_pos c10] at H
              have c10b0 : (a0 == a1) = true := beq_iff_eq.mpr c10
              have c10b1 : (a0 != a1) = false := bne_eq_false_iff_eq.mpr c10
              clear c10
              simp only [Option.some.injEq, Prod.mk.injEq] at H
              obtain ⟨rfl, rfl⟩ := H
              go_wp2
              go_ret2
              exact ⟨by first | rfl | (simp; done) | (simp [*]; done), by repeat (first | exact Drawn0.refl _ | apply Drawn0.step)⟩
            · rw [if_neg c10] at H
              have c10b0 : (a0 == a1) = false := beq_eq_false_iff_ne.mpr c10
              have c10b1 : (a0 != a1) = true := bne_iff_ne.mpr c10
              simp only [Option.some.injEq, Prod.mk.injEq] at H
              obtain ⟨rfl, rfl⟩ := H
              go_wp2
              go_ret2
              exact ⟨by first | rfl | (simp; done) | (simp [*]; done), by repeat (first | exact Drawn0.refl _ | apply Drawn0.step)⟩

/-! ### spiritlevelref26_Made: function 36, by hand -/
-- hash_begin.dep
-- spiritlevelref01_Simple.f spiritlevelref02_Size.f
def spiritlevelref26_Made.dep : Nat := 0
/-- '==' of two gates. -/
theorem eqlAnd0 (d : Nat) (a b x y : Int) (w : World) : (Op.equalIn (d + 1 + 1) 67 (.agg #[.int .i64 a, .int .i64 b]) (.agg #[.int .i64 x, .int .i64 y])).run Try.prog w = .ok (a == x && b == y) w := by
  refine eqA_of Try.underlying67 (by kernel_rfl) ?_
  refine eqf_cons (by kernel_rfl) (a := .int .i64 a) (b := .int .i64 x) (by kernel_rfl) (by kernel_rfl) (run_equalIn_int w d _ _ _ a x Try.underlying3) ?_
  exact eqf_last (by kernel_rfl) (a := .int .i64 b) (b := .int .i64 y) (by kernel_rfl) (by kernel_rfl) (run_equalIn_int w d _ _ _ b y Try.underlying3)
theorem eqlAnd (a b x y : Int) (w : World) : (binOp .eql 67 (.agg #[.int .i64 a, .int .i64 b]) (.agg #[.int .i64 x, .int .i64 y])).run Try.prog w = .ok (.bool (a == x && b == y)) w := by
  rw [run_eql_struct, eqlAnd0 9998 a b x y w]
  rfl
/-- A circuit in a block of the call's own. -/
structure StO (P : Nat → Prop) (w W : World) (bo : Nat) (ins : Int) (L : List S86) (gs : List S67) (bads cons : List Int) : Prop where
  hb : Below w.heap.size w W
  lo : w.heap.size ≤ bo
  blk : ∃ vL vA vB vC, W.heap[bo]? = some (.cells #[.int .i64 ins, vL, vA, vB, vC] 26 (0, 0)) ∧ Kd.R k86 86 W w.heap.size (fun _ => True) vL L ∧ Kd.R k67 67 W w.heap.size (fun _ => True) vA gs ∧ Kd.R (Kd.int .i64) 3 W w.heap.size (fun k => some k ≠ vC.ownBlock ∧ P k) vB bads ∧ Kd.R (Kd.int .i64) 3 W w.heap.size (fun k => some k ≠ vB.ownBlock ∧ P k) vC cons
/-- All blocks but one, and rows of gates, stay. -/
def KeepO (bo : Nat) (W W' : World) : Prop := W.heap.size ≤ W'.heap.size ∧ ∀ (k : Nat) (cs : Array Value) (t : TypeId) (fr : Nat × Nat), W.heap[k]? = some (.cells cs t fr) → k ≠ bo → t ≠ 67 → W'.heap[k]? = some (.cells cs t fr)
theorem KeepO.refl (bo : Nat) (W : World) : KeepO bo W W := ⟨Nat.le_refl _, fun _ _ _ _ h _ _ => h⟩
theorem KeepO.trans {bo : Nat} {W W' W2 : World} (h : KeepO bo W W') (h' : KeepO bo W' W2) : KeepO bo W W2 := ⟨Nat.le_trans h.1 h'.1, fun k cs t fr e a b => h'.2 k cs t fr (h.2 k cs t fr e a b) a b⟩
theorem KeepO.below {bo : Nat} {W W' : World} (h : Below W.heap.size W W') : KeepO bo W W' := ⟨h.size, fun k cs t fr e _ _ => (h.block k (Array.getElem?_eq_some_iff.1 e).1).trans e⟩
theorem KeepO.blk {bo : Nat} {W W' : World} {k t : Nat} {cs : Array Value} (h : KeepO bo W W') (hb : W.heap[k]? = some (.cells cs t (0, 0))) (a : k ≠ bo) (b : t ≠ 67) : W'.heap[k]? = some (.cells cs t (0, 0)) := h.2 k cs t (0, 0) hb a b
theorem KeepO.set {W : World} {b i : Nat} (v : Value) : KeepO b W (W.setCell ⟨b, i, none⟩ v) := ⟨by simp, fun k cs' t fr e a _ => (Below.heap_setCell W _ v k a).trans e⟩
theorem KeepO.grown {bo : Nat} {W W' : World} {row : Option Nat} (hg : W.grownBy W' row) (hr : ∀ k, row = some k → ∃ cs, W.heap[k]? = some (.cells cs 67 (0, 0))) : KeepO bo W W' := by
  refine ⟨hg.size, fun k cs' t fr e _ b => (hg.block k (Array.getElem?_eq_some_iff.1 e).1 ?_).trans e⟩
  intro hk
  obtain ⟨cs, hc⟩ := hr k hk.symm
  rw [hc] at e
  injection e with e
  injection e with _ e
  exact b e.symm
section
variable {P : Nat → Prop} {w W W' X w1 : World} {bo : Nat} {ins : Int} {L : List S86} {gs gs' : List S67} {bads cons : List Int}
theorem StO.below (h : StO P w W bo ins L gs bads cons) (hb : Below W.heap.size W W') : StO P w W' bo ins L gs bads cons := by
  obtain ⟨h0, h1, ⟨vL, vA, vB, vC, h3, h4, h5, h6, h7⟩⟩ := h
  exact ⟨below_step h0 hb, h1, ⟨vL, vA, vB, vC, blk_below h3 hb, Kd.R_below h4 hb, Kd.R_below h5 hb, Kd.R_below h6 hb, Kd.R_below h7 hb⟩⟩
theorem StO.cells (h : StO P w W bo ins L gs bads cons) : ∃ AL cL AA cA AB cB AC cC, W.heap[bo]? = some (.cells #[.int .i64 ins, .slice AL L.length cL, .slice AA gs.length cA, .slice AB bads.length cB, .slice AC cons.length cC] 26 (0, 0)) ∧ Kd.R k86 86 W w.heap.size (fun _ => True) (.slice AL L.length cL) L ∧ Kd.R k67 67 W w.heap.size (fun _ => True) (.slice AA gs.length cA) gs ∧ Kd.R (Kd.int .i64) 3 W w.heap.size (fun k => some k ≠ (Value.slice AC cons.length cC).ownBlock ∧ P k) (.slice AB bads.length cB) bads ∧ Kd.R (Kd.int .i64) 3 W w.heap.size (fun k => some k ≠ (Value.slice AB bads.length cB).ownBlock ∧ P k) (.slice AC cons.length cC) cons := by
  obtain ⟨vL, vA, vB, vC, h3, h4, h5, h6, h7⟩ := h.blk
  obtain ⟨AL, cL, rfl⟩ := Kd.R_slice h4
  obtain ⟨AA, cA, rfl⟩ := Kd.R_slice h5
  obtain ⟨AB, cB, rfl⟩ := Kd.R_slice h6
  obtain ⟨AC, cC, rfl⟩ := Kd.R_slice h7
  exact ⟨AL, cL, AA, cA, AB, cB, AC, cC, h3, h4, h5, h6, h7⟩
theorem StO.push (h : StO P w X bo ins L gs bads cons) {vA v1 : Value} {AA : Option Addr} {cA : Nat} (hv : vA = .slice AA gs.length cA) (hc2 : X.cell? ⟨bo, 2, none⟩ = some vA) (hb1 : Below w.heap.size w w1) (hg : X.grownBy w1 vA.ownBlock)
    (hr : Kd.R k67 67 w1 w.heap.size (fun _ => True) v1 gs') :
    StO P w (w1.setCell ⟨bo, 2, none⟩ v1) bo ins L gs' bads cons ∧ KeepO bo X (w1.setCell ⟨bo, 2, none⟩ v1) ∧ ∃ cs, w1.heap[bo]? = some (.cells cs 26 (0, 0)) ∧ (cs[2]?).isSome = true := by
  obtain ⟨h0, l1, ⟨vL, vA', vB, vC, h3, h4, h5, h6, h7⟩⟩ := h
  have e2 : vA' = vA := by
    have := (blk_cell h3 2).symm.trans hc2
    simpa using this
  subst e2
  have hrow : ∀ k, vA'.ownBlock = some k → ∃ cs, X.heap[k]? = some (.cells cs 67 (0, 0)) := Kd.R_typed h5
  have hne : some bo ≠ vA'.ownBlock := fun e => by
    obtain ⟨cs, hc⟩ := hrow bo e.symm
    rw [hc] at h3
    injection h3 with h3
    injection h3 with _ h3
    exact absurd h3 (by decide)
  have hb3 := blk_grown h3 hg hne
  have g4 := Kd.R_over' h4 hrow (by decide) hg
  have g6 := Kd.R_over' h6 hrow (by decide) hg
  have g7 := Kd.R_over' h7 hrow (by decide) hg
  refine ⟨⟨hb1.setCell l1 _, l1, ⟨vL, v1, vB, vC, ?_, Kd.R_set g4 hb3 (by decide) 2 _, Kd.R_set hr hb3 (by decide) 2 _, Kd.R_set g6 hb3 (by decide) 2 _, Kd.R_set g7 hb3 (by decide) 2 _⟩⟩, (KeepO.grown hg hrow).trans (KeepO.set v1), _, hb3, rfl⟩
  have := blk_set hb3 2 v1
  simpa using this
end
theorem simple_true {first : Int} {gs : List S67} {x y : Int} (x0 : 0 ≤ x) (x1 : x ≤ 100000000) (y0 : 0 ≤ y) (y1 : y ≤ 100000000) (hc : x = 0 ∨ y = 0 ∨ x = Go.bits .xor .i64 y 1 ∨ x = 1 ∨ x = y ∨ y = 1) : spiritlevelref01_Simple.f 2 x y = some ((andP first gs x y).2, true) ∧ (andP first gs x y).1 = gs := by
  have hw : ∀ z : Int, 0 ≤ z → z ≤ 100000001 → wrap64 z = z := fun z h0 h1 => by unfold wrap64; omega
  have hb := h_bxor1 y y0 (by omega)
  unfold notH at hb
  have hn : spiritlevelref01_Not.f x = some (if x % 2 = 0 then x + 1 else x - 1) := by
    unfold spiritlevelref01_Not.f
    rw [Int.tmod_eq_emod_of_nonneg x0]
    split
    · rw [hw _ (by omega) (by omega)]
    · rw [hw _ (by omega) (by omega)]
  have hxy : (x % 2 = 0 → (x + 1 = y ↔ x = Go.bits .xor .i64 y 1)) ∧ (¬ x % 2 = 0 → (x - 1 = y ↔ x = Go.bits .xor .i64 y 1)) := by
    rw [hb]
    constructor <;> intro h <;> constructor <;> intro h2 <;> (split at * <;> omega)
  unfold spiritlevelref01_Simple.f
  by_cases c1 : x = 0
  · have e : andP first gs x y = (gs, 0) := by unfold andP; rw [if_pos (Or.inl c1)]
    rw [if_pos c1, e]
    simp only [spiritlevelref01_Simple.j0]
    refine ⟨?_, ?_⟩ <;> simp
  rw [if_neg c1]
  by_cases c2 : y = 0
  · have e : andP first gs x y = (gs, 0) := by unfold andP; rw [if_pos (Or.inr (Or.inl c2))]
    rw [if_pos c2, e]
    simp only [spiritlevelref01_Simple.j0]
    refine ⟨?_, ?_⟩ <;> simp
  rw [if_neg c2, hn, Option.bind_some]
  simp only [spiritlevelref01_Simple.j0]
  by_cases c3 : x = Go.bits .xor .i64 y 1
  · have e : andP first gs x y = (gs, 0) := by unfold andP; rw [if_pos (Or.inr (Or.inr c3))]
    rw [e, if_pos (by rw [beq_iff_eq]; split; (rename_i h; exact (hxy.1 h).2 c3); (rename_i h; exact (hxy.2 h).2 c3))]
    exact ⟨rfl, rfl⟩
  rw [if_neg (by rw [beq_iff_eq]; split; (rename_i h; exact fun h2 => c3 ((hxy.1 h).1 h2)); (rename_i h; exact fun h2 => c3 ((hxy.2 h).1 h2)))]
  have n1 : ¬ (x = 0 ∨ y = 0 ∨ x = Go.bits .xor .i64 y 1) := by rintro (h | h | h) <;> contradiction
  by_cases c4 : x = 1
  · have e : andP first gs x y = (gs, y) := by unfold andP; rw [if_neg n1, if_pos (Or.inl c4)]
    rw [e, if_pos c4]; exact ⟨rfl, rfl⟩
  rw [if_neg c4]
  by_cases c6 : x = y
  · have e : andP first gs x y = (gs, y) := by unfold andP; rw [if_neg n1, if_pos (Or.inr c6)]
    rw [e]
    by_cases c5 : y = 1
    · rw [if_pos c5, c6]; exact ⟨rfl, rfl⟩
    · rw [if_neg c5, if_pos c6, c6]; exact ⟨rfl, rfl⟩
  by_cases c5 : y = 1
  · have e : andP first gs x y = (gs, x) := by unfold andP; rw [if_neg n1, if_neg (by rintro (h | h) <;> contradiction), if_pos c5]
    rw [e, if_pos c5]; exact ⟨rfl, rfl⟩
  · rcases hc with h | h | h | h | h | h <;> contradiction
theorem simple_false {x y : Int} (x0 : 0 ≤ x) (x1 : x ≤ 100000000) (y0 : 0 ≤ y) (y1 : y ≤ 100000000) (hc : ¬ (x = 0 ∨ y = 0 ∨ x = Go.bits .xor .i64 y 1 ∨ x = 1 ∨ x = y ∨ y = 1)) : spiritlevelref01_Simple.f 2 x y = some (0, false) := by
  have hw : ∀ z : Int, 0 ≤ z → z ≤ 100000001 → wrap64 z = z := fun z h0 h1 => by unfold wrap64; omega
  have hb := h_bxor1 y y0 (by omega)
  unfold notH at hb
  have hn : spiritlevelref01_Not.f x = some (if x % 2 = 0 then x + 1 else x - 1) := by
    unfold spiritlevelref01_Not.f
    rw [Int.tmod_eq_emod_of_nonneg x0]
    split
    · rw [hw _ (by omega) (by omega)]
    · rw [hw _ (by omega) (by omega)]
  have hxy : (x % 2 = 0 → (x + 1 = y ↔ x = Go.bits .xor .i64 y 1)) ∧ (¬ x % 2 = 0 → (x - 1 = y ↔ x = Go.bits .xor .i64 y 1)) := by
    rw [hb]
    constructor <;> intro h <;> constructor <;> intro h2 <;> (split at * <;> omega)
  have c3 : ¬ x = Go.bits .xor .i64 y 1 := fun h => hc (by simp [← h])
  unfold spiritlevelref01_Simple.f
  rw [if_neg (fun h => hc (Or.inl h)), if_neg (fun h => hc (Or.inr (Or.inl h))), hn, Option.bind_some]
  simp only [spiritlevelref01_Simple.j0]
  rw [if_neg (by rw [beq_iff_eq]; split; (rename_i h; exact fun h2 => c3 ((hxy.1 h).1 h2)); (rename_i h; exact fun h2 => c3 ((hxy.2 h).1 h2))), if_neg (fun h => hc (by simp [h])), if_neg (fun h => hc (by simp [h])), if_neg (fun h => hc (by simp [h]))]
theorem findG_at {first : Int} {gs : List S67} {p q : Int} {i : Nat} (hi : i < gs.length) (h : (gs[i]).f0 = p ∧ (gs[i]).f1 = q) (hn : ∀ j (hj : j < gs.length), j < i → ¬ ((gs[j]).f0 = p ∧ (gs[j]).f1 = q)) : findG first gs p q = some (2 * (first + (i : Int))) := by
  unfold findG
  have : gs.findIdx? (fun g => decide (g.f0 = p ∧ g.f1 = q)) = some i := by
    rw [List.findIdx?_eq_some_iff_getElem]
    exact ⟨hi, decide_eq_true h, fun j hj => by simpa using hn j (by omega) hj⟩
  rw [this]; rfl
theorem findG_none {first : Int} {gs : List S67} {p q : Int} (hn : ∀ j (hj : j < gs.length), ¬ ((gs[j]).f0 = p ∧ (gs[j]).f1 = q)) : findG first gs p q = none := by
  unfold findG
  have : gs.findIdx? (fun g => decide (g.f0 = p ∧ g.f1 = q)) = none := by
    rw [List.findIdx?_eq_none_iff]
    intro g hg
    obtain ⟨j, hj, rfl⟩ := List.getElem_of_mem hg
    exact decide_eq_false (hn j hj)
  rw [this]; rfl
set_option maxHeartbeats 8000000 in
set_option maxRecDepth 100000 in
theorem made_simple {w W : World} {bo : Nat} (x y l : Int) (hs : spiritlevelref01_Simple.f 2 x y = some (l, true)) :
    Calls Try.prog 36 #[.pointer (some ⟨bo, 0, none⟩), .int .i64 x, .int .i64 y] W fun e W' => e = .returned (.int .i64 l) ∧ Below W.heap.size W W' := by
  have HS := Aside0.mk hs
  clear hs
  go_enter Try.func36, Try.ntmps36
  go_wp2_with (go_at_call 61; (with_reducible refine (spiritlevelref01_Simple.calls 2 x y l true _ HS.out).mono ?_); rintro e w1 ⟨rfl, hd⟩; have HB := Aside0.mk hd.below; clear hd)
  go_ret
  exact ⟨by first | trivial | rfl | simp, HB.out⟩
theorem alloc_drew_ (w : World) (o : Obj) : (w.alloc o).drew = w.drew.alloc o := rfl
set_option maxHeartbeats 8000000 in
set_option maxRecDepth 100000 in
theorem made_more {P : Nat → Prop} {w W : World} {bo : Nat} {ins : Int} {L : List S86} {gs : List S67} {bads cons : List Int} (h : StO P w W bo ins L gs bads cons) (hf : Few ins L gs bads cons) (x y p q : Int) (hp : mx x y = p) (hq : mn x y = q) (hs : spiritlevelref01_Simple.f 2 x y = some (0, false)) :
    Calls Try.prog 36 #[.pointer (some ⟨bo, 0, none⟩), .int .i64 x, .int .i64 y] W fun e W' => ∃ r, e = .returned (.int .i64 r) ∧ ((findG (ins + (L.length : Int) + 1) gs p q = some r ∧ StO P w W' bo ins L gs bads cons) ∨ (findG (ins + (L.length : Int) + 1) gs p q = none ∧ r = 2 * (ins + (L.length : Int) + 1 + (gs.length : Int)) ∧ StO P w W' bo ins L (gs ++ [⟨p, q⟩]) bads cons)) ∧ KeepO bo W W' := by
  obtain ⟨f0, f1, f2, f3, f4, f5⟩ := hf
  have ep : (if x < y then y else x) = p := hp
  have eq : (if y < x then y else x) = q := hq
  have HS := Aside0.mk hs
  have HF := Aside0.mk (show 0 ≤ ins ∧ ins ≤ 1000000 ∧ L.length ≤ 1000000 ∧ gs.length ≤ 1000000 ∧ bads.length ≤ 1000000 ∧ cons.length ≤ 1000000 from ⟨f0, f1, f2, f3, f4, f5⟩)
  have HO := Aside0.mk h
  have hu26 := Try.underlying26
  have hu67 := Try.underlying67
  have hqe := fun (a b c d : Int) (w : World) => eqlAnd a b c d w
  clear hp hq hs h f0 f1 f2 f3 f4 f5
  go_enter Try.func36, Try.ntmps36
  go_upto_block 0 with (go_at_call 61; (with_reducible refine (spiritlevelref01_Simple.calls 2 x y 0 false _ HS.out).mono ?_); rintro e w1 ⟨rfl, hd⟩; have HB := Aside0.mk hd.below; clear hd)
  have HO1 := Aside0.mk (HO.out.below (below_alloc HB.out (.cells #[.int .i64 p, .int .i64 q] 67)))
  have HK1 := Aside0.mk (KeepO.below (bo := bo) (below_alloc HB.out (.cells #[.int .i64 p, .int .i64 q] 67)))
  have HX1 := Aside0.mk (heap_alloc_new w1 (.cells #[.int .i64 p, .int .i64 q] 67))
  have HLT := Aside0.mk HO.out.hb.size
  go_cut [] (fun wx => Aside0 (StO P w wx bo ins L gs bads cons) ∧ Aside0 (wx.heap[w1.heap.size]? = some (.cells #[.int .i64 p, .int .i64 q] 67 (0, 0))) ∧ Aside0 (KeepO bo W wx) ∧ Aside0 (findG (ins + (L.length : Int) + 1) gs p q = none))
  case first =>
    go_wp2
    go_loopg [10] (gs.length + 1) (fun kq v10 w' => ∃ (i : Nat), v10 = .int .i64 (i : Int) ∧ Aside0 (i ≤ gs.length ∧ kq + i = gs.length + 1) ∧ Aside0 (∀ j (hj : j < gs.length), j < i → ¬ ((gs[j]).f0 = p ∧ (gs[j]).f1 = q)) ∧ Aside0 (StO P w w' bo ins L gs bads cons) ∧ Aside0 (w'.heap[w1.heap.size]? = some (.cells #[.int .i64 p, .int .i64 q] 67 (0, 0))) ∧ Aside0 (KeepO bo W w'))
    case atStart => exact ⟨0, by simp, ⟨by omega, by omega⟩, ⟨fun j hj h => absurd h (by omega)⟩, HO1, HX1, HK1⟩
    case round =>
      clear HO HO1 HX1 HK1
      obtain ⟨i, rfl, HI, HN, HO, HX, HK⟩ := hrel
      obtain ⟨AL, cL, AA, cA, AB, cB, AC, cC, k3, -, k5, -, -⟩ := HO.out.cells
      have y0 := (blk_cell k3 0).trans (show _ = some (.int .i64 ins) from rfl)
      have y1 := (blk_cell k3 1).trans (show _ = some (.slice AL L.length cL) from rfl)
      have y2 := (blk_cell k3 2).trans (show _ = some (.slice AA gs.length cA) from rfl)
      have x0 := (blk_cell HX.out 0).trans (show _ = some (.int .i64 p) from rfl)
      have x1 := (blk_cell HX.out 1).trans (show _ = some (.int .i64 q) from rfl)
      by_cases c : i < gs.length
      · have cb : decide (i < gs.length) = true := decide_eq_true c
        have HC := Aside0.mk c
        obtain ⟨ad, rfl, hx0, hy0⟩ := at_T67n (Kd.R_reads' k5).2.2 i c
        have hg : rd_T67 gs (i : Int) = gs[i] := by simp [rd_T67, List.getD, c]
        have p0 : (0 : Int) ≤ (i : Int) := by omega
        have p1 : (i : Int) < (gs.length : Int) := by omega
        have HE := Aside0.mk (show (gs[i]).f0 = (rd_T67 gs (i : Int)).f0 ∧ (gs[i]).f1 = (rd_T67 gs (i : Int)).f1 by rw [hg]; exact ⟨rfl, rfl⟩)
        generalize (rd_T67 gs (i : Int)).f0 = g0 at hx0 HE
        generalize (rd_T67 gs (i : Int)).f1 = g1 at hy0 HE
        have hF := HF.out
        have e1 : wrap64 (ins + (L.length : Int)) = ins + (L.length : Int) := by unfold wrap64; omega
        have e2 : wrap64 (ins + (L.length : Int) + 1) = ins + (L.length : Int) + 1 := by unfold wrap64; omega
        have e3 : wrap64 (ins + (L.length : Int) + 1 + (i : Int)) = ins + (L.length : Int) + 1 + (i : Int) := by unfold wrap64; omega
        have e4 : wrap64 (2 * (ins + (L.length : Int) + 1 + (i : Int))) = 2 * (ins + (L.length : Int) + 1 + (i : Int)) := by unfold wrap64; omega
        clear k3 k5 hg hF
        cases e : (g0 == p && g1 == q) with
        | true =>
          have HQ := Aside0.mk e
          go_wp2
          go_quiet (fail)
          go_wp2
          go_quiet (fail)
          go_wp2
          go_ret
          refine ⟨_, rfl, Or.inl ⟨?_, (by repeat (first | (with_reducible exact HO.out) | (with_reducible refine StO.below ?_ (pw_below_drewN (Below.refl _ _) _)) | (with_reducible refine StO.below ?_ (below_drew (Below.refl _ _)))))⟩, (by repeat (first | (with_reducible exact HK.out) | (with_reducible refine KeepO.trans ?_ (KeepO.below (pw_below_drewN (Below.refl _ _) _))) | (with_reducible refine KeepO.trans ?_ (KeepO.below (below_drew (Below.refl _ _))))))⟩
          have hq := HQ.out
          rw [Bool.and_eq_true, beq_iff_eq, beq_iff_eq] at hq
          have := findG_at (first := ins + (L.length : Int) + 1) (gs := gs) (p := p) (q := q) HC.out ⟨HE.out.1.trans hq.1, HE.out.2.trans hq.2⟩ HN.out
          simpa [e1, e2, e3, e4] using this
        | false =>
          have HQ := Aside0.mk e
          go_wp2
          go_quiet (fail)
          go_wp2
          go_roundg (gk - 1)
          case rel =>
            refine ⟨i + 1, congrArg (Value.int .i64) (show wrap64 ((i : Int) + 1) = ((i + 1 : Nat) : Int) by have h1 := HF.out; have h2 := HC.out; unfold wrap64; omega), ⟨by have := HC.out; omega, by have := HI.out; have := HC.out; omega⟩, ⟨fun j hj hji => ?_⟩, ⟨(by repeat (first | (with_reducible exact HO.out) | (with_reducible refine StO.below ?_ (pw_below_drewN (Below.refl _ _) _)) | (with_reducible refine StO.below ?_ (below_drew (Below.refl _ _)))))⟩, ⟨(by repeat (first | (with_reducible exact HX.out) | (with_reducible refine blk_drewN ?_ _) | (with_reducible refine blk_drew ?_)))⟩, ⟨(by repeat (first | (with_reducible exact HK.out) | (with_reducible refine KeepO.trans ?_ (KeepO.below (pw_below_drewN (Below.refl _ _) _))) | (with_reducible refine KeepO.trans ?_ (KeepO.below (below_drew (Below.refl _ _))))))⟩⟩
            rcases Nat.lt_succ_iff_lt_or_eq.1 hji with h | h
            · exact HN.out j hj h
            · subst h
              rintro ⟨h1, h2⟩
              rw [HE.out.1] at h1
              rw [HE.out.2] at h2
              have := HQ.out
              simp [h1, h2] at this
          case measure => have := HI.out; have := HC.out; omega
      · have cb : decide (i < gs.length) = false := decide_eq_false c
        have HNN := Aside0.mk (findG_none (first := ins + (L.length : Int) + 1) (gs := gs) (p := p) (q := q) (fun j hj => HN.out j hj (by have := HI.out; omega)))
        clear k3 k5 HN HI c
        go_wp2_with fail
        go_meet
        exact ⟨HO, HX, HK, HNN⟩
  case rest =>
    clear HO HO1 HX1 HK1
    obtain ⟨HO, HX, HK, HNN⟩ := hcut
    have hu23 := Try.underlying23
    have hF := HF.out
    have HL := Aside0.mk (show (gs.length + 1) * 16 ≤ 140737488355328 by omega)
    have HSZ := Aside0.mk (show spiritlevelref02_Size.f ins L (gs ++ [⟨p, q⟩]) bads cons = some (ins + (L.length : Int) + 1 + (gs.length : Int)) by
      unfold spiritlevelref02_Size.f
      have h1 : wrap64 (ins + (L.length : Int)) = ins + (L.length : Int) := by unfold wrap64; omega
      have h2 : wrap64 (ins + (L.length : Int) + (((gs ++ [⟨p, q⟩] : List S67).length : Nat) : Int)) = ins + (L.length : Int) + 1 + (gs.length : Int) := by
        rw [List.length_append, List.length_singleton]; unfold wrap64; omega
      rw [h1, h2])
    have e4 : wrap64 (2 * (ins + (L.length : Int) + 1 + (gs.length : Int))) = 2 * (ins + (L.length : Int) + 1 + (gs.length : Int)) := by unfold wrap64; omega
    clear hF
    go_upto_region 10 with fail
    go_cut [] (fun wx => Aside0 (StO P w wx bo ins L (gs ++ [⟨p, q⟩]) bads cons) ∧ Aside0 (KeepO bo W wx))
    case first =>
      have HO2 := Aside0.mk (HO.out.below (below_drew (Below.refl _ _)))
      obtain ⟨AL, cL, AA, cA, AB, cB, AC, cC, k3, -, k5, -, -⟩ := HO.out.cells
      have z2 := (blk_cell k3 2).trans (show _ = some (.slice AA gs.length cA) from rfl)
      have z2b := (blk_cell (blk_alloc k3 (.cells #[.int .i64 p, .int .i64 q] 67)) 2).trans (show _ = some (.slice AA gs.length cA) from rfl)
      have z2a := (blk_cell (blk_alloc (blk_drew k3) (.cells #[.int .i64 p, .int .i64 q] 67)) 2).trans (show _ = some (.slice AA gs.length cA) from rfl)
      have x0 := (blk_cell HX.out 0).trans (show _ = some (.int .i64 p) from rfl)
      have x1 := (blk_cell HX.out 1).trans (show _ = some (.int .i64 q) from rfl)
      have K5 := Aside0.mk (Kd.R_below k5 (below_drew (Below.refl _ _)))
      clear k3 k5
      go_region_law (go_loud ((try rw [alloc_drew_]); refine Kd.R_append_step k67 (w0 := w) (W := wc.drew) w.heap.size (by rfl) (.tmp 62) (.tmp 64) 23 67 _ 16 rfl hu23 info67 rfl (by decide) (by decide) (.slice AA gs.length cA) gs ⟨p, q⟩ [.int .i64 p, .int .i64 q] (fun _ => True) (fun _ => False) rfl (congrArg (fun n_ => Value.slice (some ⟨n_, 0, none⟩) 1 1) (show wc.heap.size = wc.drew.heap.size from rfl)) (k67_mkM _ _ _ ⟨p, q⟩) (fun _ hk => hk.elim) (fun _ _ => trivial) K5.out HO2.out.hb HO2.out.hb.size HL.out ?_; intro v1 w5 hr hb1 hg hat; clear hat; have HP := Aside0.mk (StO.push HO2.out rfl (show wc.drew.cell? ⟨bo, 2, none⟩ = some (.slice AA gs.length cA) from z2) hb1 hg hr); obtain ⟨A2, c2, e2⟩ := Kd.R_slice hr; have hm2 : (gs ++ [⟨p, q⟩] : List S67).length = gs.length + 1 := (by simp); rw [hm2] at e2; subst e2; clear hm2 hr hb1 hg; obtain ⟨u1, hq1⟩ := StK.pushed HP.out.2.2; have hq2 := StK.pushed2 HP.out.2.2; have HSY := Aside0.mk HP.out.1; have HKY := Aside0.mk (HK.out.trans ((KeepO.below (below_drew (Below.refl _ _))).trans HP.out.2.1)); clear HP))
      all_goals (go_wp2_with fail; go_meet; exact ⟨HSY, HKY⟩)
    case rest =>
      clear HO HX HK
      obtain ⟨HO, HK⟩ := hcut
      obtain ⟨G, HGe⟩ : ∃ G : List S67, Aside0 (G = gs ++ [⟨p, q⟩]) := ⟨_, ⟨rfl⟩⟩
      rw [← HGe.out] at HO HSZ
      obtain ⟨AL, cL, AA, cA, AB, cB, AC, cC, k3, k4, k5, k6, k7⟩ := HO.out.cells
      have y0 := (blk_cell k3 0).trans (show _ = some (.int .i64 ins) from rfl)
      have y1 := (blk_cell k3 1).trans (show _ = some (.slice AL L.length cL) from rfl)
      have y2 := (blk_cell k3 2).trans (show _ = some (.slice AA G.length cA) from rfl)
      have y3 := (blk_cell k3 3).trans (show _ = some (.slice AB bads.length cB) from rfl)
      have y4 := (blk_cell k3 4).trans (show _ = some (.slice AC cons.length cC) from rfl)
      have R4 := Aside0.mk (Kd.R_reads' k4).2
      have R5 := Aside0.mk (Kd.R_reads' k5).2
      have R6 := Aside0.mk (Kd.R_reads' k6).2
      have R7 := Aside0.mk (Kd.R_reads' k7).2
      clear k3 k4 k5 k6 k7
      go_wp2_with (go_at_call 35; (with_reducible refine (spiritlevelref02_Size.calls ins _ _ L _ _ G _ _ bads _ _ cons _ _ ?side1 ?side2 ?side3 ?side4 ?side5 ?side6 ?side7 ?side8 HSZ.out).mono ?_); (case side1 => repeat (first | (with_reducible exact R4.out.2) | (with_reducible refine Kd.C_alloc ?_ _) | (with_reducible refine Kd.C_drewN ?_ _) | (with_reducible refine Kd.C_drew ?_))); (case side2 => exact R4.out.1); (case side3 => repeat (first | (with_reducible exact R5.out.2) | (with_reducible refine Kd.C_alloc ?_ _) | (with_reducible refine Kd.C_drewN ?_ _) | (with_reducible refine Kd.C_drew ?_))); (case side4 => exact R5.out.1); (case side5 => repeat (first | (with_reducible exact R6.out.2) | (with_reducible refine Kd.C_alloc ?_ _) | (with_reducible refine Kd.C_drewN ?_ _) | (with_reducible refine Kd.C_drew ?_))); (case side6 => exact R6.out.1); (case side7 => repeat (first | (with_reducible exact R7.out.2) | (with_reducible refine Kd.C_alloc ?_ _) | (with_reducible refine Kd.C_drewN ?_ _) | (with_reducible refine Kd.C_drew ?_))); (case side8 => exact R7.out.1); rintro e w6 ⟨rfl, hb⟩; have HO6 := Aside0.mk (StO.below (by repeat (first | (with_reducible exact HO.out) | (with_reducible refine StO.below ?_ (pw_below_drewN (Below.refl _ _) _)) | (with_reducible refine StO.below ?_ (below_drew (Below.refl _ _))))) hb); have HK6 := Aside0.mk (KeepO.trans (by repeat (first | (with_reducible exact HK.out) | (with_reducible refine KeepO.trans ?_ (KeepO.below (pw_below_drewN (Below.refl _ _) _))) | (with_reducible refine KeepO.trans ?_ (KeepO.below (below_drew (Below.refl _ _)))))) (KeepO.below hb)); clear hb)
      simp only [e4]
      go_ret
      exact ⟨_, rfl, Or.inr ⟨HNN.out, by first | rfl | trivial | simp, by rw [← HGe.out]; exact HO6.out⟩, HK6.out⟩
theorem twin_ok (a0_0 : Int) (l0_1 : List S86) (l0_2 : List S67) (l0_3 l0_4 : List Int) (h1 : l0_1.length ≤ 1000000) (h2 : l0_2.length ≤ 1000000) (h3 : l0_3.length ≤ 1000000) (h4 : l0_4.length ≤ 1000000) : spiritlevelref02_Twin.f a0_0 l0_1 l0_2 l0_3 l0_4 = some (a0_0, l0_1, l0_2, l0_3, l0_4) := by
  have e1 : l0_1.length < 8796093022208 := by omega
  have e2 : l0_2.length < 8796093022208 := by omega
  have e3 : l0_3.length < 17592186044416 := by omega
  have e4 : l0_4.length < 17592186044416 := by omega
  simp [spiritlevelref02_Twin.f, e1, e2, e3, e4]
theorem made_calls {P : Nat → Prop} {w W : World} {bo : Nat} {ins : Int} {L : List S86} {gs : List S67} {bads cons : List Int} (h : StO P w W bo ins L gs bads cons) (hf : Few ins L gs bads cons) (x y : Int) (x0 : 0 ≤ x) (x1 : x ≤ 100000000) (y0 : 0 ≤ y) (y1 : y ≤ 100000000) :
    Calls Try.prog 36 #[.pointer (some ⟨bo, 0, none⟩), .int .i64 x, .int .i64 y] W fun e W' => e = .returned (.int .i64 (andP (ins + (L.length : Int) + 1) gs x y).2) ∧ StO P w W' bo ins L (andP (ins + (L.length : Int) + 1) gs x y).1 bads cons ∧ KeepO bo W W' := by
  by_cases hc : x = 0 ∨ y = 0 ∨ x = Go.bits .xor .i64 y 1 ∨ x = 1 ∨ x = y ∨ y = 1
  · obtain ⟨hs, he⟩ := simple_true (first := ins + (L.length : Int) + 1) (gs := gs) x0 x1 y0 y1 hc
    refine (made_simple (w := w) x y _ hs).mono ?_
    rintro e W' ⟨rfl, hb⟩
    rw [he]
    exact ⟨rfl, h.below hb, KeepO.below hb⟩
  · refine (made_more h hf x y _ _ rfl rfl (simple_false x0 x1 y0 y1 hc)).mono ?_
    rintro e W' ⟨r, rfl, hr, hk⟩
    have ea : andP (ins + (L.length : Int) + 1) gs x y = (match findG (ins + (L.length : Int) + 1) gs (mx x y) (mn x y) with | some l => (gs, l) | none => (gs ++ [⟨mx x y, mn x y⟩], 2 * (ins + (L.length : Int) + 1 + (gs.length : Int)))) := by
      unfold andP
      rw [if_neg (fun h => hc (by rcases h with h | h | h <;> simp [h])), if_neg (fun h => hc (by rcases h with h | h <;> simp [h])), if_neg (fun h => hc (by simp [h]))]
      rfl
    rw [ea]
    rcases hr with ⟨hf, hs⟩ | ⟨hf, rfl, hs⟩
    · rw [hf]; exact ⟨rfl, hs, hk⟩
    · rw [hf]; exact ⟨rfl, hs, hk⟩

/-! ### spiritlevelref26_Gate: function 10, by hand -/
-- spiritlevelref26_Made.dep
def spiritlevelref26_Gate.f (k : Nat) (a0_0 : Int) (l0_1 : List S86) (l0_2 : List S67) (l0_3 : List Int) (l0_4 : List Int) (a1 : Int) (a2 : Int) : Option (Int × (List (S86)) × (List (S67)) × List Int × List Int × Int × Int) :=
  (spiritlevelref02_Check.f k a0_0 l0_1 l0_2 l0_3 l0_4).bind fun e => if e = 0 then
    (if okH a0_0 l0_1 l0_2 l0_3 l0_4 = true ∧ a1 ≤ 9223372036854775807 ∧ a2 ≤ 9223372036854775807 then
      (if a1 < 0 ∨ wrap64 (Int.tdiv a1 2) > a0_0 + (l0_1.length : Int) + (l0_2.length : Int) ∨ a2 < 0 ∨ wrap64 (Int.tdiv a2 2) > a0_0 + (l0_1.length : Int) + (l0_2.length : Int) then some (0, [], [], [], [], 0, 2)
       else if a0_0 + (l0_1.length : Int) + ((andP (a0_0 + (l0_1.length : Int) + 1) l0_2 a1 a2).1.length : Int) > 1000 then some (0, [], [], [], [], 0, 4)
         else some (a0_0, l0_1, (andP (a0_0 + (l0_1.length : Int) + 1) l0_2 a1 a2).1, l0_3, l0_4, (andP (a0_0 + (l0_1.length : Int) + 1) l0_2 a1 a2).2, 0)) else none)
    else some (0, [], [], [], [], 0, e)
theorem spiritlevelref26_Gate.mono : ∀ a0 a1 a2 a3 a4 a5 a6 k, LeO (spiritlevelref26_Gate.f k a0 a1 a2 a3 a4 a5 a6) (spiritlevelref26_Gate.f (k + 1) a0 a1 a2 a3 a4 a5 a6) := by
  intro a0 a1 a2 a3 a4 a5 a6 k r h
  unfold spiritlevelref26_Gate.f at h ⊢
  obtain ⟨e, he, h⟩ := Option.bind_eq_some_iff.mp h
  rw [spiritlevelref02_Check.mono _ _ _ _ _ _ _ he]
  exact h
theorem StO.born {w W : World} {ins : Int} {L : List S86} {gs : List S67} {bads cons : List Int} {v1 v2 v3 v4 : Value} (hb : Below w.heap.size w W) (h4 : Kd.R k86 86 W w.heap.size (fun _ => True) v1 L) (h5 : Kd.R k67 67 W w.heap.size (fun _ => True) v2 gs) (h6 : Kd.R (Kd.int .i64) 3 W w.heap.size (fun k_ => some k_ ≠ (v4 : Value).ownBlock) v3 bads) (h7 : Kd.R (Kd.int .i64) 3 W w.heap.size (fun k_ => some k_ ≠ (v3 : Value).ownBlock) v4 cons) :
    StO (fun _ => True) w (W.alloc (.cells #[.int .i64 ins, v1, v2, v3, v4] 26)) W.heap.size ins L gs bads cons :=
  ⟨below_alloc hb _, hb.size, ⟨v1, v2, v3, v4, heap_alloc_new _ _, Kd.R_alloc h4 _, Kd.R_alloc h5 _, Kd.R_mono (Kd.R_alloc h6 _) (fun _ h => ⟨h, trivial⟩), Kd.R_mono (Kd.R_alloc h7 _) (fun _ h => ⟨h, trivial⟩)⟩⟩
set_option maxHeartbeats 8000000 in
set_option maxRecDepth 100000 in
theorem spiritlevelref26_Gate.calls (k : Nat) (a0_0 : Int) (A0_1 : Option Addr) (c0_1 : Nat) (l0_1 : List S86) (A0_2 : Option Addr) (c0_2 : Nat) (l0_2 : List S67) (A0_3 : Option Addr) (c0_3 : Nat) (l0_3 : List Int) (A0_4 : Option Addr) (c0_4 : Nat) (l0_4 : List Int) (a1 : Int) (a2 : Int) (r1 : Int) (r2 : List (S86)) (r3 : List (S67)) (r4 : List Int) (r5 : List Int) (r6 : Int) (r7 : Int) (w : World) (hr0_1 : Kd.C k86 w A0_1 l0_1.length l0_1) (hc0_1 : l0_1.length ≤ c0_1) (hr0_2 : Kd.C k67 w A0_2 l0_2.length l0_2) (hc0_2 : l0_2.length ≤ c0_2) (hr0_3 : Kd.C (Kd.int .i64) w A0_3 l0_3.length l0_3) (hc0_3 : l0_3.length ≤ c0_3) (hr0_4 : Kd.C (Kd.int .i64) w A0_4 l0_4.length l0_4) (hc0_4 : l0_4.length ≤ c0_4) (h : spiritlevelref26_Gate.f k a0_0 l0_1 l0_2 l0_3 l0_4 a1 a2 = some (r1, r2, r3, r4, r5, r6, r7)) :
    Calls Try.prog 10 #[.agg #[.int .i64 a0_0, .slice A0_1 l0_1.length c0_1, .slice A0_2 l0_2.length c0_2, .slice A0_3 l0_3.length c0_3, .slice A0_4 l0_4.length c0_4], .int .i64 a1, .int .i64 a2] w fun e w' => ∃ v1_ v2_ v3_ v4_ : Value, e = .returned (.tuple #[.agg #[.int .i64 r1, v1_, v2_, v3_, v4_], .int .i64 r6, .int .i64 r7]) ∧ Kd.R k86 86 w' w.heap.size (fun _ => True) v1_ r2 ∧ Kd.R k67 67 w' w.heap.size (fun _ => True) v2_ r3 ∧ Kd.R (Kd.int .i64) 3 w' w.heap.size (fun k_ => some k_ ≠ (v4_ : Value).ownBlock) v3_ r4 ∧ Kd.R (Kd.int .i64) 3 w' w.heap.size (fun k_ => some k_ ≠ (v3_ : Value).ownBlock) v4_ r5 ∧ Below w.heap.size w w' := by
  have hu26 := Try.underlying26
  have HR0_1 := Aside0.mk hr0_1
  have HR0_2 := Aside0.mk hr0_2
  have HR0_3 := Aside0.mk hr0_3
  have HR0_4 := Aside0.mk hr0_4
  have HC0_1 := Aside0.mk hc0_1
  have HC0_2 := Aside0.mk hc0_2
  have HC0_3 := Aside0.mk hc0_3
  have HC0_4 := Aside0.mk hc0_4
  clear hr0_1 hr0_2 hr0_3 hr0_4 hc0_1 hc0_2 hc0_3 hc0_4
  unfold spiritlevelref26_Gate.f at h
  obtain ⟨e0, hv, h⟩ := Option.bind_eq_some_iff.mp h
  have HV := Aside0.mk hv
  clear hv
  have HB0 := Aside0.mk (below_alloc (below_alloc (Below.refl w.heap.size w) (.cells #[.int .i64 a0_0, .slice A0_1 l0_1.length c0_1, .slice A0_2 l0_2.length c0_2, .slice A0_3 l0_3.length c0_3, .slice A0_4 l0_4.length c0_4] 26)) (.cells #[.int .i64 0, .slice none 0 0, .slice none 0 0, .slice none 0 0, .slice none 0 0] 26))
  have BC0 := Aside0.mk (blk_alloc (heap_alloc_new w (.cells #[.int .i64 a0_0, .slice A0_1 l0_1.length c0_1, .slice A0_2 l0_2.length c0_2, .slice A0_3 l0_3.length c0_3, .slice A0_4 l0_4.length c0_4] 26)) (.cells #[.int .i64 0, .slice none 0 0, .slice none 0 0, .slice none 0 0, .slice none 0 0] 26))
  have BZ0 := Aside0.mk (zbox w #[.int .i64 a0_0, .slice A0_1 l0_1.length c0_1, .slice A0_2 l0_2.length c0_2, .slice A0_3 l0_3.length c0_3, .slice A0_4 l0_4.length c0_4])
  by_cases c : e0 = 0
  · rw [if_pos c] at h
    subst c
    by_cases c2 : okH a0_0 l0_1 l0_2 l0_3 l0_4 = true ∧ a1 ≤ 9223372036854775807 ∧ a2 ≤ 9223372036854775807
    · rw [if_pos c2] at h
      obtain ⟨ok, m1, m2⟩ := c2
      unfold okH at ok
      rw [Bool.and_eq_true, decide_eq_true_eq, List.all_eq_true] at ok
      obtain ⟨⟨k0, k1, k2, k3, k4, k5⟩, kg⟩ := ok
      have HT := Aside0.mk (twin_ok a0_0 l0_1 l0_2 l0_3 l0_4 (by omega) (by omega) (by omega) (by omega))
      have HZ := Aside0.mk (show spiritlevelref02_Size.f a0_0 l0_1 l0_2 l0_3 l0_4 = some (a0_0 + (l0_1.length : Int) + (l0_2.length : Int)) by
        unfold spiritlevelref02_Size.f
        have h1 : wrap64 (a0_0 + (l0_1.length : Int)) = a0_0 + (l0_1.length : Int) := by unfold wrap64; omega
        have h2 : wrap64 (a0_0 + (l0_1.length : Int) + (l0_2.length : Int)) = a0_0 + (l0_1.length : Int) + (l0_2.length : Int) := by unfold wrap64; omega
        rw [h1, h2])
      have HF := Aside0.mk (show Few a0_0 l0_1 l0_2 l0_3 l0_4 from ⟨k0, by omega, by omega, by omega, by omega, by omega⟩)
      have HF2 := Aside0.mk (show Few a0_0 l0_1 (andP (a0_0 + (l0_1.length : Int) + 1) l0_2 a1 a2).1 l0_3 l0_4 from ⟨k0, by omega, by omega, by have := andP_len (a0_0 + (l0_1.length : Int) + 1) l0_2 a1 a2; omega, by omega, by omega⟩)
      have HK5 := Aside0.mk (And.intro k0 (And.intro k1 (And.intro k2 (And.intro k3 (And.intro m1 m2)))))
      clear k0 k1 k2 k3 k4 k5 kg m1 m2
      by_cases c1 : a1 < 0 ∨ wrap64 (Int.tdiv a1 2) > a0_0 + (l0_1.length : Int) + (l0_2.length : Int) ∨ a2 < 0 ∨ wrap64 (Int.tdiv a2 2) > a0_0 + (l0_1.length : Int) + (l0_2.length : Int)
      · rw [if_pos c1] at h
        simp only [Option.some.injEq, Prod.mk.injEq] at h
        obtain ⟨rfl, rfl, rfl, rfl, rfl, rfl, rfl⟩ := h
        by_cases d0 : a1 < 0
        · have b0 : decide (a1 < 0) = true := decide_eq_true d0
          clear c1 d0
          go_enter Try.func10, Try.ntmps10
          go_wp2_with (first
            | (go_at_call 34; (with_reducible refine (spiritlevelref02_Check.calls k a0_0 A0_1 c0_1 l0_1 A0_2 c0_2 l0_2 A0_3 c0_3 l0_3 A0_4 c0_4 l0_4 _ _ (Kd.C_below HR0_1.out HB0.out) HC0_1.out (Kd.C_below HR0_2.out HB0.out) HC0_2.out (Kd.C_below HR0_3.out HB0.out) HC0_3.out (Kd.C_below HR0_4.out HB0.out) HC0_4.out HV.out).mono ?_); rintro e w1 ⟨rfl, hb⟩; have HBa := Aside0.mk (below_step HB0.out hb); have BCa := Aside0.mk (blk_below BC0.out hb); have BZa := Aside0.mk (blk_below BZ0.out hb); clear hb; have za0 := (blk_cell BZa.out 0).trans (show _ = some (.int .i64 0) from rfl); have fza0 := blk_frozen BZa.out 0; have za1 := (blk_cell BZa.out 1).trans (show _ = some (.slice none 0 0) from rfl); have fza1 := blk_frozen BZa.out 1; have za2 := (blk_cell BZa.out 2).trans (show _ = some (.slice none 0 0) from rfl); have fza2 := blk_frozen BZa.out 2; have za3 := (blk_cell BZa.out 3).trans (show _ = some (.slice none 0 0) from rfl); have fza3 := blk_frozen BZa.out 3; have za4 := (blk_cell BZa.out 4).trans (show _ = some (.slice none 0 0) from rfl); have fza4 := blk_frozen BZa.out 4; have xa0 := (blk_cell BCa.out 0).trans (show _ = some (.int .i64 a0_0) from rfl); have fxa0 := blk_frozen BCa.out 0; have xa1 := (blk_cell BCa.out 1).trans (show _ = some (.slice A0_1 l0_1.length c0_1) from rfl); have fxa1 := blk_frozen BCa.out 1; have xa2 := (blk_cell BCa.out 2).trans (show _ = some (.slice A0_2 l0_2.length c0_2) from rfl); have fxa2 := blk_frozen BCa.out 2; have xa3 := (blk_cell BCa.out 3).trans (show _ = some (.slice A0_3 l0_3.length c0_3) from rfl); have fxa3 := blk_frozen BCa.out 3; have xa4 := (blk_cell BCa.out 4).trans (show _ = some (.slice A0_4 l0_4.length c0_4) from rfl); have fxa4 := blk_frozen BCa.out 4)
            | (go_at_call 35; (with_reducible refine (spiritlevelref02_Size.calls a0_0 A0_1 c0_1 l0_1 A0_2 c0_2 l0_2 A0_3 c0_3 l0_3 A0_4 c0_4 l0_4 _ _ (Kd.C_below HR0_1.out HBa.out) HC0_1.out (Kd.C_below HR0_2.out HBa.out) HC0_2.out (Kd.C_below HR0_3.out HBa.out) HC0_3.out (Kd.C_below HR0_4.out HBa.out) HC0_4.out HZ.out).mono ?_); rintro e w2 ⟨rfl, hb⟩; have HBb := Aside0.mk (below_step HBa.out hb); have BCb := Aside0.mk (blk_below BCa.out hb); have BZb := Aside0.mk (blk_below BZa.out hb); clear hb; have zb0 := (blk_cell BZb.out 0).trans (show _ = some (.int .i64 0) from rfl); have fzb0 := blk_frozen BZb.out 0; have zb1 := (blk_cell BZb.out 1).trans (show _ = some (.slice none 0 0) from rfl); have fzb1 := blk_frozen BZb.out 1; have zb2 := (blk_cell BZb.out 2).trans (show _ = some (.slice none 0 0) from rfl); have fzb2 := blk_frozen BZb.out 2; have zb3 := (blk_cell BZb.out 3).trans (show _ = some (.slice none 0 0) from rfl); have fzb3 := blk_frozen BZb.out 3; have zb4 := (blk_cell BZb.out 4).trans (show _ = some (.slice none 0 0) from rfl); have fzb4 := blk_frozen BZb.out 4; have xb0 := (blk_cell BCb.out 0).trans (show _ = some (.int .i64 a0_0) from rfl); have fxb0 := blk_frozen BCb.out 0; have xb1 := (blk_cell BCb.out 1).trans (show _ = some (.slice A0_1 l0_1.length c0_1) from rfl); have fxb1 := blk_frozen BCb.out 1; have xb2 := (blk_cell BCb.out 2).trans (show _ = some (.slice A0_2 l0_2.length c0_2) from rfl); have fxb2 := blk_frozen BCb.out 2; have xb3 := (blk_cell BCb.out 3).trans (show _ = some (.slice A0_3 l0_3.length c0_3) from rfl); have fxb3 := blk_frozen BCb.out 3; have xb4 := (blk_cell BCb.out 4).trans (show _ = some (.slice A0_4 l0_4.length c0_4) from rfl); have fxb4 := blk_frozen BCb.out 4))
          refine bodyPost_ret (results_list (rs := [.cell 6 26, .tmp 7, .tmp 8]) rfl (by simp) (.cell (w.heap.size + 1) 26 #[.int .i64 0, .slice none 0 0, .slice none 0 0, .slice none 0 0, .slice none 0 0] (0, 0) _ rfl (put5_blk _ _ _ _ _ BZb.out) Try.underlying26 rfl (by kernel_rfl) (.tmp (.tmp .nil)))) rfl ?_
          exact ⟨_, _, _, _, rfl, Kd.R_nil _ _ _ _ _, Kd.R_nil _ _ _ _ _, Kd.R_nil _ _ _ _ _, Kd.R_nil _ _ _ _ _, put5_below _ _ _ _ _ HBb.out (Nat.le_succ _)⟩
        · have b0 : decide (a1 < 0) = false := decide_eq_false d0
          by_cases d1 : (a0_0 + (l0_1.length : Int) + (l0_2.length : Int)) < wrap64 (Int.tdiv a1 2)
          · have b1 : decide ((a0_0 + (l0_1.length : Int) + (l0_2.length : Int)) < wrap64 (Int.tdiv a1 2)) = true := decide_eq_true d1
            clear c1 d1 d0
            go_enter Try.func10, Try.ntmps10
            go_wp2_with (first
            | (go_at_call 34; (with_reducible refine (spiritlevelref02_Check.calls k a0_0 A0_1 c0_1 l0_1 A0_2 c0_2 l0_2 A0_3 c0_3 l0_3 A0_4 c0_4 l0_4 _ _ (Kd.C_below HR0_1.out HB0.out) HC0_1.out (Kd.C_below HR0_2.out HB0.out) HC0_2.out (Kd.C_below HR0_3.out HB0.out) HC0_3.out (Kd.C_below HR0_4.out HB0.out) HC0_4.out HV.out).mono ?_); rintro e w1 ⟨rfl, hb⟩; have HBa := Aside0.mk (below_step HB0.out hb); have BCa := Aside0.mk (blk_below BC0.out hb); have BZa := Aside0.mk (blk_below BZ0.out hb); clear hb; have za0 := (blk_cell BZa.out 0).trans (show _ = some (.int .i64 0) from rfl); have fza0 := blk_frozen BZa.out 0; have za1 := (blk_cell BZa.out 1).trans (show _ = some (.slice none 0 0) from rfl); have fza1 := blk_frozen BZa.out 1; have za2 := (blk_cell BZa.out 2).trans (show _ = some (.slice none 0 0) from rfl); have fza2 := blk_frozen BZa.out 2; have za3 := (blk_cell BZa.out 3).trans (show _ = some (.slice none 0 0) from rfl); have fza3 := blk_frozen BZa.out 3; have za4 := (blk_cell BZa.out 4).trans (show _ = some (.slice none 0 0) from rfl); have fza4 := blk_frozen BZa.out 4; have xa0 := (blk_cell BCa.out 0).trans (show _ = some (.int .i64 a0_0) from rfl); have fxa0 := blk_frozen BCa.out 0; have xa1 := (blk_cell BCa.out 1).trans (show _ = some (.slice A0_1 l0_1.length c0_1) from rfl); have fxa1 := blk_frozen BCa.out 1; have xa2 := (blk_cell BCa.out 2).trans (show _ = some (.slice A0_2 l0_2.length c0_2) from rfl); have fxa2 := blk_frozen BCa.out 2; have xa3 := (blk_cell BCa.out 3).trans (show _ = some (.slice A0_3 l0_3.length c0_3) from rfl); have fxa3 := blk_frozen BCa.out 3; have xa4 := (blk_cell BCa.out 4).trans (show _ = some (.slice A0_4 l0_4.length c0_4) from rfl); have fxa4 := blk_frozen BCa.out 4)
            | (go_at_call 35; (with_reducible refine (spiritlevelref02_Size.calls a0_0 A0_1 c0_1 l0_1 A0_2 c0_2 l0_2 A0_3 c0_3 l0_3 A0_4 c0_4 l0_4 _ _ (Kd.C_below HR0_1.out HBa.out) HC0_1.out (Kd.C_below HR0_2.out HBa.out) HC0_2.out (Kd.C_below HR0_3.out HBa.out) HC0_3.out (Kd.C_below HR0_4.out HBa.out) HC0_4.out HZ.out).mono ?_); rintro e w2 ⟨rfl, hb⟩; have HBb := Aside0.mk (below_step HBa.out hb); have BCb := Aside0.mk (blk_below BCa.out hb); have BZb := Aside0.mk (blk_below BZa.out hb); clear hb; have zb0 := (blk_cell BZb.out 0).trans (show _ = some (.int .i64 0) from rfl); have fzb0 := blk_frozen BZb.out 0; have zb1 := (blk_cell BZb.out 1).trans (show _ = some (.slice none 0 0) from rfl); have fzb1 := blk_frozen BZb.out 1; have zb2 := (blk_cell BZb.out 2).trans (show _ = some (.slice none 0 0) from rfl); have fzb2 := blk_frozen BZb.out 2; have zb3 := (blk_cell BZb.out 3).trans (show _ = some (.slice none 0 0) from rfl); have fzb3 := blk_frozen BZb.out 3; have zb4 := (blk_cell BZb.out 4).trans (show _ = some (.slice none 0 0) from rfl); have fzb4 := blk_frozen BZb.out 4; have xb0 := (blk_cell BCb.out 0).trans (show _ = some (.int .i64 a0_0) from rfl); have fxb0 := blk_frozen BCb.out 0; have xb1 := (blk_cell BCb.out 1).trans (show _ = some (.slice A0_1 l0_1.length c0_1) from rfl); have fxb1 := blk_frozen BCb.out 1; have xb2 := (blk_cell BCb.out 2).trans (show _ = some (.slice A0_2 l0_2.length c0_2) from rfl); have fxb2 := blk_frozen BCb.out 2; have xb3 := (blk_cell BCb.out 3).trans (show _ = some (.slice A0_3 l0_3.length c0_3) from rfl); have fxb3 := blk_frozen BCb.out 3; have xb4 := (blk_cell BCb.out 4).trans (show _ = some (.slice A0_4 l0_4.length c0_4) from rfl); have fxb4 := blk_frozen BCb.out 4))
            refine bodyPost_ret (results_list (rs := [.cell 6 26, .tmp 7, .tmp 8]) rfl (by simp) (.cell (w.heap.size + 1) 26 #[.int .i64 0, .slice none 0 0, .slice none 0 0, .slice none 0 0, .slice none 0 0] (0, 0) _ rfl (put5_blk _ _ _ _ _ BZb.out) Try.underlying26 rfl (by kernel_rfl) (.tmp (.tmp .nil)))) rfl ?_
            exact ⟨_, _, _, _, rfl, Kd.R_nil _ _ _ _ _, Kd.R_nil _ _ _ _ _, Kd.R_nil _ _ _ _ _, Kd.R_nil _ _ _ _ _, put5_below _ _ _ _ _ HBb.out (Nat.le_succ _)⟩
          · have b1 : decide ((a0_0 + (l0_1.length : Int) + (l0_2.length : Int)) < wrap64 (Int.tdiv a1 2)) = false := decide_eq_false d1
            by_cases d2 : a2 < 0
            · have b2 : decide (a2 < 0) = true := decide_eq_true d2
              clear c1 d2 d0 d1
              go_enter Try.func10, Try.ntmps10
              go_wp2_with (first
            | (go_at_call 34; (with_reducible refine (spiritlevelref02_Check.calls k a0_0 A0_1 c0_1 l0_1 A0_2 c0_2 l0_2 A0_3 c0_3 l0_3 A0_4 c0_4 l0_4 _ _ (Kd.C_below HR0_1.out HB0.out) HC0_1.out (Kd.C_below HR0_2.out HB0.out) HC0_2.out (Kd.C_below HR0_3.out HB0.out) HC0_3.out (Kd.C_below HR0_4.out HB0.out) HC0_4.out HV.out).mono ?_); rintro e w1 ⟨rfl, hb⟩; have HBa := Aside0.mk (below_step HB0.out hb); have BCa := Aside0.mk (blk_below BC0.out hb); have BZa := Aside0.mk (blk_below BZ0.out hb); clear hb; have za0 := (blk_cell BZa.out 0).trans (show _ = some (.int .i64 0) from rfl); have fza0 := blk_frozen BZa.out 0; have za1 := (blk_cell BZa.out 1).trans (show _ = some (.slice none 0 0) from rfl); have fza1 := blk_frozen BZa.out 1; have za2 := (blk_cell BZa.out 2).trans (show _ = some (.slice none 0 0) from rfl); have fza2 := blk_frozen BZa.out 2; have za3 := (blk_cell BZa.out 3).trans (show _ = some (.slice none 0 0) from rfl); have fza3 := blk_frozen BZa.out 3; have za4 := (blk_cell BZa.out 4).trans (show _ = some (.slice none 0 0) from rfl); have fza4 := blk_frozen BZa.out 4; have xa0 := (blk_cell BCa.out 0).trans (show _ = some (.int .i64 a0_0) from rfl); have fxa0 := blk_frozen BCa.out 0; have xa1 := (blk_cell BCa.out 1).trans (show _ = some (.slice A0_1 l0_1.length c0_1) from rfl); have fxa1 := blk_frozen BCa.out 1; have xa2 := (blk_cell BCa.out 2).trans (show _ = some (.slice A0_2 l0_2.length c0_2) from rfl); have fxa2 := blk_frozen BCa.out 2; have xa3 := (blk_cell BCa.out 3).trans (show _ = some (.slice A0_3 l0_3.length c0_3) from rfl); have fxa3 := blk_frozen BCa.out 3; have xa4 := (blk_cell BCa.out 4).trans (show _ = some (.slice A0_4 l0_4.length c0_4) from rfl); have fxa4 := blk_frozen BCa.out 4)
            | (go_at_call 35; (with_reducible refine (spiritlevelref02_Size.calls a0_0 A0_1 c0_1 l0_1 A0_2 c0_2 l0_2 A0_3 c0_3 l0_3 A0_4 c0_4 l0_4 _ _ (Kd.C_below HR0_1.out HBa.out) HC0_1.out (Kd.C_below HR0_2.out HBa.out) HC0_2.out (Kd.C_below HR0_3.out HBa.out) HC0_3.out (Kd.C_below HR0_4.out HBa.out) HC0_4.out HZ.out).mono ?_); rintro e w2 ⟨rfl, hb⟩; have HBb := Aside0.mk (below_step HBa.out hb); have BCb := Aside0.mk (blk_below BCa.out hb); have BZb := Aside0.mk (blk_below BZa.out hb); clear hb; have zb0 := (blk_cell BZb.out 0).trans (show _ = some (.int .i64 0) from rfl); have fzb0 := blk_frozen BZb.out 0; have zb1 := (blk_cell BZb.out 1).trans (show _ = some (.slice none 0 0) from rfl); have fzb1 := blk_frozen BZb.out 1; have zb2 := (blk_cell BZb.out 2).trans (show _ = some (.slice none 0 0) from rfl); have fzb2 := blk_frozen BZb.out 2; have zb3 := (blk_cell BZb.out 3).trans (show _ = some (.slice none 0 0) from rfl); have fzb3 := blk_frozen BZb.out 3; have zb4 := (blk_cell BZb.out 4).trans (show _ = some (.slice none 0 0) from rfl); have fzb4 := blk_frozen BZb.out 4; have xb0 := (blk_cell BCb.out 0).trans (show _ = some (.int .i64 a0_0) from rfl); have fxb0 := blk_frozen BCb.out 0; have xb1 := (blk_cell BCb.out 1).trans (show _ = some (.slice A0_1 l0_1.length c0_1) from rfl); have fxb1 := blk_frozen BCb.out 1; have xb2 := (blk_cell BCb.out 2).trans (show _ = some (.slice A0_2 l0_2.length c0_2) from rfl); have fxb2 := blk_frozen BCb.out 2; have xb3 := (blk_cell BCb.out 3).trans (show _ = some (.slice A0_3 l0_3.length c0_3) from rfl); have fxb3 := blk_frozen BCb.out 3; have xb4 := (blk_cell BCb.out 4).trans (show _ = some (.slice A0_4 l0_4.length c0_4) from rfl); have fxb4 := blk_frozen BCb.out 4))
              refine bodyPost_ret (results_list (rs := [.cell 6 26, .tmp 7, .tmp 8]) rfl (by simp) (.cell (w.heap.size + 1) 26 #[.int .i64 0, .slice none 0 0, .slice none 0 0, .slice none 0 0, .slice none 0 0] (0, 0) _ rfl (put5_blk _ _ _ _ _ BZb.out) Try.underlying26 rfl (by kernel_rfl) (.tmp (.tmp .nil)))) rfl ?_
              exact ⟨_, _, _, _, rfl, Kd.R_nil _ _ _ _ _, Kd.R_nil _ _ _ _ _, Kd.R_nil _ _ _ _ _, Kd.R_nil _ _ _ _ _, put5_below _ _ _ _ _ HBb.out (Nat.le_succ _)⟩
            · have b2 : decide (a2 < 0) = false := decide_eq_false d2
              by_cases d3 : (a0_0 + (l0_1.length : Int) + (l0_2.length : Int)) < wrap64 (Int.tdiv a2 2)
              · have b3 : decide ((a0_0 + (l0_1.length : Int) + (l0_2.length : Int)) < wrap64 (Int.tdiv a2 2)) = true := decide_eq_true d3
                clear c1 d3 d0 d1 d2
                go_enter Try.func10, Try.ntmps10
                go_wp2_with (first
            | (go_at_call 34; (with_reducible refine (spiritlevelref02_Check.calls k a0_0 A0_1 c0_1 l0_1 A0_2 c0_2 l0_2 A0_3 c0_3 l0_3 A0_4 c0_4 l0_4 _ _ (Kd.C_below HR0_1.out HB0.out) HC0_1.out (Kd.C_below HR0_2.out HB0.out) HC0_2.out (Kd.C_below HR0_3.out HB0.out) HC0_3.out (Kd.C_below HR0_4.out HB0.out) HC0_4.out HV.out).mono ?_); rintro e w1 ⟨rfl, hb⟩; have HBa := Aside0.mk (below_step HB0.out hb); have BCa := Aside0.mk (blk_below BC0.out hb); have BZa := Aside0.mk (blk_below BZ0.out hb); clear hb; have za0 := (blk_cell BZa.out 0).trans (show _ = some (.int .i64 0) from rfl); have fza0 := blk_frozen BZa.out 0; have za1 := (blk_cell BZa.out 1).trans (show _ = some (.slice none 0 0) from rfl); have fza1 := blk_frozen BZa.out 1; have za2 := (blk_cell BZa.out 2).trans (show _ = some (.slice none 0 0) from rfl); have fza2 := blk_frozen BZa.out 2; have za3 := (blk_cell BZa.out 3).trans (show _ = some (.slice none 0 0) from rfl); have fza3 := blk_frozen BZa.out 3; have za4 := (blk_cell BZa.out 4).trans (show _ = some (.slice none 0 0) from rfl); have fza4 := blk_frozen BZa.out 4; have xa0 := (blk_cell BCa.out 0).trans (show _ = some (.int .i64 a0_0) from rfl); have fxa0 := blk_frozen BCa.out 0; have xa1 := (blk_cell BCa.out 1).trans (show _ = some (.slice A0_1 l0_1.length c0_1) from rfl); have fxa1 := blk_frozen BCa.out 1; have xa2 := (blk_cell BCa.out 2).trans (show _ = some (.slice A0_2 l0_2.length c0_2) from rfl); have fxa2 := blk_frozen BCa.out 2; have xa3 := (blk_cell BCa.out 3).trans (show _ = some (.slice A0_3 l0_3.length c0_3) from rfl); have fxa3 := blk_frozen BCa.out 3; have xa4 := (blk_cell BCa.out 4).trans (show _ = some (.slice A0_4 l0_4.length c0_4) from rfl); have fxa4 := blk_frozen BCa.out 4)
            | (go_at_call 35; (with_reducible refine (spiritlevelref02_Size.calls a0_0 A0_1 c0_1 l0_1 A0_2 c0_2 l0_2 A0_3 c0_3 l0_3 A0_4 c0_4 l0_4 _ _ (Kd.C_below HR0_1.out HBa.out) HC0_1.out (Kd.C_below HR0_2.out HBa.out) HC0_2.out (Kd.C_below HR0_3.out HBa.out) HC0_3.out (Kd.C_below HR0_4.out HBa.out) HC0_4.out HZ.out).mono ?_); rintro e w2 ⟨rfl, hb⟩; have HBb := Aside0.mk (below_step HBa.out hb); have BCb := Aside0.mk (blk_below BCa.out hb); have BZb := Aside0.mk (blk_below BZa.out hb); clear hb; have zb0 := (blk_cell BZb.out 0).trans (show _ = some (.int .i64 0) from rfl); have fzb0 := blk_frozen BZb.out 0; have zb1 := (blk_cell BZb.out 1).trans (show _ = some (.slice none 0 0) from rfl); have fzb1 := blk_frozen BZb.out 1; have zb2 := (blk_cell BZb.out 2).trans (show _ = some (.slice none 0 0) from rfl); have fzb2 := blk_frozen BZb.out 2; have zb3 := (blk_cell BZb.out 3).trans (show _ = some (.slice none 0 0) from rfl); have fzb3 := blk_frozen BZb.out 3; have zb4 := (blk_cell BZb.out 4).trans (show _ = some (.slice none 0 0) from rfl); have fzb4 := blk_frozen BZb.out 4; have xb0 := (blk_cell BCb.out 0).trans (show _ = some (.int .i64 a0_0) from rfl); have fxb0 := blk_frozen BCb.out 0; have xb1 := (blk_cell BCb.out 1).trans (show _ = some (.slice A0_1 l0_1.length c0_1) from rfl); have fxb1 := blk_frozen BCb.out 1; have xb2 := (blk_cell BCb.out 2).trans (show _ = some (.slice A0_2 l0_2.length c0_2) from rfl); have fxb2 := blk_frozen BCb.out 2; have xb3 := (blk_cell BCb.out 3).trans (show _ = some (.slice A0_3 l0_3.length c0_3) from rfl); have fxb3 := blk_frozen BCb.out 3; have xb4 := (blk_cell BCb.out 4).trans (show _ = some (.slice A0_4 l0_4.length c0_4) from rfl); have fxb4 := blk_frozen BCb.out 4))
                refine bodyPost_ret (results_list (rs := [.cell 6 26, .tmp 7, .tmp 8]) rfl (by simp) (.cell (w.heap.size + 1) 26 #[.int .i64 0, .slice none 0 0, .slice none 0 0, .slice none 0 0, .slice none 0 0] (0, 0) _ rfl (put5_blk _ _ _ _ _ BZb.out) Try.underlying26 rfl (by kernel_rfl) (.tmp (.tmp .nil)))) rfl ?_
                exact ⟨_, _, _, _, rfl, Kd.R_nil _ _ _ _ _, Kd.R_nil _ _ _ _ _, Kd.R_nil _ _ _ _ _, Kd.R_nil _ _ _ _ _, put5_below _ _ _ _ _ HBb.out (Nat.le_succ _)⟩
              · have b3 : decide ((a0_0 + (l0_1.length : Int) + (l0_2.length : Int)) < wrap64 (Int.tdiv a2 2)) = false := decide_eq_false d3
                exact absurd c1 (by rintro (h | h | h | h); exact d0 h; exact d1 h; exact d2 h; exact d3 h)
      · rw [if_neg c1] at h
        have b0 : decide (a1 < 0) = false := decide_eq_false (fun h => c1 (Or.inl h))
        have b1 : decide ((a0_0 + (l0_1.length : Int) + (l0_2.length : Int)) < wrap64 (Int.tdiv a1 2)) = false := decide_eq_false (fun h => c1 (Or.inr (Or.inl h)))
        have b2 : decide (a2 < 0) = false := decide_eq_false (fun h => c1 (Or.inr (Or.inr (Or.inl h))))
        have b3 : decide ((a0_0 + (l0_1.length : Int) + (l0_2.length : Int)) < wrap64 (Int.tdiv a2 2)) = false := decide_eq_false (fun h => c1 (Or.inr (Or.inr (Or.inr h))))
        have HA := Aside0.mk (show (0 ≤ a1 ∧ a1 ≤ 100000000) ∧ (0 ≤ a2 ∧ a2 ≤ 100000000) by
          have p0 := of_decide_eq_false b0
          have p2 := of_decide_eq_false b2
          have p1 := of_decide_eq_false b1
          have p3 := of_decide_eq_false b3
          obtain ⟨q0, q1, q2, q3, q4, q5⟩ := HK5.out
          have t1 := Int.tdiv_eq_ediv_of_nonneg (a := a1) (b := 2) (by omega)
          have t2 := Int.tdiv_eq_ediv_of_nonneg (a := a2) (b := 2) (by omega)
          rw [t1] at p1
          rw [t2] at p3
          have g1 : wrap64 (a1 / 2) = a1 / 2 := by unfold wrap64; omega
          have g2 : wrap64 (a2 / 2) = a2 / 2 := by unfold wrap64; omega
          rw [g1] at p1
          rw [g2] at p3
          omega)
        have HZ2 := Aside0.mk (show spiritlevelref02_Size.f a0_0 l0_1 (andP (a0_0 + (l0_1.length : Int) + 1) l0_2 a1 a2).1 l0_3 l0_4 = some (a0_0 + (l0_1.length : Int) + ((andP (a0_0 + (l0_1.length : Int) + 1) l0_2 a1 a2).1.length : Int)) by
          have hk := HK5.out
          have hl := andP_len (a0_0 + (l0_1.length : Int) + 1) l0_2 a1 a2
          unfold spiritlevelref02_Size.f
          have h1 : wrap64 (a0_0 + (l0_1.length : Int)) = a0_0 + (l0_1.length : Int) := by unfold wrap64; omega
          have h2 : wrap64 (a0_0 + (l0_1.length : Int) + ((andP (a0_0 + (l0_1.length : Int) + 1) l0_2 a1 a2).1.length : Int)) = a0_0 + (l0_1.length : Int) + ((andP (a0_0 + (l0_1.length : Int) + 1) l0_2 a1 a2).1.length : Int) := by unfold wrap64; omega
          rw [h1, h2])
        clear c1
        by_cases c3 : a0_0 + (l0_1.length : Int) + ((andP (a0_0 + (l0_1.length : Int) + 1) l0_2 a1 a2).1.length : Int) > 1000
        · rw [if_pos c3] at h
          simp only [Option.some.injEq, Prod.mk.injEq] at h
          obtain ⟨rfl, rfl, rfl, rfl, rfl, rfl, rfl⟩ := h
          have b5 : decide (1000 < a0_0 + (l0_1.length : Int) + ((andP (a0_0 + (l0_1.length : Int) + 1) l0_2 a1 a2).1.length : Int)) = true := decide_eq_true c3
          clear c3
          go_enter Try.func10, Try.ntmps10
          go_wp2_with (first
            | (go_at_call 34; (with_reducible refine (spiritlevelref02_Check.calls k a0_0 A0_1 c0_1 l0_1 A0_2 c0_2 l0_2 A0_3 c0_3 l0_3 A0_4 c0_4 l0_4 _ _ (Kd.C_below HR0_1.out HB0.out) HC0_1.out (Kd.C_below HR0_2.out HB0.out) HC0_2.out (Kd.C_below HR0_3.out HB0.out) HC0_3.out (Kd.C_below HR0_4.out HB0.out) HC0_4.out HV.out).mono ?_); rintro e w1 ⟨rfl, hb⟩; have HBa := Aside0.mk (below_step HB0.out hb); have BCa := Aside0.mk (blk_below BC0.out hb); have BZa := Aside0.mk (blk_below BZ0.out hb); clear hb; have za0 := (blk_cell BZa.out 0).trans (show _ = some (.int .i64 0) from rfl); have fza0 := blk_frozen BZa.out 0; have za1 := (blk_cell BZa.out 1).trans (show _ = some (.slice none 0 0) from rfl); have fza1 := blk_frozen BZa.out 1; have za2 := (blk_cell BZa.out 2).trans (show _ = some (.slice none 0 0) from rfl); have fza2 := blk_frozen BZa.out 2; have za3 := (blk_cell BZa.out 3).trans (show _ = some (.slice none 0 0) from rfl); have fza3 := blk_frozen BZa.out 3; have za4 := (blk_cell BZa.out 4).trans (show _ = some (.slice none 0 0) from rfl); have fza4 := blk_frozen BZa.out 4; have xa0 := (blk_cell BCa.out 0).trans (show _ = some (.int .i64 a0_0) from rfl); have fxa0 := blk_frozen BCa.out 0; have xa1 := (blk_cell BCa.out 1).trans (show _ = some (.slice A0_1 l0_1.length c0_1) from rfl); have fxa1 := blk_frozen BCa.out 1; have xa2 := (blk_cell BCa.out 2).trans (show _ = some (.slice A0_2 l0_2.length c0_2) from rfl); have fxa2 := blk_frozen BCa.out 2; have xa3 := (blk_cell BCa.out 3).trans (show _ = some (.slice A0_3 l0_3.length c0_3) from rfl); have fxa3 := blk_frozen BCa.out 3; have xa4 := (blk_cell BCa.out 4).trans (show _ = some (.slice A0_4 l0_4.length c0_4) from rfl); have fxa4 := blk_frozen BCa.out 4)
            | (go_at_call 35; (with_reducible refine (spiritlevelref02_Size.calls a0_0 A0_1 c0_1 l0_1 A0_2 c0_2 l0_2 A0_3 c0_3 l0_3 A0_4 c0_4 l0_4 _ _ (Kd.C_below HR0_1.out HBa.out) HC0_1.out (Kd.C_below HR0_2.out HBa.out) HC0_2.out (Kd.C_below HR0_3.out HBa.out) HC0_3.out (Kd.C_below HR0_4.out HBa.out) HC0_4.out HZ.out).mono ?_); rintro e w2 ⟨rfl, hb⟩; have HBb := Aside0.mk (below_step HBa.out hb); have BCb := Aside0.mk (blk_below BCa.out hb); have BZb := Aside0.mk (blk_below BZa.out hb); clear hb; have zb0 := (blk_cell BZb.out 0).trans (show _ = some (.int .i64 0) from rfl); have fzb0 := blk_frozen BZb.out 0; have zb1 := (blk_cell BZb.out 1).trans (show _ = some (.slice none 0 0) from rfl); have fzb1 := blk_frozen BZb.out 1; have zb2 := (blk_cell BZb.out 2).trans (show _ = some (.slice none 0 0) from rfl); have fzb2 := blk_frozen BZb.out 2; have zb3 := (blk_cell BZb.out 3).trans (show _ = some (.slice none 0 0) from rfl); have fzb3 := blk_frozen BZb.out 3; have zb4 := (blk_cell BZb.out 4).trans (show _ = some (.slice none 0 0) from rfl); have fzb4 := blk_frozen BZb.out 4; have xb0 := (blk_cell BCb.out 0).trans (show _ = some (.int .i64 a0_0) from rfl); have fxb0 := blk_frozen BCb.out 0; have xb1 := (blk_cell BCb.out 1).trans (show _ = some (.slice A0_1 l0_1.length c0_1) from rfl); have fxb1 := blk_frozen BCb.out 1; have xb2 := (blk_cell BCb.out 2).trans (show _ = some (.slice A0_2 l0_2.length c0_2) from rfl); have fxb2 := blk_frozen BCb.out 2; have xb3 := (blk_cell BCb.out 3).trans (show _ = some (.slice A0_3 l0_3.length c0_3) from rfl); have fxb3 := blk_frozen BCb.out 3; have xb4 := (blk_cell BCb.out 4).trans (show _ = some (.slice A0_4 l0_4.length c0_4) from rfl); have fxb4 := blk_frozen BCb.out 4)
            | (go_at_call 17; (with_reducible refine (spiritlevelref02_Twin.calls a0_0 A0_1 c0_1 l0_1 A0_2 c0_2 l0_2 A0_3 c0_3 l0_3 A0_4 c0_4 l0_4 _ _ _ _ _ _ (Kd.C_below HR0_1.out HBb.out) HC0_1.out (Kd.C_below HR0_2.out HBb.out) HC0_2.out (Kd.C_below HR0_3.out HBb.out) HC0_3.out (Kd.C_below HR0_4.out HBb.out) HC0_4.out HT.out).mono ?_); rintro e w3 ⟨v1, v2, v3, v4, rfl, h4, h5, h6, h7, hb⟩; have HBc := Aside0.mk (below_step HBb.out hb); have BCc := Aside0.mk (blk_below BCb.out hb); have BZc := Aside0.mk (blk_below BZb.out hb); have H4 := Aside0.mk (Kd.R_lower h4 HBb.out.size); have H5 := Aside0.mk (Kd.R_lower h5 HBb.out.size); have H6 := Aside0.mk (Kd.R_lower h6 HBb.out.size); have H7 := Aside0.mk (Kd.R_lower h7 HBb.out.size); obtain ⟨B1, d1, rfl⟩ := Kd.R_slice h4; obtain ⟨B2, d2, rfl⟩ := Kd.R_slice h5; obtain ⟨B3, d3, rfl⟩ := Kd.R_slice h6; obtain ⟨B4, d4, rfl⟩ := Kd.R_slice h7; clear hb h4 h5 h6 h7; have zc0 := (blk_cell BZc.out 0).trans (show _ = some (.int .i64 0) from rfl); have fzc0 := blk_frozen BZc.out 0; have zc1 := (blk_cell BZc.out 1).trans (show _ = some (.slice none 0 0) from rfl); have fzc1 := blk_frozen BZc.out 1; have zc2 := (blk_cell BZc.out 2).trans (show _ = some (.slice none 0 0) from rfl); have fzc2 := blk_frozen BZc.out 2; have zc3 := (blk_cell BZc.out 3).trans (show _ = some (.slice none 0 0) from rfl); have fzc3 := blk_frozen BZc.out 3; have zc4 := (blk_cell BZc.out 4).trans (show _ = some (.slice none 0 0) from rfl); have fzc4 := blk_frozen BZc.out 4; have xc0 := (blk_cell BCc.out 0).trans (show _ = some (.int .i64 a0_0) from rfl); have fxc0 := blk_frozen BCc.out 0; have xc1 := (blk_cell BCc.out 1).trans (show _ = some (.slice A0_1 l0_1.length c0_1) from rfl); have fxc1 := blk_frozen BCc.out 1; have xc2 := (blk_cell BCc.out 2).trans (show _ = some (.slice A0_2 l0_2.length c0_2) from rfl); have fxc2 := blk_frozen BCc.out 2; have xc3 := (blk_cell BCc.out 3).trans (show _ = some (.slice A0_3 l0_3.length c0_3) from rfl); have fxc3 := blk_frozen BCc.out 3; have xc4 := (blk_cell BCc.out 4).trans (show _ = some (.slice A0_4 l0_4.length c0_4) from rfl); have fxc4 := blk_frozen BCc.out 4)
            | (go_at_call 36; (with_reducible refine (made_calls (StO.born HBc.out H4.out H5.out H6.out H7.out) HF.out a1 a2 HA.out.1.1 HA.out.1.2 HA.out.2.1 HA.out.2.2).mono ?_); rintro e w4 ⟨rfl, hS, hK⟩; have HSd := Aside0.mk hS; have BZd := Aside0.mk (hK.blk (blk_alloc BZc.out _) (Nat.ne_of_lt (Array.getElem?_eq_some_iff.1 BZc.out).1) (by decide)); clear hS hK; have zd0 := (blk_cell BZd.out 0).trans (show _ = some (.int .i64 0) from rfl); have fzd0 := blk_frozen BZd.out 0; have zd1 := (blk_cell BZd.out 1).trans (show _ = some (.slice none 0 0) from rfl); have fzd1 := blk_frozen BZd.out 1; have zd2 := (blk_cell BZd.out 2).trans (show _ = some (.slice none 0 0) from rfl); have fzd2 := blk_frozen BZd.out 2; have zd3 := (blk_cell BZd.out 3).trans (show _ = some (.slice none 0 0) from rfl); have fzd3 := blk_frozen BZd.out 3; have zd4 := (blk_cell BZd.out 4).trans (show _ = some (.slice none 0 0) from rfl); have fzd4 := blk_frozen BZd.out 4;  obtain ⟨ALd, cLd, AAd, cAd, ABd, cBd, ACd, cCd, k3, k4, k5, k6, k7⟩ := HSd.out.cells; have Gd4 := Aside0.mk k4; have Gd5 := Aside0.mk k5; have Gd6 := Aside0.mk k6; have Gd7 := Aside0.mk k7; have yd0 := (blk_cell k3 0).trans (show _ = some (.int .i64 a0_0) from rfl); have yd1 := (blk_cell k3 1).trans (show _ = some (.slice ALd l0_1.length cLd) from rfl); have yd2 := (blk_cell k3 2).trans (show _ = some (.slice AAd (andP (a0_0 + (l0_1.length : Int) + 1) l0_2 a1 a2).1.length cAd) from rfl); have yd3 := (blk_cell k3 3).trans (show _ = some (.slice ABd l0_3.length cBd) from rfl); have yd4 := (blk_cell k3 4).trans (show _ = some (.slice ACd l0_4.length cCd) from rfl); clear k3 k4 k5 k6 k7)
            | (go_at_call 35; (with_reducible refine (spiritlevelref02_Size.calls a0_0 _ _ l0_1 _ _ (andP (a0_0 + (l0_1.length : Int) + 1) l0_2 a1 a2).1 _ _ l0_3 _ _ l0_4 _ _ ?side1 ?side2 ?side3 ?side4 ?side5 ?side6 ?side7 ?side8 HZ2.out).mono ?_); (case side1 => exact (Kd.R_reads' Gd4.out).2.2); (case side2 => exact (Kd.R_reads' Gd4.out).2.1); (case side3 => exact (Kd.R_reads' Gd5.out).2.2); (case side4 => exact (Kd.R_reads' Gd5.out).2.1); (case side5 => exact (Kd.R_reads' Gd6.out).2.2); (case side6 => exact (Kd.R_reads' Gd6.out).2.1); (case side7 => exact (Kd.R_reads' Gd7.out).2.2); (case side8 => exact (Kd.R_reads' Gd7.out).2.1); rintro e w5 ⟨rfl, hb⟩; have HSe := Aside0.mk (HSd.out.below hb); have BZe := Aside0.mk (blk_below BZd.out hb); clear hb; have ze0 := (blk_cell BZe.out 0).trans (show _ = some (.int .i64 0) from rfl); have fze0 := blk_frozen BZe.out 0; have ze1 := (blk_cell BZe.out 1).trans (show _ = some (.slice none 0 0) from rfl); have fze1 := blk_frozen BZe.out 1; have ze2 := (blk_cell BZe.out 2).trans (show _ = some (.slice none 0 0) from rfl); have fze2 := blk_frozen BZe.out 2; have ze3 := (blk_cell BZe.out 3).trans (show _ = some (.slice none 0 0) from rfl); have fze3 := blk_frozen BZe.out 3; have ze4 := (blk_cell BZe.out 4).trans (show _ = some (.slice none 0 0) from rfl); have fze4 := blk_frozen BZe.out 4;  obtain ⟨ALe, cLe, AAe, cAe, ABe, cBe, ACe, cCe, k3, k4, k5, k6, k7⟩ := HSe.out.cells; have Ge4 := Aside0.mk k4; have Ge5 := Aside0.mk k5; have Ge6 := Aside0.mk k6; have Ge7 := Aside0.mk k7; have ye0 := (blk_cell k3 0).trans (show _ = some (.int .i64 a0_0) from rfl); have ye1 := (blk_cell k3 1).trans (show _ = some (.slice ALe l0_1.length cLe) from rfl); have ye2 := (blk_cell k3 2).trans (show _ = some (.slice AAe (andP (a0_0 + (l0_1.length : Int) + 1) l0_2 a1 a2).1.length cAe) from rfl); have ye3 := (blk_cell k3 3).trans (show _ = some (.slice ABe l0_3.length cBe) from rfl); have ye4 := (blk_cell k3 4).trans (show _ = some (.slice ACe l0_4.length cCe) from rfl); clear k3 k4 k5 k6 k7))
          refine bodyPost_ret (results_list (rs := [.cell 6 26, .tmp 7, .tmp 8]) rfl (by simp) (.cell (w.heap.size + 1) 26 #[.int .i64 0, .slice none 0 0, .slice none 0 0, .slice none 0 0, .slice none 0 0] (0, 0) _ rfl (put5_blk _ _ _ _ _ BZe.out) Try.underlying26 rfl (by kernel_rfl) (.tmp (.tmp .nil)))) rfl ?_
          exact ⟨_, _, _, _, rfl, Kd.R_nil _ _ _ _ _, Kd.R_nil _ _ _ _ _, Kd.R_nil _ _ _ _ _, Kd.R_nil _ _ _ _ _, put5_below _ _ _ _ _ HSe.out.hb (Nat.le_succ _)⟩
        · rw [if_neg c3] at h
          simp only [Option.some.injEq, Prod.mk.injEq] at h
          obtain ⟨rfl, rfl, rfl, rfl, rfl, rfl, rfl⟩ := h
          have b5 : decide (1000 < a0_0 + (l0_1.length : Int) + ((andP (a0_0 + (l0_1.length : Int) + 1) l0_2 a1 a2).1.length : Int)) = false := decide_eq_false c3
          clear c3
          go_enter Try.func10, Try.ntmps10
          go_wp2_with (first
            | (go_at_call 34; (with_reducible refine (spiritlevelref02_Check.calls k a0_0 A0_1 c0_1 l0_1 A0_2 c0_2 l0_2 A0_3 c0_3 l0_3 A0_4 c0_4 l0_4 _ _ (Kd.C_below HR0_1.out HB0.out) HC0_1.out (Kd.C_below HR0_2.out HB0.out) HC0_2.out (Kd.C_below HR0_3.out HB0.out) HC0_3.out (Kd.C_below HR0_4.out HB0.out) HC0_4.out HV.out).mono ?_); rintro e w1 ⟨rfl, hb⟩; have HBa := Aside0.mk (below_step HB0.out hb); have BCa := Aside0.mk (blk_below BC0.out hb); have BZa := Aside0.mk (blk_below BZ0.out hb); clear hb; have za0 := (blk_cell BZa.out 0).trans (show _ = some (.int .i64 0) from rfl); have fza0 := blk_frozen BZa.out 0; have za1 := (blk_cell BZa.out 1).trans (show _ = some (.slice none 0 0) from rfl); have fza1 := blk_frozen BZa.out 1; have za2 := (blk_cell BZa.out 2).trans (show _ = some (.slice none 0 0) from rfl); have fza2 := blk_frozen BZa.out 2; have za3 := (blk_cell BZa.out 3).trans (show _ = some (.slice none 0 0) from rfl); have fza3 := blk_frozen BZa.out 3; have za4 := (blk_cell BZa.out 4).trans (show _ = some (.slice none 0 0) from rfl); have fza4 := blk_frozen BZa.out 4; have xa0 := (blk_cell BCa.out 0).trans (show _ = some (.int .i64 a0_0) from rfl); have fxa0 := blk_frozen BCa.out 0; have xa1 := (blk_cell BCa.out 1).trans (show _ = some (.slice A0_1 l0_1.length c0_1) from rfl); have fxa1 := blk_frozen BCa.out 1; have xa2 := (blk_cell BCa.out 2).trans (show _ = some (.slice A0_2 l0_2.length c0_2) from rfl); have fxa2 := blk_frozen BCa.out 2; have xa3 := (blk_cell BCa.out 3).trans (show _ = some (.slice A0_3 l0_3.length c0_3) from rfl); have fxa3 := blk_frozen BCa.out 3; have xa4 := (blk_cell BCa.out 4).trans (show _ = some (.slice A0_4 l0_4.length c0_4) from rfl); have fxa4 := blk_frozen BCa.out 4)
            | (go_at_call 35; (with_reducible refine (spiritlevelref02_Size.calls a0_0 A0_1 c0_1 l0_1 A0_2 c0_2 l0_2 A0_3 c0_3 l0_3 A0_4 c0_4 l0_4 _ _ (Kd.C_below HR0_1.out HBa.out) HC0_1.out (Kd.C_below HR0_2.out HBa.out) HC0_2.out (Kd.C_below HR0_3.out HBa.out) HC0_3.out (Kd.C_below HR0_4.out HBa.out) HC0_4.out HZ.out).mono ?_); rintro e w2 ⟨rfl, hb⟩; have HBb := Aside0.mk (below_step HBa.out hb); have BCb := Aside0.mk (blk_below BCa.out hb); have BZb := Aside0.mk (blk_below BZa.out hb); clear hb; have zb0 := (blk_cell BZb.out 0).trans (show _ = some (.int .i64 0) from rfl); have fzb0 := blk_frozen BZb.out 0; have zb1 := (blk_cell BZb.out 1).trans (show _ = some (.slice none 0 0) from rfl); have fzb1 := blk_frozen BZb.out 1; have zb2 := (blk_cell BZb.out 2).trans (show _ = some (.slice none 0 0) from rfl); have fzb2 := blk_frozen BZb.out 2; have zb3 := (blk_cell BZb.out 3).trans (show _ = some (.slice none 0 0) from rfl); have fzb3 := blk_frozen BZb.out 3; have zb4 := (blk_cell BZb.out 4).trans (show _ = some (.slice none 0 0) from rfl); have fzb4 := blk_frozen BZb.out 4; have xb0 := (blk_cell BCb.out 0).trans (show _ = some (.int .i64 a0_0) from rfl); have fxb0 := blk_frozen BCb.out 0; have xb1 := (blk_cell BCb.out 1).trans (show _ = some (.slice A0_1 l0_1.length c0_1) from rfl); have fxb1 := blk_frozen BCb.out 1; have xb2 := (blk_cell BCb.out 2).trans (show _ = some (.slice A0_2 l0_2.length c0_2) from rfl); have fxb2 := blk_frozen BCb.out 2; have xb3 := (blk_cell BCb.out 3).trans (show _ = some (.slice A0_3 l0_3.length c0_3) from rfl); have fxb3 := blk_frozen BCb.out 3; have xb4 := (blk_cell BCb.out 4).trans (show _ = some (.slice A0_4 l0_4.length c0_4) from rfl); have fxb4 := blk_frozen BCb.out 4)
            | (go_at_call 17; (with_reducible refine (spiritlevelref02_Twin.calls a0_0 A0_1 c0_1 l0_1 A0_2 c0_2 l0_2 A0_3 c0_3 l0_3 A0_4 c0_4 l0_4 _ _ _ _ _ _ (Kd.C_below HR0_1.out HBb.out) HC0_1.out (Kd.C_below HR0_2.out HBb.out) HC0_2.out (Kd.C_below HR0_3.out HBb.out) HC0_3.out (Kd.C_below HR0_4.out HBb.out) HC0_4.out HT.out).mono ?_); rintro e w3 ⟨v1, v2, v3, v4, rfl, h4, h5, h6, h7, hb⟩; have HBc := Aside0.mk (below_step HBb.out hb); have BCc := Aside0.mk (blk_below BCb.out hb); have BZc := Aside0.mk (blk_below BZb.out hb); have H4 := Aside0.mk (Kd.R_lower h4 HBb.out.size); have H5 := Aside0.mk (Kd.R_lower h5 HBb.out.size); have H6 := Aside0.mk (Kd.R_lower h6 HBb.out.size); have H7 := Aside0.mk (Kd.R_lower h7 HBb.out.size); obtain ⟨B1, d1, rfl⟩ := Kd.R_slice h4; obtain ⟨B2, d2, rfl⟩ := Kd.R_slice h5; obtain ⟨B3, d3, rfl⟩ := Kd.R_slice h6; obtain ⟨B4, d4, rfl⟩ := Kd.R_slice h7; clear hb h4 h5 h6 h7; have zc0 := (blk_cell BZc.out 0).trans (show _ = some (.int .i64 0) from rfl); have fzc0 := blk_frozen BZc.out 0; have zc1 := (blk_cell BZc.out 1).trans (show _ = some (.slice none 0 0) from rfl); have fzc1 := blk_frozen BZc.out 1; have zc2 := (blk_cell BZc.out 2).trans (show _ = some (.slice none 0 0) from rfl); have fzc2 := blk_frozen BZc.out 2; have zc3 := (blk_cell BZc.out 3).trans (show _ = some (.slice none 0 0) from rfl); have fzc3 := blk_frozen BZc.out 3; have zc4 := (blk_cell BZc.out 4).trans (show _ = some (.slice none 0 0) from rfl); have fzc4 := blk_frozen BZc.out 4; have xc0 := (blk_cell BCc.out 0).trans (show _ = some (.int .i64 a0_0) from rfl); have fxc0 := blk_frozen BCc.out 0; have xc1 := (blk_cell BCc.out 1).trans (show _ = some (.slice A0_1 l0_1.length c0_1) from rfl); have fxc1 := blk_frozen BCc.out 1; have xc2 := (blk_cell BCc.out 2).trans (show _ = some (.slice A0_2 l0_2.length c0_2) from rfl); have fxc2 := blk_frozen BCc.out 2; have xc3 := (blk_cell BCc.out 3).trans (show _ = some (.slice A0_3 l0_3.length c0_3) from rfl); have fxc3 := blk_frozen BCc.out 3; have xc4 := (blk_cell BCc.out 4).trans (show _ = some (.slice A0_4 l0_4.length c0_4) from rfl); have fxc4 := blk_frozen BCc.out 4)
            | (go_at_call 36; (with_reducible refine (made_calls (StO.born HBc.out H4.out H5.out H6.out H7.out) HF.out a1 a2 HA.out.1.1 HA.out.1.2 HA.out.2.1 HA.out.2.2).mono ?_); rintro e w4 ⟨rfl, hS, hK⟩; have HSd := Aside0.mk hS; have BZd := Aside0.mk (hK.blk (blk_alloc BZc.out _) (Nat.ne_of_lt (Array.getElem?_eq_some_iff.1 BZc.out).1) (by decide)); clear hS hK; have zd0 := (blk_cell BZd.out 0).trans (show _ = some (.int .i64 0) from rfl); have fzd0 := blk_frozen BZd.out 0; have zd1 := (blk_cell BZd.out 1).trans (show _ = some (.slice none 0 0) from rfl); have fzd1 := blk_frozen BZd.out 1; have zd2 := (blk_cell BZd.out 2).trans (show _ = some (.slice none 0 0) from rfl); have fzd2 := blk_frozen BZd.out 2; have zd3 := (blk_cell BZd.out 3).trans (show _ = some (.slice none 0 0) from rfl); have fzd3 := blk_frozen BZd.out 3; have zd4 := (blk_cell BZd.out 4).trans (show _ = some (.slice none 0 0) from rfl); have fzd4 := blk_frozen BZd.out 4;  obtain ⟨ALd, cLd, AAd, cAd, ABd, cBd, ACd, cCd, k3, k4, k5, k6, k7⟩ := HSd.out.cells; have Gd4 := Aside0.mk k4; have Gd5 := Aside0.mk k5; have Gd6 := Aside0.mk k6; have Gd7 := Aside0.mk k7; have yd0 := (blk_cell k3 0).trans (show _ = some (.int .i64 a0_0) from rfl); have yd1 := (blk_cell k3 1).trans (show _ = some (.slice ALd l0_1.length cLd) from rfl); have yd2 := (blk_cell k3 2).trans (show _ = some (.slice AAd (andP (a0_0 + (l0_1.length : Int) + 1) l0_2 a1 a2).1.length cAd) from rfl); have yd3 := (blk_cell k3 3).trans (show _ = some (.slice ABd l0_3.length cBd) from rfl); have yd4 := (blk_cell k3 4).trans (show _ = some (.slice ACd l0_4.length cCd) from rfl); clear k3 k4 k5 k6 k7)
            | (go_at_call 35; (with_reducible refine (spiritlevelref02_Size.calls a0_0 _ _ l0_1 _ _ (andP (a0_0 + (l0_1.length : Int) + 1) l0_2 a1 a2).1 _ _ l0_3 _ _ l0_4 _ _ ?side1 ?side2 ?side3 ?side4 ?side5 ?side6 ?side7 ?side8 HZ2.out).mono ?_); (case side1 => exact (Kd.R_reads' Gd4.out).2.2); (case side2 => exact (Kd.R_reads' Gd4.out).2.1); (case side3 => exact (Kd.R_reads' Gd5.out).2.2); (case side4 => exact (Kd.R_reads' Gd5.out).2.1); (case side5 => exact (Kd.R_reads' Gd6.out).2.2); (case side6 => exact (Kd.R_reads' Gd6.out).2.1); (case side7 => exact (Kd.R_reads' Gd7.out).2.2); (case side8 => exact (Kd.R_reads' Gd7.out).2.1); rintro e w5 ⟨rfl, hb⟩; have HSe := Aside0.mk (HSd.out.below hb); have BZe := Aside0.mk (blk_below BZd.out hb); clear hb; have ze0 := (blk_cell BZe.out 0).trans (show _ = some (.int .i64 0) from rfl); have fze0 := blk_frozen BZe.out 0; have ze1 := (blk_cell BZe.out 1).trans (show _ = some (.slice none 0 0) from rfl); have fze1 := blk_frozen BZe.out 1; have ze2 := (blk_cell BZe.out 2).trans (show _ = some (.slice none 0 0) from rfl); have fze2 := blk_frozen BZe.out 2; have ze3 := (blk_cell BZe.out 3).trans (show _ = some (.slice none 0 0) from rfl); have fze3 := blk_frozen BZe.out 3; have ze4 := (blk_cell BZe.out 4).trans (show _ = some (.slice none 0 0) from rfl); have fze4 := blk_frozen BZe.out 4;  obtain ⟨ALe, cLe, AAe, cAe, ABe, cBe, ACe, cCe, k3, k4, k5, k6, k7⟩ := HSe.out.cells; have Ge4 := Aside0.mk k4; have Ge5 := Aside0.mk k5; have Ge6 := Aside0.mk k6; have Ge7 := Aside0.mk k7; have ye0 := (blk_cell k3 0).trans (show _ = some (.int .i64 a0_0) from rfl); have ye1 := (blk_cell k3 1).trans (show _ = some (.slice ALe l0_1.length cLe) from rfl); have ye2 := (blk_cell k3 2).trans (show _ = some (.slice AAe (andP (a0_0 + (l0_1.length : Int) + 1) l0_2 a1 a2).1.length cAe) from rfl); have ye3 := (blk_cell k3 3).trans (show _ = some (.slice ABe l0_3.length cBe) from rfl); have ye4 := (blk_cell k3 4).trans (show _ = some (.slice ACe l0_4.length cCe) from rfl); clear k3 k4 k5 k6 k7))
          refine bodyPost_ret (results_list (rs := [.cell 6 26, .tmp 7, .tmp 8]) rfl (by simp) (.cell (w.heap.size + 1) 26 #[.int .i64 a0_0, .slice ALe l0_1.length cLe, .slice AAe (andP (a0_0 + (l0_1.length : Int) + 1) l0_2 a1 a2).1.length cAe, .slice ABe l0_3.length cBe, .slice ACe l0_4.length cCe] (0, 0) _ rfl (put5_blk _ _ _ _ _ BZe.out) Try.underlying26 rfl (by kernel_rfl) (.tmp (.tmp .nil)))) rfl ?_
          exact ⟨_, _, _, _, rfl, put5_R _ _ _ _ _ BZe.out Ge4.out (by decide), put5_R _ _ _ _ _ BZe.out Ge5.out (by decide), Kd.R_mono (put5_R _ _ _ _ _ BZe.out Ge6.out (by decide)) (fun _ hk => hk.1), Kd.R_mono (put5_R _ _ _ _ _ BZe.out Ge7.out (by decide)) (fun _ hk => hk.1), put5_below _ _ _ _ _ HSe.out.hb (Nat.le_succ _)⟩
    · rw [if_neg c2] at h
      exact absurd h (by simp)
  · rw [if_neg c] at h
    simp only [Option.some.injEq, Prod.mk.injEq] at h
    obtain ⟨rfl, rfl, rfl, rfl, rfl, rfl, rfl⟩ := h
    have b2 : (e0 != 0) = true := bne_iff_ne.mpr c
    clear c
    go_enter Try.func10, Try.ntmps10
    go_wp2_with (go_at_call 34; (with_reducible refine (spiritlevelref02_Check.calls k a0_0 A0_1 c0_1 l0_1 A0_2 c0_2 l0_2 A0_3 c0_3 l0_3 A0_4 c0_4 l0_4 _ _ (Kd.C_below HR0_1.out HB0.out) HC0_1.out (Kd.C_below HR0_2.out HB0.out) HC0_2.out (Kd.C_below HR0_3.out HB0.out) HC0_3.out (Kd.C_below HR0_4.out HB0.out) HC0_4.out HV.out).mono ?_); rintro e w1 ⟨rfl, hb⟩; have HBa := Aside0.mk (below_step HB0.out hb); have BCa := Aside0.mk (blk_below BC0.out hb); have BZa := Aside0.mk (blk_below BZ0.out hb); clear hb; have za0 := (blk_cell BZa.out 0).trans (show _ = some (.int .i64 0) from rfl); have fza0 := blk_frozen BZa.out 0; have za1 := (blk_cell BZa.out 1).trans (show _ = some (.slice none 0 0) from rfl); have fza1 := blk_frozen BZa.out 1; have za2 := (blk_cell BZa.out 2).trans (show _ = some (.slice none 0 0) from rfl); have fza2 := blk_frozen BZa.out 2; have za3 := (blk_cell BZa.out 3).trans (show _ = some (.slice none 0 0) from rfl); have fza3 := blk_frozen BZa.out 3; have za4 := (blk_cell BZa.out 4).trans (show _ = some (.slice none 0 0) from rfl); have fza4 := blk_frozen BZa.out 4; have xa0 := (blk_cell BCa.out 0).trans (show _ = some (.int .i64 a0_0) from rfl); have fxa0 := blk_frozen BCa.out 0; have xa1 := (blk_cell BCa.out 1).trans (show _ = some (.slice A0_1 l0_1.length c0_1) from rfl); have fxa1 := blk_frozen BCa.out 1; have xa2 := (blk_cell BCa.out 2).trans (show _ = some (.slice A0_2 l0_2.length c0_2) from rfl); have fxa2 := blk_frozen BCa.out 2; have xa3 := (blk_cell BCa.out 3).trans (show _ = some (.slice A0_3 l0_3.length c0_3) from rfl); have fxa3 := blk_frozen BCa.out 3; have xa4 := (blk_cell BCa.out 4).trans (show _ = some (.slice A0_4 l0_4.length c0_4) from rfl); have fxa4 := blk_frozen BCa.out 4)
    refine bodyPost_ret (results_list (rs := [.cell 6 26, .tmp 7, .tmp 8]) rfl (by simp) (.cell (w.heap.size + 1) 26 #[.int .i64 0, .slice none 0 0, .slice none 0 0, .slice none 0 0, .slice none 0 0] (0, 0) _ rfl (put5_blk _ _ _ _ _ BZa.out) Try.underlying26 rfl (by kernel_rfl) (.tmp (.tmp .nil)))) rfl ?_
    exact ⟨_, _, _, _, rfl, Kd.R_nil _ _ _ _ _, Kd.R_nil _ _ _ _ _, Kd.R_nil _ _ _ _ _, Kd.R_nil _ _ _ _ _, put5_below _ _ _ _ _ HBa.out (Nat.le_succ _)⟩

/-! ### spiritlevelref02_SameInts: function 22 -/
def spiritlevelref02_SameInts.l0 : Nat → List Int → List Int → Int → Option (Bool)
  | 0, _, _, _ => none
  | k + 1, x0, x1, x5 => if x5 < (x0.length : Int) then (if 0 ≤ x5 then (if x5 < (x1.length : Int) then (if (rd x0 x5) = (rd x1 x5) then (spiritlevelref02_SameInts.l0 k x0 x1 (wrap64 (x5 + 1))) else (some false)) else (none)) else (none)) else (some true)
def spiritlevelref02_SameInts.f (k : Nat) (l0 : List Int) (l1 : List Int) : Option (Bool) := if (l0.length : Int) = (l1.length : Int) then (spiritlevelref02_SameInts.l0 k l0 l1 0) else (some false)
theorem spiritlevelref02_SameInts.mono_l : ∀ k, (∀ y0 y1 y2, LeO (spiritlevelref02_SameInts.l0 k y0 y1 y2) (spiritlevelref02_SameInts.l0 (k + 1) y0 y1 y2))
  | 0 => fun _ _ _ r h => by simp [spiritlevelref02_SameInts.l0] at h
  | k + 1 => by
    have ih0 := spiritlevelref02_SameInts.mono_l k
    · intro y0 y1 y2
      unfold spiritlevelref02_SameInts.l0
      repeat' first
      | (with_reducible exact ih0 _ _ _)
      | (with_reducible exact LeO.refl _)
      | (with_reducible exact LeO.none _)
      | (with_reducible refine LeO.ite ?_ ?_)
      | (with_reducible refine LeO.bind ?_ (fun _ => ?_))
      | exact ih0 _ _ _
      | exact LeO.none _
      | refine LeO.ite ?_ ?_
      | refine LeO.bind ?_ (fun _ => ?_)
theorem spiritlevelref02_SameInts.mono : ∀ a0 a1 k, LeO (spiritlevelref02_SameInts.f k a0 a1) (spiritlevelref02_SameInts.f (k + 1) a0 a1) := by
  intro a0 a1 k
  have ih0 := spiritlevelref02_SameInts.mono_l k
  unfold spiritlevelref02_SameInts.f
  repeat' first
      | (with_reducible exact ih0 _ _ _)
      | (with_reducible exact LeO.refl _)
      | (with_reducible exact LeO.none _)
      | (with_reducible refine LeO.ite ?_ ?_)
      | (with_reducible refine LeO.bind ?_ (fun _ => ?_))
      | exact ih0 _ _ _
      | exact LeO.none _
      | refine LeO.ite ?_ ?_
      | refine LeO.bind ?_ (fun _ => ?_)
set_option maxHeartbeats 8000000 in
set_option maxRecDepth 100000 in
theorem spiritlevelref02_SameInts.calls (k : Nat) (A0 : Option Addr) (c0 : Nat) (l0 : List Int) (A1 : Option Addr) (c1 : Nat) (l1 : List Int) (r : Bool) (w : World) (hr0 : Kd.C (Kd.int .i64) w A0 l0.length l0) (hc0 : l0.length ≤ c0) (hr1 : Kd.C (Kd.int .i64) w A1 l1.length l1) (hc1 : l1.length ≤ c1) (h : spiritlevelref02_SameInts.f k l0 l1 = some r) :
    Calls Try.prog 22 #[.slice A0 l0.length c0, .slice A1 l1.length c1] w fun e w' => e = .returned (.bool r) ∧ Drawn0 w w' := by
  have HR0 := Aside0.mk hr0
  have HC0 := Aside0.mk hc0
  clear hr0 hc0
  have HR1 := Aside0.mk hr1
  have HC1 := Aside0.mk hc1
  clear hr1 hc1
  have H : (if (l0.length : Int) = (l1.length : Int) then (spiritlevelref02_SameInts.l0 k l0 l1 0) else (some false)) = some r := h
  clear h
  by_cases c3 : (l0.length : Int) = (l1.length : Int)
  · rw [if_pos c3] at H
    have c3b0 : ((l0.length : Int) == (l1.length : Int)) = true := beq_iff_eq.mpr c3
    have c3b1 : ((l0.length : Int) != (l1.length : Int)) = false := bne_eq_false_iff_eq.mpr c3
    have c3b2 : (l0.length == l1.length) = true := by first | simpa using c3 | (simp at c3 ⊢; omega)
    clear c3
    have H' := Aside0.mk H
    clear H
    go_enter Try.func22, Try.ntmps22
    go_wp2
    repeat (go_quiet (fail); try go_wp2)
    go_loopg [5] k (fun kq v5 w' => ∃ (x5_1 : Int), v5 = .int .i64 x5_1 ∧ Aside0 (spiritlevelref02_SameInts.l0 kq l0 l1 x5_1 = some r) ∧ Aside0 (kq ≤ k) ∧ Drawn0 w w')
    case atStart => exact ⟨(0), (by first | rfl | (simp; done) | (simp [*]; done)), H', ⟨Nat.le_refl _⟩, by repeat (first | exact Drawn0.refl _ | apply Drawn0.step)⟩
    case round =>
      clear H'
      try clear c1
      try clear c2
      try clear p2
      try clear c3
      try clear c3b0
      try clear c3b1
      try clear c3b2
      obtain ⟨x5_1, rfl, HA, HK1, ⟨m1, rfl⟩⟩ := hrel
      cases gk with
      | zero => exact absurd HA.out (by simp [spiritlevelref02_SameInts.l0])
      | succ k1 =>
        have H := HA.out
        clear HA
        simp only [spiritlevelref02_SameInts.l0] at H
        by_cases c4 : x5_1 < (l0.length : Int)
        · rw [if_pos c4] at H
          have c4b0 : decide (x5_1 < (l0.length : Int)) = true := decide_eq_true c4
          clear c4
          by_cases c5 : 0 ≤ x5_1
          · rw [if_pos c5] at H
            have c5b0 : decide (0 ≤ x5_1) = true := decide_eq_true c5
            clear c5
            by_cases c6 : x5_1 < (l1.length : Int)
            · rw [if_pos c6] at H
              have c6b0 : decide (x5_1 < (l1.length : Int)) = true := decide_eq_true c6
              clear c6
              by_cases c7 : (rd l0 x5_1) = (rd l1 x5_1)
              · rw [if_pos c7] at H
                have c7b0 : ((rd l0 x5_1) == (rd l1 x5_1)) = true := beq_iff_eq.mpr c7
                have c7b1 : ((rd l0 x5_1) != (rd l1 x5_1)) = false := bne_eq_false_iff_eq.mpr c7
                clear c7
                have H' := Aside0.mk H
                clear H
                have p146 : 0 ≤ (x5_1 : Int) := of_decide_eq_true (by first | (with_reducible assumption) | assumption)
                have q146 : x5_1 < (l0.length : Int) := of_decide_eq_true (by first | (with_reducible assumption) | assumption)
                obtain ⟨ad146, e146, hx146_0⟩ := Kd.at_int HR0.out x5_1 p146 q146
                cases e146
                replace p146 := eq_true p146
                replace q146 := eq_true q146
                have p147 : 0 ≤ (x5_1 : Int) := of_decide_eq_true (by first | (with_reducible assumption) | assumption)
                have q147 : x5_1 < (l1.length : Int) := of_decide_eq_true (by first | (with_reducible assumption) | assumption)
                obtain ⟨ad147, e147, hx147_0⟩ := Kd.at_int HR1.out x5_1 p147 q147
                cases e147
                replace p147 := eq_true p147
                replace q147 := eq_true q147
                go_wp2
                repeat (go_quiet (fail); try go_wp2)
                go_roundg k1
                case measure => have := HK1.out; omega
                case rel => exact ⟨(wrap64 (x5_1 + 1)), (by first | rfl | (simp; done) | (simp [*]; done)), H', ⟨by have := HK1.out; omega⟩, by repeat (first | exact Drawn0.refl _ | apply Drawn0.step)⟩
              · rw [if_neg c7] at H
                have c7b0 : ((rd l0 x5_1) == (rd l1 x5_1)) = false := beq_eq_false_iff_ne.mpr c7
                have c7b1 : ((rd l0 x5_1) != (rd l1 x5_1)) = true := bne_iff_ne.mpr c7
                obtain rfl := Option.some.inj H
                have p146 : 0 ≤ (x5_1 : Int) := of_decide_eq_true (by first | (with_reducible assumption) | assumption)
                have q146 : x5_1 < (l0.length : Int) := of_decide_eq_true (by first | (with_reducible assumption) | assumption)
                obtain ⟨ad146, e146, hx146_0⟩ := Kd.at_int HR0.out x5_1 p146 q146
                cases e146
                replace p146 := eq_true p146
                replace q146 := eq_true q146
                have p147 : 0 ≤ (x5_1 : Int) := of_decide_eq_true (by first | (with_reducible assumption) | assumption)
                have q147 : x5_1 < (l1.length : Int) := of_decide_eq_true (by first | (with_reducible assumption) | assumption)
                obtain ⟨ad147, e147, hx147_0⟩ := Kd.at_int HR1.out x5_1 p147 q147
                cases e147
                replace p147 := eq_true p147
                replace q147 := eq_true q147
                go_wp2
                repeat (go_quiet (fail); try go_wp2)
                go_ret
                exact ⟨by first | rfl | (simp; done) | (simp [*]; done), by repeat (first | exact Drawn0.refl _ | apply Drawn0.step)⟩
            · rw [if_neg c6] at H
              exact absurd H (by simp)
          · rw [if_neg c5] at H
            exact absurd H (by simp)
        · rw [if_neg c4] at H
          have c4b0 : decide (x5_1 < (l0.length : Int)) = false := decide_eq_false c4
          clear c4
          obtain rfl := Option.some.inj H
          go_wp2
          repeat (go_quiet (fail); try go_wp2)
          go_ret
          exact ⟨by first | rfl | (simp; done) | (simp [*]; done), by repeat (first | exact Drawn0.refl _ | apply Drawn0.step)⟩
  · rw [if_neg c3] at H
    have c3b0 : ((l0.length : Int) == (l1.length : Int)) = false := beq_eq_false_iff_ne.mpr c3
    have c3b1 : ((l0.length : Int) != (l1.length : Int)) = true := bne_iff_ne.mpr c3
    have c3b2 : (l0.length == l1.length) = false := by first | simpa using c3 | (simp at c3 ⊢; omega)
    obtain rfl := Option.some.inj H
    go_enter Try.func22, Try.ntmps22
    go_wp2
    repeat (go_quiet (fail); try go_wp2)
    go_ret
    exact ⟨by first | rfl | (simp; done) | (simp [*]; done), by repeat (first | exact Drawn0.refl _ | apply Drawn0.step)⟩

end Go.Proofs.Ytnbccfecmpocaaa.QHashGates
