-- Made by wip/myprint.sh (a patched print): a text of this session's own.
import Derived.Test.YtmdabengejlijaaQLitsOrderx0
import Derived.Test.YtmdabengejlijaaQLitsOrderx1
namespace Go.Proofs.Ytmdabengejlijaa.QLitsOrder
open Go.RowKit Go.Proofs.YtmdabengejlijaaW.PrintWords Go.Proofs.YtmdabengejlijaaW.PrintLast Go.Proofs.YtmdabengejlijaaW.PrintMore
attribute [local go_sem] max2_int min2_int max_two min_two max_three min_three max_four min_four   -- for this text's walks alone
set_option linter.unusedVariables false
set_option linter.unusedSimpArgs false

/-! ### spiritlevellaw01_LitsOrder: function 5 -/
def spiritlevellaw01_LitsOrder.j0 : Nat → Int → Int → Bool → Option (Bool)
  | 0, _, _, _ => none
  | k + 1, x0, x1, x32 => if x32 = true then ((spiritlevellaw01_alive.f k).bind fun t132 => (some t132)) else ((lits_And.f k x0 x1).bind fun bt133 => ((lits_And.f k x1 x0).bind fun bt136 => ((lits_And.f k x0 x0).bind fun bt139 => ((lits_And.f k x0 1).bind fun bt142 => ((lits_And.f k x0 0).bind fun bt145 => ((lits_Neg.f k x0).bind fun bt148 => ((lits_And.f k x0 bt148.1).bind fun bt150 => (if bt133.2.2 = 0 then (if bt136.2.2 = 0 then (if bt139.2.2 = 0 then (if bt142.2.2 = 0 then (if bt145.2.2 = 0 then (if bt148.2 = 0 then (if bt150.2.2 = 0 then (if bt133.1 = bt136.1 then (if (bt133.2.1 == bt136.2.1) = true then (if bt139.2.1 = true then (if bt142.2.1 = true then (if bt145.2.1 = true then (if bt150.2.1 = true then (if bt139.1 = x0 then (if bt142.1 = x0 then (if bt145.1 = 0 then (if bt150.1 = 0 then ((spiritlevellaw01_alive.f k).bind fun t153 => (some t153)) else (some false)) else (some false)) else (some false)) else (some false)) else (some false)) else (some false)) else (some false)) else (some false)) else (some false)) else (some false)) else (some false)) else (some false)) else (some false)) else (some false)) else (some false)) else (some false)) else (some false)))))))))
def spiritlevellaw01_LitsOrder.f (k : Nat) (a0 : Int) (a1 : Int) : Option (Bool) := (spiritlevelref01_Is.f a0).bind fun t130 => (if t130 = true then ((spiritlevelref01_Is.f a1).bind fun t131 => (spiritlevellaw01_LitsOrder.j0 k a0 a1 (!t131))) else (spiritlevellaw01_LitsOrder.j0 k a0 a1 true))
theorem spiritlevellaw01_LitsOrder.mono_l : ∀ k, (∀ y0 y1 y2, LeO (spiritlevellaw01_LitsOrder.j0 k y0 y1 y2) (spiritlevellaw01_LitsOrder.j0 (k + 1) y0 y1 y2))
  | 0 => fun _ _ _ r h => by simp [spiritlevellaw01_LitsOrder.j0] at h
  | k + 1 => by
    have ih0 := spiritlevellaw01_LitsOrder.mono_l k
    · intro y0 y1 y2
      unfold spiritlevellaw01_LitsOrder.j0
      repeat' first
      | (with_reducible exact ih0 _ _ _)
      | (with_reducible exact lits_And.mono _ _ _)
      | (with_reducible exact lits_Neg.mono _ _)
      | (with_reducible exact spiritlevellaw01_alive.mono _)
      | (with_reducible exact LeO.refl _)
      | (with_reducible exact LeO.none _)
      | (with_reducible refine LeO.ite ?_ ?_)
      | (with_reducible refine LeO.bind ?_ (fun _ => ?_))
      | exact ih0 _ _ _
      | exact lits_And.mono _ _ _
      | exact lits_Neg.mono _ _
      | exact spiritlevellaw01_alive.mono _
      | exact LeO.none _
      | refine LeO.ite ?_ ?_
      | refine LeO.bind ?_ (fun _ => ?_)
theorem spiritlevellaw01_LitsOrder.mono : ∀ a0 a1 k, LeO (spiritlevellaw01_LitsOrder.f k a0 a1) (spiritlevellaw01_LitsOrder.f (k + 1) a0 a1) := by
  intro a0 a1 k
  have ih0 := spiritlevellaw01_LitsOrder.mono_l k
  unfold spiritlevellaw01_LitsOrder.f
  repeat' first
      | (with_reducible exact ih0 _ _ _)
      | (with_reducible exact lits_And.mono _ _ _)
      | (with_reducible exact lits_Neg.mono _ _)
      | (with_reducible exact spiritlevellaw01_alive.mono _)
      | (with_reducible exact LeO.refl _)
      | (with_reducible exact LeO.none _)
      | (with_reducible refine LeO.ite ?_ ?_)
      | (with_reducible refine LeO.bind ?_ (fun _ => ?_))
      | exact ih0 _ _ _
      | exact lits_And.mono _ _ _
      | exact lits_Neg.mono _ _
      | exact spiritlevellaw01_alive.mono _
      | exact LeO.none _
      | refine LeO.ite ?_ ?_
      | refine LeO.bind ?_ (fun _ => ?_)
set_option maxHeartbeats 8000000 in
set_option maxRecDepth 100000 in
theorem spiritlevellaw01_LitsOrder.calls (k : Nat) (a0 : Int) (a1 : Int) (r : Bool) (w : World) (ht_ : r = true) (h : spiritlevellaw01_LitsOrder.f k a0 a1 = some r) :
    Calls Try.prog 5 #[.int .i64 a0, .int .i64 a1] w fun e w' => e = .returned (.bool r) ∧ Below w.heap.size w w' := by
  have HT_ := Aside0.mk ht_
  clear ht_
  have HB := Aside0.mk (Below.refl w.heap.size w)
  have H : ((spiritlevelref01_Is.f a0).bind fun t130 => (if t130 = true then ((spiritlevelref01_Is.f a1).bind fun t131 => (spiritlevellaw01_LitsOrder.j0 k a0 a1 (!t131))) else (spiritlevellaw01_LitsOrder.j0 k a0 a1 true))) = some r := h
  clear h
  have HC3 := Aside0.mk H
  clear H
  go_enter Try.func5, Try.ntmps5
  go_upto_region 1 with (fail)
  go_cut [32] (fun v32 wc => ∃ (kq : Nat) (x32_2 : Bool), v32 = .bool x32_2 ∧ Aside0 (spiritlevellaw01_LitsOrder.j0 kq a0 a1 x32_2 = some r) ∧ Aside0 (kq ≤ k) ∧ Aside0 (Below w.heap.size w wc))
  case first =>
    have H := HC3.out
    clear HC3
    replace H := Option.bind_eq_some_iff.mp H
    obtain ⟨t130, A40, H⟩ := H
    replace H : (if t130 = true then ((spiritlevelref01_Is.f a1).bind fun t131 => (spiritlevellaw01_LitsOrder.j0 k a0 a1 (!t131))) else (spiritlevellaw01_LitsOrder.j0 k a0 a1 true)) = some r := H
    have A4 := Aside0.mk A40
    clear A40
    by_cases c5 : t130 = true
    · subst c5
      have H1 : ((spiritlevelref01_Is.f a1).bind fun t131 => (spiritlevellaw01_LitsOrder.j0 k a0 a1 (!t131))) = some r := by rw [if_pos rfl] at H; exact H
      clear H
      have H := H1
      clear H1
      replace H := Option.bind_eq_some_iff.mp H
      obtain ⟨t131, A60, H⟩ := H
      replace H : (spiritlevellaw01_LitsOrder.j0 k a0 a1 (!t131)) = some r := H
      have A6 := Aside0.mk A60
      clear A60
      have H' := Aside0.mk H
      clear H
      go_wp2_with (first | ((with_reducible refine gate_callee (f := 19) rfl ?_); refine goesL_ (some 26) rfl rfl Try.func19 (by kernel_rfl) rfl #[.int .i64 a0] rfl (by (try simp only [List.map_toArray, List.map_cons, List.map_nil]); first | done | rfl | (simp only [List.length_drop, List.length_take]; rfl)) ?_; (with_reducible refine (spiritlevelref01_Is.calls a0 true _ A4.out).mono ?_); rintro e w' ⟨rfl, ⟨nd, rfl⟩⟩; refine ⟨_, rfl, ?_⟩) | (go_at_call 19; (with_reducible refine (spiritlevelref01_Is.calls a1 t131 _ A6.out).mono ?_); rintro e w' ⟨rfl, ⟨nd, rfl⟩⟩))
      go_meet
      case rel => exact ⟨_, (!t131), (by first | rfl | (simp; done) | (simp [*]; done)), H', ⟨by first | omega | exact Nat.le_refl _⟩, ⟨by repeat (first | (with_reducible first | exact HB.out | apply below_alloc | apply pw_below_drewN | apply below_drew1) | exact HB.out)⟩⟩
    · replace c5 := Bool.eq_false_iff.mpr c5
      subst c5
      have H1 : (spiritlevellaw01_LitsOrder.j0 k a0 a1 true) = some r := by rw [if_neg (show ¬ (false = true) by decide)] at H; exact H
      clear H
      have H := H1
      clear H1
      have H' := Aside0.mk H
      clear H
      go_wp2_with (first | ((with_reducible refine gate_callee (f := 19) rfl ?_); refine goesL_ (some 26) rfl rfl Try.func19 (by kernel_rfl) rfl #[.int .i64 a0] rfl (by (try simp only [List.map_toArray, List.map_cons, List.map_nil]); first | done | rfl | (simp only [List.length_drop, List.length_take]; rfl)) ?_; (with_reducible refine (spiritlevelref01_Is.calls a0 false _ A4.out).mono ?_); rintro e w' ⟨rfl, ⟨nd, rfl⟩⟩; refine ⟨_, rfl, ?_⟩))
      go_meet
      case rel => exact ⟨_, (true), (by first | rfl | (simp; done) | (simp [*]; done)), H', ⟨by first | omega | exact Nat.le_refl _⟩, ⟨by repeat (first | (with_reducible first | exact HB.out | apply below_alloc | apply pw_below_drewN | apply below_drew1) | exact HB.out)⟩⟩
  case rest =>
    clear HC3
    try clear c1
    try clear p2
    try clear c5
    obtain ⟨kq, x32_2, rfl, HA, HJ2, HB⟩ := hcut
    cases kq with
    | zero => exact absurd HA.out (by simp [spiritlevellaw01_LitsOrder.j0])
    | succ kj2 =>
      have H := HA.out
      clear HA
      simp only [spiritlevellaw01_LitsOrder.j0] at H
      by_cases c7 : x32_2 = true
      · subst c7
        have H1 : ((spiritlevellaw01_alive.f kj2).bind fun t132 => (some t132)) = some r := by rw [if_pos rfl] at H; exact H
        clear H
        have H := H1
        clear H1
        replace H := Option.bind_eq_some_iff.mp H
        obtain ⟨t132, A80, H⟩ := H
        replace H : (some t132) = some r := H
        have A8 := Aside0.mk A80
        clear A80
        obtain rfl := Option.some.inj H
        go_wp2_with (first | ((with_reducible refine gate_callee (f := 20) rfl ?_); refine goesL_ (some 33) rfl rfl Try.func20 (by kernel_rfl) rfl #[] rfl (by (try simp only [List.map_toArray, List.map_cons, List.map_nil]); first | done | rfl | (simp only [List.length_drop, List.length_take]; rfl)) ?_; (with_reducible refine (spiritlevellaw01_alive.calls kj2  t132 _ A8.out).mono ?_); rintro e w9 ⟨rfl, hb⟩; refine ⟨_, rfl, ?_⟩; have n0_ := Aside0.mk (below_step (by repeat (first | (with_reducible first | exact HB.out | apply below_alloc | apply pw_below_drewN | apply below_drew1) | exact HB.out)) hb); clear HB; have HB := n0_; clear n0_; (try clear hb); (try clear hb2); (try clear hk); (try clear hi)))
        go_ret
        exact ⟨by first | rfl | (simp [errW_none, errW_some] <;> rfl) | (simp [*, errW_none, errW_some] <;> rfl), by repeat (first | (with_reducible first | exact HB.out | apply below_alloc | apply pw_below_drewN | apply below_drew1) | exact HB.out)⟩
      · replace c7 := Bool.eq_false_iff.mpr c7
        subst c7
        have H1 : ((lits_And.f kj2 a0 a1).bind fun bt133 => ((lits_And.f kj2 a1 a0).bind fun bt136 => ((lits_And.f kj2 a0 a0).bind fun bt139 => ((lits_And.f kj2 a0 1).bind fun bt142 => ((lits_And.f kj2 a0 0).bind fun bt145 => ((lits_Neg.f kj2 a0).bind fun bt148 => ((lits_And.f kj2 a0 bt148.1).bind fun bt150 => (if bt133.2.2 = 0 then (if bt136.2.2 = 0 then (if bt139.2.2 = 0 then (if bt142.2.2 = 0 then (if bt145.2.2 = 0 then (if bt148.2 = 0 then (if bt150.2.2 = 0 then (if bt133.1 = bt136.1 then (if (bt133.2.1 == bt136.2.1) = true then (if bt139.2.1 = true then (if bt142.2.1 = true then (if bt145.2.1 = true then (if bt150.2.1 = true then (if bt139.1 = a0 then (if bt142.1 = a0 then (if bt145.1 = 0 then (if bt150.1 = 0 then ((spiritlevellaw01_alive.f kj2).bind fun t153 => (some t153)) else (some false)) else (some false)) else (some false)) else (some false)) else (some false)) else (some false)) else (some false)) else (some false)) else (some false)) else (some false)) else (some false)) else (some false)) else (some false)) else (some false)) else (some false)) else (some false)) else (some false))))))))) = some r := by rw [if_neg (show ¬ (false = true) by decide)] at H; exact H
        clear H
        have H := H1
        clear H1
        replace H := Option.bind_eq_some_iff.mp H
        obtain ⟨⟨t133, t134, t135⟩, A100, H⟩ := H
        replace H : ((lits_And.f kj2 a1 a0).bind fun bt136 => ((lits_And.f kj2 a0 a0).bind fun bt139 => ((lits_And.f kj2 a0 1).bind fun bt142 => ((lits_And.f kj2 a0 0).bind fun bt145 => ((lits_Neg.f kj2 a0).bind fun bt148 => ((lits_And.f kj2 a0 bt148.1).bind fun bt150 => (if t135 = 0 then (if bt136.2.2 = 0 then (if bt139.2.2 = 0 then (if bt142.2.2 = 0 then (if bt145.2.2 = 0 then (if bt148.2 = 0 then (if bt150.2.2 = 0 then (if t133 = bt136.1 then (if (t134 == bt136.2.1) = true then (if bt139.2.1 = true then (if bt142.2.1 = true then (if bt145.2.1 = true then (if bt150.2.1 = true then (if bt139.1 = a0 then (if bt142.1 = a0 then (if bt145.1 = 0 then (if bt150.1 = 0 then ((spiritlevellaw01_alive.f kj2).bind fun t153 => (some t153)) else (some false)) else (some false)) else (some false)) else (some false)) else (some false)) else (some false)) else (some false)) else (some false)) else (some false)) else (some false)) else (some false)) else (some false)) else (some false)) else (some false)) else (some false)) else (some false)) else (some false)))))))) = some r := H
        have A10 := Aside0.mk A100
        clear A100
        replace H := Option.bind_eq_some_iff.mp H
        obtain ⟨⟨t136, t137, t138⟩, A110, H⟩ := H
        replace H : ((lits_And.f kj2 a0 a0).bind fun bt139 => ((lits_And.f kj2 a0 1).bind fun bt142 => ((lits_And.f kj2 a0 0).bind fun bt145 => ((lits_Neg.f kj2 a0).bind fun bt148 => ((lits_And.f kj2 a0 bt148.1).bind fun bt150 => (if t135 = 0 then (if t138 = 0 then (if bt139.2.2 = 0 then (if bt142.2.2 = 0 then (if bt145.2.2 = 0 then (if bt148.2 = 0 then (if bt150.2.2 = 0 then (if t133 = t136 then (if (t134 == t137) = true then (if bt139.2.1 = true then (if bt142.2.1 = true then (if bt145.2.1 = true then (if bt150.2.1 = true then (if bt139.1 = a0 then (if bt142.1 = a0 then (if bt145.1 = 0 then (if bt150.1 = 0 then ((spiritlevellaw01_alive.f kj2).bind fun t153 => (some t153)) else (some false)) else (some false)) else (some false)) else (some false)) else (some false)) else (some false)) else (some false)) else (some false)) else (some false)) else (some false)) else (some false)) else (some false)) else (some false)) else (some false)) else (some false)) else (some false)) else (some false))))))) = some r := H
        have A11 := Aside0.mk A110
        clear A110
        replace H := Option.bind_eq_some_iff.mp H
        obtain ⟨⟨t139, t140, t141⟩, A120, H⟩ := H
        replace H : ((lits_And.f kj2 a0 1).bind fun bt142 => ((lits_And.f kj2 a0 0).bind fun bt145 => ((lits_Neg.f kj2 a0).bind fun bt148 => ((lits_And.f kj2 a0 bt148.1).bind fun bt150 => (if t135 = 0 then (if t138 = 0 then (if t141 = 0 then (if bt142.2.2 = 0 then (if bt145.2.2 = 0 then (if bt148.2 = 0 then (if bt150.2.2 = 0 then (if t133 = t136 then (if (t134 == t137) = true then (if t140 = true then (if bt142.2.1 = true then (if bt145.2.1 = true then (if bt150.2.1 = true then (if t139 = a0 then (if bt142.1 = a0 then (if bt145.1 = 0 then (if bt150.1 = 0 then ((spiritlevellaw01_alive.f kj2).bind fun t153 => (some t153)) else (some false)) else (some false)) else (some false)) else (some false)) else (some false)) else (some false)) else (some false)) else (some false)) else (some false)) else (some false)) else (some false)) else (some false)) else (some false)) else (some false)) else (some false)) else (some false)) else (some false)))))) = some r := H
        have A12 := Aside0.mk A120
        clear A120
        replace H := Option.bind_eq_some_iff.mp H
        obtain ⟨⟨t142, t143, t144⟩, A130, H⟩ := H
        replace H : ((lits_And.f kj2 a0 0).bind fun bt145 => ((lits_Neg.f kj2 a0).bind fun bt148 => ((lits_And.f kj2 a0 bt148.1).bind fun bt150 => (if t135 = 0 then (if t138 = 0 then (if t141 = 0 then (if t144 = 0 then (if bt145.2.2 = 0 then (if bt148.2 = 0 then (if bt150.2.2 = 0 then (if t133 = t136 then (if (t134 == t137) = true then (if t140 = true then (if t143 = true then (if bt145.2.1 = true then (if bt150.2.1 = true then (if t139 = a0 then (if t142 = a0 then (if bt145.1 = 0 then (if bt150.1 = 0 then ((spiritlevellaw01_alive.f kj2).bind fun t153 => (some t153)) else (some false)) else (some false)) else (some false)) else (some false)) else (some false)) else (some false)) else (some false)) else (some false)) else (some false)) else (some false)) else (some false)) else (some false)) else (some false)) else (some false)) else (some false)) else (some false)) else (some false))))) = some r := H
        have A13 := Aside0.mk A130
        clear A130
        replace H := Option.bind_eq_some_iff.mp H
        obtain ⟨⟨t145, t146, t147⟩, A140, H⟩ := H
        replace H : ((lits_Neg.f kj2 a0).bind fun bt148 => ((lits_And.f kj2 a0 bt148.1).bind fun bt150 => (if t135 = 0 then (if t138 = 0 then (if t141 = 0 then (if t144 = 0 then (if t147 = 0 then (if bt148.2 = 0 then (if bt150.2.2 = 0 then (if t133 = t136 then (if (t134 == t137) = true then (if t140 = true then (if t143 = true then (if t146 = true then (if bt150.2.1 = true then (if t139 = a0 then (if t142 = a0 then (if t145 = 0 then (if bt150.1 = 0 then ((spiritlevellaw01_alive.f kj2).bind fun t153 => (some t153)) else (some false)) else (some false)) else (some false)) else (some false)) else (some false)) else (some false)) else (some false)) else (some false)) else (some false)) else (some false)) else (some false)) else (some false)) else (some false)) else (some false)) else (some false)) else (some false)) else (some false)))) = some r := H
        have A14 := Aside0.mk A140
        clear A140
        replace H := Option.bind_eq_some_iff.mp H
        obtain ⟨⟨t148, t149⟩, A150, H⟩ := H
        replace H : ((lits_And.f kj2 a0 t148).bind fun bt150 => (if t135 = 0 then (if t138 = 0 then (if t141 = 0 then (if t144 = 0 then (if t147 = 0 then (if t149 = 0 then (if bt150.2.2 = 0 then (if t133 = t136 then (if (t134 == t137) = true then (if t140 = true then (if t143 = true then (if t146 = true then (if bt150.2.1 = true then (if t139 = a0 then (if t142 = a0 then (if t145 = 0 then (if bt150.1 = 0 then ((spiritlevellaw01_alive.f kj2).bind fun t153 => (some t153)) else (some false)) else (some false)) else (some false)) else (some false)) else (some false)) else (some false)) else (some false)) else (some false)) else (some false)) else (some false)) else (some false)) else (some false)) else (some false)) else (some false)) else (some false)) else (some false)) else (some false))) = some r := H
        have A15 := Aside0.mk A150
        clear A150
        replace H := Option.bind_eq_some_iff.mp H
        obtain ⟨⟨t150, t151, t152⟩, A160, H⟩ := H
        replace H : (if t135 = 0 then (if t138 = 0 then (if t141 = 0 then (if t144 = 0 then (if t147 = 0 then (if t149 = 0 then (if t152 = 0 then (if t133 = t136 then (if (t134 == t137) = true then (if t140 = true then (if t143 = true then (if t146 = true then (if t151 = true then (if t139 = a0 then (if t142 = a0 then (if t145 = 0 then (if t150 = 0 then ((spiritlevellaw01_alive.f kj2).bind fun t153 => (some t153)) else (some false)) else (some false)) else (some false)) else (some false)) else (some false)) else (some false)) else (some false)) else (some false)) else (some false)) else (some false)) else (some false)) else (some false)) else (some false)) else (some false)) else (some false)) else (some false)) else (some false)) = some r := H
        have A16 := Aside0.mk A160
        clear A160
        by_cases c17 : t135 = 0
        · rw [if_pos c17] at H
          have c17b0 : (t135 == 0) = true := beq_iff_eq.mpr c17
          have c17b1 : (t135 != 0) = false := bne_eq_false_iff_eq.mpr c17
          clear c17
          by_cases c18 : t138 = 0
          · rw [if_pos c18] at H
            have c18b0 : (t138 == 0) = true := beq_iff_eq.mpr c18
            have c18b1 : (t138 != 0) = false := bne_eq_false_iff_eq.mpr c18
            clear c18
            by_cases c19 : t141 = 0
            · rw [if_pos c19] at H
              have c19b0 : (t141 == 0) = true := beq_iff_eq.mpr c19
              have c19b1 : (t141 != 0) = false := bne_eq_false_iff_eq.mpr c19
              clear c19
              by_cases c20 : t144 = 0
              · rw [if_pos c20] at H
                have c20b0 : (t144 == 0) = true := beq_iff_eq.mpr c20
                have c20b1 : (t144 != 0) = false := bne_eq_false_iff_eq.mpr c20
                clear c20
                by_cases c21 : t147 = 0
                · rw [if_pos c21] at H
                  have c21b0 : (t147 == 0) = true := beq_iff_eq.mpr c21
                  have c21b1 : (t147 != 0) = false := bne_eq_false_iff_eq.mpr c21
                  clear c21
                  by_cases c22 : t149 = 0
                  · rw [if_pos c22] at H
                    have c22b0 : (t149 == 0) = true := beq_iff_eq.mpr c22
                    have c22b1 : (t149 != 0) = false := bne_eq_false_iff_eq.mpr c22
                    clear c22
                    by_cases c23 : t152 = 0
                    · rw [if_pos c23] at H
                      have c23b0 : (t152 == 0) = true := beq_iff_eq.mpr c23
                      have c23b1 : (t152 != 0) = false := bne_eq_false_iff_eq.mpr c23
                      clear c23
                      by_cases c24 : t133 = t136
                      · rw [if_pos c24] at H
                        have c24b0 : (t133 == t136) = true := beq_iff_eq.mpr c24
                        have c24b1 : (t133 != t136) = false := bne_eq_false_iff_eq.mpr c24
                        clear c24
                        by_cases c25 : (t134 == t137) = true
                        · rw [if_pos c25] at H
                          have c25b0 : (t134 == t137) = true := c25
                          (try (have c25b1 : decide (t134 = t137) = true := by simpa using c25))
                          (try (have c25b2 : (t134 == t137) = true := by simpa using c25))
                          clear c25
                          by_cases c26 : t140 = true
                          · subst c26
                            have H1 : (if t143 = true then (if t146 = true then (if t151 = true then (if t139 = a0 then (if t142 = a0 then (if t145 = 0 then (if t150 = 0 then ((spiritlevellaw01_alive.f kj2).bind fun t153 => (some t153)) else (some false)) else (some false)) else (some false)) else (some false)) else (some false)) else (some false)) else (some false)) = some r := by rw [if_pos rfl] at H; exact H
                            clear H
                            have H := H1
                            clear H1
                            by_cases c27 : t143 = true
                            · subst c27
                              have H1 : (if t146 = true then (if t151 = true then (if t139 = a0 then (if t142 = a0 then (if t145 = 0 then (if t150 = 0 then ((spiritlevellaw01_alive.f kj2).bind fun t153 => (some t153)) else (some false)) else (some false)) else (some false)) else (some false)) else (some false)) else (some false)) = some r := by rw [if_pos rfl] at H; exact H
                              clear H
                              have H := H1
                              clear H1
                              by_cases c28 : t146 = true
                              · subst c28
                                have H1 : (if t151 = true then (if t139 = a0 then (if t142 = a0 then (if t145 = 0 then (if t150 = 0 then ((spiritlevellaw01_alive.f kj2).bind fun t153 => (some t153)) else (some false)) else (some false)) else (some false)) else (some false)) else (some false)) = some r := by rw [if_pos rfl] at H; exact H
                                clear H
                                have H := H1
                                clear H1
                                by_cases c29 : t151 = true
                                · subst c29
                                  have H1 : (if t139 = a0 then (if t142 = a0 then (if t145 = 0 then (if t150 = 0 then ((spiritlevellaw01_alive.f kj2).bind fun t153 => (some t153)) else (some false)) else (some false)) else (some false)) else (some false)) = some r := by rw [if_pos rfl] at H; exact H
                                  clear H
                                  have H := H1
                                  clear H1
                                  by_cases c30 : t139 = a0
                                  · rw [if_pos c30] at H
                                    have c30b0 : (t139 == a0) = true := beq_iff_eq.mpr c30
                                    have c30b1 : (t139 != a0) = false := bne_eq_false_iff_eq.mpr c30
                                    clear c30
                                    by_cases c31 : t142 = a0
                                    · rw [if_pos c31] at H
                                      have c31b0 : (t142 == a0) = true := beq_iff_eq.mpr c31
                                      have c31b1 : (t142 != a0) = false := bne_eq_false_iff_eq.mpr c31
                                      clear c31
                                      by_cases c32 : t145 = 0
                                      · rw [if_pos c32] at H
                                        have c32b0 : (t145 == 0) = true := beq_iff_eq.mpr c32
                                        have c32b1 : (t145 != 0) = false := bne_eq_false_iff_eq.mpr c32
                                        clear c32
                                        by_cases c33 : t150 = 0
                                        · rw [if_pos c33] at H
                                          have c33b0 : (t150 == 0) = true := beq_iff_eq.mpr c33
                                          have c33b1 : (t150 != 0) = false := bne_eq_false_iff_eq.mpr c33
                                          clear c33
                                          replace H := Option.bind_eq_some_iff.mp H
                                          obtain ⟨t153, A340, H⟩ := H
                                          replace H : (some t153) = some r := H
                                          have A34 := Aside0.mk A340
                                          clear A340
                                          obtain rfl := Option.some.inj H
                                          go_wp2_with (first | ((with_reducible refine gate_callee (f := 9) rfl ?_); refine goesL_ (some 37) rfl rfl Try.func9 (by kernel_rfl) rfl #[.int .i64 a0, .int .i64 a1] rfl (by (try simp only [List.map_toArray, List.map_cons, List.map_nil]); first | done | rfl | (simp only [List.length_drop, List.length_take]; rfl)) ?_; (with_reducible refine (lits_And.calls kj2 a0 a1 t133 t134 t135 _ A10.out).mono ?_); rintro e w35 ⟨rfl, hb⟩; refine ⟨_, rfl, ?_⟩; have n0_ := Aside0.mk (below_step (by repeat (first | (with_reducible first | exact HB.out | apply below_alloc | apply pw_below_drewN | apply below_drew1) | exact HB.out)) hb); clear HB; have HB := n0_; clear n0_; (try clear hb); (try clear hb2); (try clear hk); (try clear hi)) | ((with_reducible refine gate_callee (f := 9) rfl ?_); refine goesL_ (some 44) rfl rfl Try.func9 (by kernel_rfl) rfl #[.int .i64 a1, .int .i64 a0] rfl (by (try simp only [List.map_toArray, List.map_cons, List.map_nil]); first | done | rfl | (simp only [List.length_drop, List.length_take]; rfl)) ?_; (with_reducible refine (lits_And.calls kj2 a1 a0 t136 t137 t138 _ A11.out).mono ?_); rintro e w36 ⟨rfl, hb⟩; refine ⟨_, rfl, ?_⟩; have n0_ := Aside0.mk (below_step (by repeat (first | (with_reducible first | exact HB.out | apply below_alloc | apply pw_below_drewN | apply below_drew1) | exact HB.out)) hb); clear HB; have HB := n0_; clear n0_; (try clear hb); (try clear hb2); (try clear hk); (try clear hi)) | ((with_reducible refine gate_callee (f := 9) rfl ?_); refine goesL_ (some 51) rfl rfl Try.func9 (by kernel_rfl) rfl #[.int .i64 a0, .int .i64 a0] rfl (by (try simp only [List.map_toArray, List.map_cons, List.map_nil]); first | done | rfl | (simp only [List.length_drop, List.length_take]; rfl)) ?_; (with_reducible refine (lits_And.calls kj2 a0 a0 t139 true t141 _ A12.out).mono ?_); rintro e w37 ⟨rfl, hb⟩; refine ⟨_, rfl, ?_⟩; have n0_ := Aside0.mk (below_step (by repeat (first | (with_reducible first | exact HB.out | apply below_alloc | apply pw_below_drewN | apply below_drew1) | exact HB.out)) hb); clear HB; have HB := n0_; clear n0_; (try clear hb); (try clear hb2); (try clear hk); (try clear hi)) | ((with_reducible refine gate_callee (f := 9) rfl ?_); refine goesL_ (some 57) rfl rfl Try.func9 (by kernel_rfl) rfl #[.int .i64 a0, .int .i64 1] rfl (by (try simp only [List.map_toArray, List.map_cons, List.map_nil]); first | done | rfl | (simp only [List.length_drop, List.length_take]; rfl)) ?_; (with_reducible refine (lits_And.calls kj2 a0 1 t142 true t144 _ A13.out).mono ?_); rintro e w38 ⟨rfl, hb⟩; refine ⟨_, rfl, ?_⟩; have n0_ := Aside0.mk (below_step (by repeat (first | (with_reducible first | exact HB.out | apply below_alloc | apply pw_below_drewN | apply below_drew1) | exact HB.out)) hb); clear HB; have HB := n0_; clear n0_; (try clear hb); (try clear hb2); (try clear hk); (try clear hi)) | ((with_reducible refine gate_callee (f := 9) rfl ?_); refine goesL_ (some 63) rfl rfl Try.func9 (by kernel_rfl) rfl #[.int .i64 a0, .int .i64 0] rfl (by (try simp only [List.map_toArray, List.map_cons, List.map_nil]); first | done | rfl | (simp only [List.length_drop, List.length_take]; rfl)) ?_; (with_reducible refine (lits_And.calls kj2 a0 0 t145 true t147 _ A14.out).mono ?_); rintro e w39 ⟨rfl, hb⟩; refine ⟨_, rfl, ?_⟩; have n0_ := Aside0.mk (below_step (by repeat (first | (with_reducible first | exact HB.out | apply below_alloc | apply pw_below_drewN | apply below_drew1) | exact HB.out)) hb); clear HB; have HB := n0_; clear n0_; (try clear hb); (try clear hb2); (try clear hk); (try clear hi)) | ((with_reducible refine gate_callee (f := 13) rfl ?_); refine goesL_ (some 69) rfl rfl Try.func13 (by kernel_rfl) rfl #[.int .i64 a0] rfl (by (try simp only [List.map_toArray, List.map_cons, List.map_nil]); first | done | rfl | (simp only [List.length_drop, List.length_take]; rfl)) ?_; (with_reducible refine (lits_Neg.calls kj2 a0 t148 t149 _ A15.out).mono ?_); rintro e w40 ⟨rfl, hb⟩; refine ⟨_, rfl, ?_⟩; have n0_ := Aside0.mk (below_step (by repeat (first | (with_reducible first | exact HB.out | apply below_alloc | apply pw_below_drewN | apply below_drew1) | exact HB.out)) hb); clear HB; have HB := n0_; clear n0_; (try clear hb); (try clear hb2); (try clear hk); (try clear hi)) | ((with_reducible refine gate_callee (f := 9) rfl ?_); refine goesL_ (some 75) rfl rfl Try.func9 (by kernel_rfl) rfl #[.int .i64 a0, .int .i64 t148] rfl (by (try simp only [List.map_toArray, List.map_cons, List.map_nil]); first | done | rfl | (simp only [List.length_drop, List.length_take]; rfl)) ?_; (with_reducible refine (lits_And.calls kj2 a0 t148 t150 true t152 _ A16.out).mono ?_); rintro e w41 ⟨rfl, hb⟩; refine ⟨_, rfl, ?_⟩; have n0_ := Aside0.mk (below_step (by repeat (first | (with_reducible first | exact HB.out | apply below_alloc | apply pw_below_drewN | apply below_drew1) | exact HB.out)) hb); clear HB; have HB := n0_; clear n0_; (try clear hb); (try clear hb2); (try clear hk); (try clear hi)) | (go_at_call 20; (with_reducible refine (spiritlevellaw01_alive.calls kj2  t153 _ A34.out).mono ?_); rintro e w42 ⟨rfl, hb⟩; have n0_ := Aside0.mk (below_step (by repeat (first | (with_reducible first | exact HB.out | apply below_alloc | apply pw_below_drewN | apply below_drew1) | exact HB.out)) hb); clear HB; have HB := n0_; clear n0_; (try clear hb); (try clear hb2); (try clear hk); (try clear hi)))
                                          go_ret
                                          exact ⟨by first | rfl | (simp [errW_none, errW_some] <;> rfl) | (simp [*, errW_none, errW_some] <;> rfl), by repeat (first | (with_reducible first | exact HB.out | apply below_alloc | apply pw_below_drewN | apply below_drew1) | exact HB.out)⟩
                                        · rw [if_neg c33] at H
                                          have c33b0 : (t150 == 0) = false := beq_eq_false_iff_ne.mpr c33
                                          have c33b1 : (t150 != 0) = true := bne_iff_ne.mpr c33
                                          exact absurd ((Option.some.inj H).trans HT_.out) (by decide)
                                      · rw [if_neg c32] at H
                                        have c32b0 : (t145 == 0) = false := beq_eq_false_iff_ne.mpr c32
                                        have c32b1 : (t145 != 0) = true := bne_iff_ne.mpr c32
                                        exact absurd ((Option.some.inj H).trans HT_.out) (by decide)
                                    · rw [if_neg c31] at H
                                      have c31b0 : (t142 == a0) = false := beq_eq_false_iff_ne.mpr c31
                                      have c31b1 : (t142 != a0) = true := bne_iff_ne.mpr c31
                                      exact absurd ((Option.some.inj H).trans HT_.out) (by decide)
                                  · rw [if_neg c30] at H
                                    have c30b0 : (t139 == a0) = false := beq_eq_false_iff_ne.mpr c30
                                    have c30b1 : (t139 != a0) = true := bne_iff_ne.mpr c30
                                    exact absurd ((Option.some.inj H).trans HT_.out) (by decide)
                                · replace c29 := Bool.eq_false_iff.mpr c29
                                  subst c29
                                  have H1 : (some false) = some r := by rw [if_neg (show ¬ (false = true) by decide)] at H; exact H
                                  clear H
                                  have H := H1
                                  clear H1
                                  exact absurd ((Option.some.inj H).trans HT_.out) (by decide)
                              · replace c28 := Bool.eq_false_iff.mpr c28
                                subst c28
                                have H1 : (some false) = some r := by rw [if_neg (show ¬ (false = true) by decide)] at H; exact H
                                clear H
                                have H := H1
                                clear H1
                                exact absurd ((Option.some.inj H).trans HT_.out) (by decide)
                            · replace c27 := Bool.eq_false_iff.mpr c27
                              subst c27
                              have H1 : (some false) = some r := by rw [if_neg (show ¬ (false = true) by decide)] at H; exact H
                              clear H
                              have H := H1
                              clear H1
                              exact absurd ((Option.some.inj H).trans HT_.out) (by decide)
                          · replace c26 := Bool.eq_false_iff.mpr c26
                            subst c26
                            have H1 : (some false) = some r := by rw [if_neg (show ¬ (false = true) by decide)] at H; exact H
                            clear H
                            have H := H1
                            clear H1
                            exact absurd ((Option.some.inj H).trans HT_.out) (by decide)
                        · rw [if_neg c25] at H
                          have c25b0 : (t134 == t137) = false := by simpa using c25
                          (try (have c25b1 : decide (t134 = t137) = false := by simpa using c25))
                          (try (have c25b2 : (t134 == t137) = false := by simpa using c25))
                          (try (have c25b3 : ¬ (t134 = t137) := by simpa using c25))
                          clear c25
                          exact absurd ((Option.some.inj H).trans HT_.out) (by decide)
                      · rw [if_neg c24] at H
                        have c24b0 : (t133 == t136) = false := beq_eq_false_iff_ne.mpr c24
                        have c24b1 : (t133 != t136) = true := bne_iff_ne.mpr c24
                        exact absurd ((Option.some.inj H).trans HT_.out) (by decide)
                    · rw [if_neg c23] at H
                      have c23b0 : (t152 == 0) = false := beq_eq_false_iff_ne.mpr c23
                      have c23b1 : (t152 != 0) = true := bne_iff_ne.mpr c23
                      exact absurd ((Option.some.inj H).trans HT_.out) (by decide)
                  · rw [if_neg c22] at H
                    have c22b0 : (t149 == 0) = false := beq_eq_false_iff_ne.mpr c22
                    have c22b1 : (t149 != 0) = true := bne_iff_ne.mpr c22
                    exact absurd ((Option.some.inj H).trans HT_.out) (by decide)
                · rw [if_neg c21] at H
                  have c21b0 : (t147 == 0) = false := beq_eq_false_iff_ne.mpr c21
                  have c21b1 : (t147 != 0) = true := bne_iff_ne.mpr c21
                  exact absurd ((Option.some.inj H).trans HT_.out) (by decide)
              · rw [if_neg c20] at H
                have c20b0 : (t144 == 0) = false := beq_eq_false_iff_ne.mpr c20
                have c20b1 : (t144 != 0) = true := bne_iff_ne.mpr c20
                exact absurd ((Option.some.inj H).trans HT_.out) (by decide)
            · rw [if_neg c19] at H
              have c19b0 : (t141 == 0) = false := beq_eq_false_iff_ne.mpr c19
              have c19b1 : (t141 != 0) = true := bne_iff_ne.mpr c19
              exact absurd ((Option.some.inj H).trans HT_.out) (by decide)
          · rw [if_neg c18] at H
            have c18b0 : (t138 == 0) = false := beq_eq_false_iff_ne.mpr c18
            have c18b1 : (t138 != 0) = true := bne_iff_ne.mpr c18
            exact absurd ((Option.some.inj H).trans HT_.out) (by decide)
        · rw [if_neg c17] at H
          have c17b0 : (t135 == 0) = false := beq_eq_false_iff_ne.mpr c17
          have c17b1 : (t135 != 0) = true := bne_iff_ne.mpr c17
          exact absurd ((Option.some.inj H).trans HT_.out) (by decide)

/-- THE ONE PURE STATEMENT of spiritlevellaw01_LitsOrder: yours. -/
def spiritlevellaw01_LitsOrder.Pure : Prop := ∀ (a0 : Int) (a1 : Int), (Lit.int .i64 a0).wf = true → (Lit.int .i64 a1).wf = true → ∃ k, spiritlevellaw01_LitsOrder.f k a0 a1 = some true
theorem spiritlevellaw01_LitsOrder.walk (P : spiritlevellaw01_LitsOrder.Pure) (a0 : Int) (a1 : Int) (w : World) (w0 : (Lit.int .i64 a0).wf = true) (w1 : (Lit.int .i64 a1).wf = true) :
    Calls Try.prog 5 #[.int .i64 a0, .int .i64 a1] w fun e w' => e = .returned (.bool true) ∧ Below w.heap.size w w' := by
  obtain ⟨k, h⟩ := P a0 a1 w0 w1
  refine (spiritlevellaw01_LitsOrder.calls k a0 a1 true w rfl h).mono ?_
  rintro e w' ⟨rfl, hd⟩
  exact ⟨rfl, hd⟩

end Go.Proofs.Ytmdabengejlijaa.QLitsOrder
