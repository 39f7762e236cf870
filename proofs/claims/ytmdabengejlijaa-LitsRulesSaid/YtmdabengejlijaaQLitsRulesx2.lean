-- Made by wip/myprint.sh (a patched print): a text of this session's own.
import Derived.Test.YtmdabengejlijaaQLitsRulesx0
import Derived.Test.YtmdabengejlijaaQLitsRulesx1
namespace Go.Proofs.Ytmdabengejlijaa.QLitsRules
open Go.RowKit Go.Proofs.YtmdabengejlijaaW.PrintWords Go.Proofs.YtmdabengejlijaaW.PrintLast Go.Proofs.YtmdabengejlijaaW.PrintMore
attribute [local go_sem] max2_int min2_int max_two min_two max_three min_three max_four min_four   -- for this text's walks alone
set_option linter.unusedVariables false
set_option linter.unusedSimpArgs false

/-! ### spiritlevellaw01_LitsRules: function 6 -/
mutual
def spiritlevellaw01_LitsRules.j0 : Nat → Int → Int → Bool → Bool → Bool → Option (Bool)
  | 0, _, _, _, _, _ => none
  | k + 1, x0, x1, x2, x3, x26 => if x26 = true then ((spiritlevellaw01_alive.f k).bind fun t136 => (some t136)) else ((lits_And.f k x0 x1).bind fun bt137 => (if (wrap64 (Int.tdiv x0 2)) = (wrap64 (Int.tdiv x1 2)) then (spiritlevellaw01_LitsRules.j1 k x0 x1 x2 x2 bt137.1 bt137.2.1 bt137.2.2) else (spiritlevellaw01_LitsRules.j1 k x0 x1 x2 x3 bt137.1 bt137.2.1 bt137.2.2)))
def spiritlevellaw01_LitsRules.j1 : Nat → Int → Int → Bool → Bool → Int → Bool → Int → Option (Bool)
  | 0, _, _, _, _, _, _, _ => none
  | k + 1, x0, x1, x2, x3, x9, x10, x11 => (lits_Value.f k x0 x2).bind fun bt140 => ((lits_Value.f k x1 x3).bind fun bt142 => (if x11 = 0 then (if bt140.2 = 0 then (spiritlevellaw01_LitsRules.j2 k x0 x1 x2 x3 x9 x10 bt140.1 bt142.1 (bt142.2 != 0)) else (spiritlevellaw01_LitsRules.j2 k x0 x1 x2 x3 x9 x10 bt140.1 bt142.1 true)) else (spiritlevellaw01_LitsRules.j2 k x0 x1 x2 x3 x9 x10 bt140.1 bt142.1 true)))
def spiritlevellaw01_LitsRules.j2 : Nat → Int → Int → Bool → Bool → Int → Bool → Bool → Bool → Bool → Option (Bool)
  | 0, _, _, _, _, _, _, _, _, _ => none
  | k + 1, x0, x1, x2, x3, x9, x10, x12, x14, x62 => if x62 = true then (some false) else (if x10 = true then (if (wrap64 (Int.tdiv x9 2)) = (wrap64 (Int.tdiv x1 2)) then ((lits_Value.f k x9 x3).bind fun bt145 => (if bt145.2 = 0 then (if x12 = true then (if (bt145.1 == x14) = true then (if x9 = x0 then ((spiritlevellaw01_alive.f k).bind fun t147 => (some t147)) else (if x9 = x1 then ((spiritlevellaw01_alive.f k).bind fun t148 => (some t148)) else (if x9 = 0 then ((spiritlevellaw01_alive.f k).bind fun t149 => (some t149)) else (some false)))) else (some false)) else (if (bt145.1 == false) = true then (if x9 = x0 then ((spiritlevellaw01_alive.f k).bind fun t150 => (some t150)) else (if x9 = x1 then ((spiritlevellaw01_alive.f k).bind fun t151 => (some t151)) else (if x9 = 0 then ((spiritlevellaw01_alive.f k).bind fun t152 => (some t152)) else (some false)))) else (some false))) else (some false))) else ((lits_Value.f k x9 x2).bind fun bt153 => (if bt153.2 = 0 then (if x12 = true then (if (bt153.1 == x14) = true then (if x9 = x0 then ((spiritlevellaw01_alive.f k).bind fun t155 => (some t155)) else (if x9 = x1 then ((spiritlevellaw01_alive.f k).bind fun t156 => (some t156)) else (if x9 = 0 then ((spiritlevellaw01_alive.f k).bind fun t157 => (some t157)) else (some false)))) else (some false)) else (if (bt153.1 == false) = true then (if x9 = x0 then ((spiritlevellaw01_alive.f k).bind fun t158 => (some t158)) else (if x9 = x1 then ((spiritlevellaw01_alive.f k).bind fun t159 => (some t159)) else (if x9 = 0 then ((spiritlevellaw01_alive.f k).bind fun t160 => (some t160)) else (some false)))) else (some false))) else (some false)))) else (if x9 = 0 then (if x0 > 1 then (if x1 > 1 then (if (wrap64 (Int.tdiv x0 2)) = (wrap64 (Int.tdiv x1 2)) then (some false) else ((spiritlevellaw01_alive.f k).bind fun t144 => (some t144))) else (some false)) else (some false)) else (some false)))
end
def spiritlevellaw01_LitsRules.f (k : Nat) (a0 : Int) (a1 : Int) (a2 : Bool) (a3 : Bool) : Option (Bool) := (spiritlevelref01_Is.f a0).bind fun t134 => (if t134 = true then ((spiritlevelref01_Is.f a1).bind fun t135 => (spiritlevellaw01_LitsRules.j0 k a0 a1 a2 a3 (!t135))) else (spiritlevellaw01_LitsRules.j0 k a0 a1 a2 a3 true))
theorem spiritlevellaw01_LitsRules.mono_l : ∀ k, (∀ y0 y1 y2 y3 y4, LeO (spiritlevellaw01_LitsRules.j0 k y0 y1 y2 y3 y4) (spiritlevellaw01_LitsRules.j0 (k + 1) y0 y1 y2 y3 y4)) ∧ (∀ y0 y1 y2 y3 y4 y5 y6, LeO (spiritlevellaw01_LitsRules.j1 k y0 y1 y2 y3 y4 y5 y6) (spiritlevellaw01_LitsRules.j1 (k + 1) y0 y1 y2 y3 y4 y5 y6)) ∧ (∀ y0 y1 y2 y3 y4 y5 y6 y7 y8, LeO (spiritlevellaw01_LitsRules.j2 k y0 y1 y2 y3 y4 y5 y6 y7 y8) (spiritlevellaw01_LitsRules.j2 (k + 1) y0 y1 y2 y3 y4 y5 y6 y7 y8))
  | 0 => ⟨fun _ _ _ _ _ r h => by simp [spiritlevellaw01_LitsRules.j0] at h, fun _ _ _ _ _ _ _ r h => by simp [spiritlevellaw01_LitsRules.j1] at h, fun _ _ _ _ _ _ _ _ _ r h => by simp [spiritlevellaw01_LitsRules.j2] at h⟩
  | k + 1 => by
    obtain ⟨ih0, ih1, ih2⟩ := spiritlevellaw01_LitsRules.mono_l k
    refine ⟨?_, ?_, ?_⟩
    · intro y0 y1 y2 y3 y4
      unfold spiritlevellaw01_LitsRules.j0
      repeat' first
      | (with_reducible exact ih0 _ _ _ _ _)
      | (with_reducible exact ih1 _ _ _ _ _ _ _)
      | (with_reducible exact ih2 _ _ _ _ _ _ _ _ _)
      | (with_reducible exact lits_And.mono _ _ _)
      | (with_reducible exact lits_Value.mono _ _ _)
      | (with_reducible exact spiritlevellaw01_alive.mono _)
      | (with_reducible exact LeO.refl _)
      | (with_reducible exact LeO.none _)
      | (with_reducible refine LeO.ite ?_ ?_)
      | (with_reducible refine LeO.bind ?_ (fun _ => ?_))
      | exact ih0 _ _ _ _ _
      | exact ih1 _ _ _ _ _ _ _
      | exact ih2 _ _ _ _ _ _ _ _ _
      | exact lits_And.mono _ _ _
      | exact lits_Value.mono _ _ _
      | exact spiritlevellaw01_alive.mono _
      | exact LeO.none _
      | refine LeO.ite ?_ ?_
      | refine LeO.bind ?_ (fun _ => ?_)
    · intro y0 y1 y2 y3 y4 y5 y6
      unfold spiritlevellaw01_LitsRules.j1
      repeat' first
      | (with_reducible exact ih0 _ _ _ _ _)
      | (with_reducible exact ih1 _ _ _ _ _ _ _)
      | (with_reducible exact ih2 _ _ _ _ _ _ _ _ _)
      | (with_reducible exact lits_And.mono _ _ _)
      | (with_reducible exact lits_Value.mono _ _ _)
      | (with_reducible exact spiritlevellaw01_alive.mono _)
      | (with_reducible exact LeO.refl _)
      | (with_reducible exact LeO.none _)
      | (with_reducible refine LeO.ite ?_ ?_)
      | (with_reducible refine LeO.bind ?_ (fun _ => ?_))
      | exact ih0 _ _ _ _ _
      | exact ih1 _ _ _ _ _ _ _
      | exact ih2 _ _ _ _ _ _ _ _ _
      | exact lits_And.mono _ _ _
      | exact lits_Value.mono _ _ _
      | exact spiritlevellaw01_alive.mono _
      | exact LeO.none _
      | refine LeO.ite ?_ ?_
      | refine LeO.bind ?_ (fun _ => ?_)
    · intro y0 y1 y2 y3 y4 y5 y6 y7 y8
      unfold spiritlevellaw01_LitsRules.j2
      repeat' first
      | (with_reducible exact ih0 _ _ _ _ _)
      | (with_reducible exact ih1 _ _ _ _ _ _ _)
      | (with_reducible exact ih2 _ _ _ _ _ _ _ _ _)
      | (with_reducible exact lits_And.mono _ _ _)
      | (with_reducible exact lits_Value.mono _ _ _)
      | (with_reducible exact spiritlevellaw01_alive.mono _)
      | (with_reducible exact LeO.refl _)
      | (with_reducible exact LeO.none _)
      | (with_reducible refine LeO.ite ?_ ?_)
      | (with_reducible refine LeO.bind ?_ (fun _ => ?_))
      | exact ih0 _ _ _ _ _
      | exact ih1 _ _ _ _ _ _ _
      | exact ih2 _ _ _ _ _ _ _ _ _
      | exact lits_And.mono _ _ _
      | exact lits_Value.mono _ _ _
      | exact spiritlevellaw01_alive.mono _
      | exact LeO.none _
      | refine LeO.ite ?_ ?_
      | refine LeO.bind ?_ (fun _ => ?_)
theorem spiritlevellaw01_LitsRules.mono : ∀ a0 a1 a2 a3 k, LeO (spiritlevellaw01_LitsRules.f k a0 a1 a2 a3) (spiritlevellaw01_LitsRules.f (k + 1) a0 a1 a2 a3) := by
  intro a0 a1 a2 a3 k
  obtain ⟨ih0, ih1, ih2⟩ := spiritlevellaw01_LitsRules.mono_l k
  unfold spiritlevellaw01_LitsRules.f
  repeat' first
      | (with_reducible exact ih0 _ _ _ _ _)
      | (with_reducible exact ih1 _ _ _ _ _ _ _)
      | (with_reducible exact ih2 _ _ _ _ _ _ _ _ _)
      | (with_reducible exact lits_And.mono _ _ _)
      | (with_reducible exact lits_Value.mono _ _ _)
      | (with_reducible exact spiritlevellaw01_alive.mono _)
      | (with_reducible exact LeO.refl _)
      | (with_reducible exact LeO.none _)
      | (with_reducible refine LeO.ite ?_ ?_)
      | (with_reducible refine LeO.bind ?_ (fun _ => ?_))
      | exact ih0 _ _ _ _ _
      | exact ih1 _ _ _ _ _ _ _
      | exact ih2 _ _ _ _ _ _ _ _ _
      | exact lits_And.mono _ _ _
      | exact lits_Value.mono _ _ _
      | exact spiritlevellaw01_alive.mono _
      | exact LeO.none _
      | refine LeO.ite ?_ ?_
      | refine LeO.bind ?_ (fun _ => ?_)
set_option maxHeartbeats 8000000 in
set_option maxRecDepth 100000 in
theorem spiritlevellaw01_LitsRules.calls (k : Nat) (a0 : Int) (a1 : Int) (a2 : Bool) (a3 : Bool) (r : Bool) (w : World) (h : spiritlevellaw01_LitsRules.f k a0 a1 a2 a3 = some r) :
    Calls Try.prog 6 #[.int .i64 a0, .int .i64 a1, .bool a2, .bool a3] w fun e w' => e = .returned (.bool r) ∧ Below w.heap.size w w' := by
  have HB := Aside0.mk (Below.refl w.heap.size w)
  have H : ((spiritlevelref01_Is.f a0).bind fun t134 => (if t134 = true then ((spiritlevelref01_Is.f a1).bind fun t135 => (spiritlevellaw01_LitsRules.j0 k a0 a1 a2 a3 (!t135))) else (spiritlevellaw01_LitsRules.j0 k a0 a1 a2 a3 true))) = some r := h
  clear h
  have HC5 := Aside0.mk H
  clear H
  go_enter Try.func6, Try.ntmps6
  go_upto_region 1 with (fail)
  go_cut [26] (fun v26 wc => ∃ (kq : Nat) (x26_4 : Bool), v26 = .bool x26_4 ∧ Aside0 (spiritlevellaw01_LitsRules.j0 kq a0 a1 a2 a3 x26_4 = some r) ∧ Aside0 (kq ≤ k) ∧ Aside0 (Below w.heap.size w wc))
  case first =>
    have H := HC5.out
    clear HC5
    replace H := Option.bind_eq_some_iff.mp H
    obtain ⟨t134, A60, H⟩ := H
    replace H : (if t134 = true then ((spiritlevelref01_Is.f a1).bind fun t135 => (spiritlevellaw01_LitsRules.j0 k a0 a1 a2 a3 (!t135))) else (spiritlevellaw01_LitsRules.j0 k a0 a1 a2 a3 true)) = some r := H
    have A6 := Aside0.mk A60
    clear A60
    by_cases c7 : t134 = true
    · subst c7
      have H1 : ((spiritlevelref01_Is.f a1).bind fun t135 => (spiritlevellaw01_LitsRules.j0 k a0 a1 a2 a3 (!t135))) = some r := by rw [if_pos rfl] at H; exact H
      clear H
      have H := H1
      clear H1
      replace H := Option.bind_eq_some_iff.mp H
      obtain ⟨t135, A80, H⟩ := H
      replace H : (spiritlevellaw01_LitsRules.j0 k a0 a1 a2 a3 (!t135)) = some r := H
      have A8 := Aside0.mk A80
      clear A80
      have H' := Aside0.mk H
      clear H
      go_wp2_with (first | ((with_reducible refine gate_callee (f := 19) rfl ?_); refine goesL_ (some 20) rfl rfl Try.func19 (by kernel_rfl) rfl #[.int .i64 a0] rfl (by (try simp only [List.map_toArray, List.map_cons, List.map_nil]); first | done | rfl | (simp only [List.length_drop, List.length_take]; rfl)) ?_; (with_reducible refine (spiritlevelref01_Is.calls a0 true _ A6.out).mono ?_); rintro e w' ⟨rfl, ⟨nd, rfl⟩⟩; refine ⟨_, rfl, ?_⟩) | (go_at_call 19; (with_reducible refine (spiritlevelref01_Is.calls a1 t135 _ A8.out).mono ?_); rintro e w' ⟨rfl, ⟨nd, rfl⟩⟩))
      go_meet
      case rel => exact ⟨_, (!t135), (by first | rfl | (simp; done) | (simp [*]; done)), H', ⟨by first | omega | exact Nat.le_refl _⟩, ⟨by repeat (first | (with_reducible first | exact HB.out | apply below_alloc | apply pw_below_drewN | apply below_drew1) | exact HB.out)⟩⟩
    · replace c7 := Bool.eq_false_iff.mpr c7
      subst c7
      have H1 : (spiritlevellaw01_LitsRules.j0 k a0 a1 a2 a3 true) = some r := by rw [if_neg (show ¬ (false = true) by decide)] at H; exact H
      clear H
      have H := H1
      clear H1
      have H' := Aside0.mk H
      clear H
      go_wp2_with (first | ((with_reducible refine gate_callee (f := 19) rfl ?_); refine goesL_ (some 20) rfl rfl Try.func19 (by kernel_rfl) rfl #[.int .i64 a0] rfl (by (try simp only [List.map_toArray, List.map_cons, List.map_nil]); first | done | rfl | (simp only [List.length_drop, List.length_take]; rfl)) ?_; (with_reducible refine (spiritlevelref01_Is.calls a0 false _ A6.out).mono ?_); rintro e w' ⟨rfl, ⟨nd, rfl⟩⟩; refine ⟨_, rfl, ?_⟩))
      go_meet
      case rel => exact ⟨_, (true), (by first | rfl | (simp; done) | (simp [*]; done)), H', ⟨by first | omega | exact Nat.le_refl _⟩, ⟨by repeat (first | (with_reducible first | exact HB.out | apply below_alloc | apply pw_below_drewN | apply below_drew1) | exact HB.out)⟩⟩
  case rest =>
    clear HC5
    try clear c1
    try clear p2
    try clear c6
    try clear c7
    obtain ⟨kq, x26_4, rfl, HA, HJ4, HB⟩ := hcut
    cases kq with
    | zero => exact absurd HA.out (by simp [spiritlevellaw01_LitsRules.j0])
    | succ kj4 =>
      have H := HA.out
      clear HA
      simp only [spiritlevellaw01_LitsRules.j0] at H
      by_cases c9 : x26_4 = true
      · subst c9
        have H1 : ((spiritlevellaw01_alive.f kj4).bind fun t136 => (some t136)) = some r := by rw [if_pos rfl] at H; exact H
        clear H
        have H := H1
        clear H1
        replace H := Option.bind_eq_some_iff.mp H
        obtain ⟨t136, A100, H⟩ := H
        replace H : (some t136) = some r := H
        have A10 := Aside0.mk A100
        clear A100
        obtain rfl := Option.some.inj H
        go_wp2_with (first | ((with_reducible refine gate_callee (f := 20) rfl ?_); refine goesL_ (some 27) rfl rfl Try.func20 (by kernel_rfl) rfl #[] rfl (by (try simp only [List.map_toArray, List.map_cons, List.map_nil]); first | done | rfl | (simp only [List.length_drop, List.length_take]; rfl)) ?_; (with_reducible refine (spiritlevellaw01_alive.calls kj4  t136 _ A10.out).mono ?_); rintro e w11 ⟨rfl, hb⟩; refine ⟨_, rfl, ?_⟩; have n0_ := Aside0.mk (below_step (by repeat (first | (with_reducible first | exact HB.out | apply below_alloc | apply pw_below_drewN | apply below_drew1) | exact HB.out)) hb); clear HB; have HB := n0_; clear n0_; (try clear hb); (try clear hb2); (try clear hk); (try clear hi)))
        go_ret
        exact ⟨by first | rfl | (simp [errW_none, errW_some] <;> rfl) | (simp [*, errW_none, errW_some] <;> rfl), by repeat (first | (with_reducible first | exact HB.out | apply below_alloc | apply pw_below_drewN | apply below_drew1) | exact HB.out)⟩
      · replace c9 := Bool.eq_false_iff.mpr c9
        subst c9
        have H1 : ((lits_And.f kj4 a0 a1).bind fun bt137 => (if (wrap64 (Int.tdiv a0 2)) = (wrap64 (Int.tdiv a1 2)) then (spiritlevellaw01_LitsRules.j1 kj4 a0 a1 a2 a2 bt137.1 bt137.2.1 bt137.2.2) else (spiritlevellaw01_LitsRules.j1 kj4 a0 a1 a2 a3 bt137.1 bt137.2.1 bt137.2.2))) = some r := by rw [if_neg (show ¬ (false = true) by decide)] at H; exact H
        clear H
        have H := H1
        clear H1
        replace H := Option.bind_eq_some_iff.mp H
        obtain ⟨⟨t137, t138, t139⟩, A120, H⟩ := H
        replace H : (if (wrap64 (Int.tdiv a0 2)) = (wrap64 (Int.tdiv a1 2)) then (spiritlevellaw01_LitsRules.j1 kj4 a0 a1 a2 a2 t137 t138 t139) else (spiritlevellaw01_LitsRules.j1 kj4 a0 a1 a2 a3 t137 t138 t139)) = some r := H
        have A12 := Aside0.mk A120
        clear A120
        have HC13 := Aside0.mk H
        clear H
        go_upto_if 39 with (first | ((with_reducible refine gate_callee (f := 9) rfl ?_); refine goesL_ (some 31) rfl rfl Try.func9 (by kernel_rfl) rfl #[.int .i64 a0, .int .i64 a1] rfl (by (try simp only [List.map_toArray, List.map_cons, List.map_nil]); first | done | rfl | (simp only [List.length_drop, List.length_take]; rfl)) ?_; (with_reducible refine (lits_And.calls kj4 a0 a1 t137 t138 t139 _ A12.out).mono ?_); rintro e w14 ⟨rfl, hb⟩; refine ⟨_, rfl, ?_⟩; have n0_ := Aside0.mk (below_step (by repeat (first | (with_reducible first | exact HB.out | apply below_alloc | apply pw_below_drewN | apply below_drew1) | exact HB.out)) hb); clear HB; have HB := n0_; clear n0_; (try clear hb); (try clear hb2); (try clear hk); (try clear hi)))
        (try simp only [Act.put, List.setIfInBounds_toArray, List.set_cons_zero, List.set_cons_succ])
        go_cut [3] (fun v3 wc => ∃ (kq : Nat) (x3_12 : Bool), v3 = .bool x3_12 ∧ Aside0 (spiritlevellaw01_LitsRules.j1 kq a0 a1 a2 x3_12 t137 t138 t139 = some r) ∧ Aside0 (kq ≤ kj4) ∧ Aside0 (Below w.heap.size w wc))
        case first =>
          have H := HC13.out
          clear HC13
          by_cases c15 : (wrap64 (Int.tdiv a0 2)) = (wrap64 (Int.tdiv a1 2))
          · rw [if_pos c15] at H
            have c15b0 : ((wrap64 (Int.tdiv a0 2)) == (wrap64 (Int.tdiv a1 2))) = true := beq_iff_eq.mpr c15
            have c15b1 : ((wrap64 (Int.tdiv a0 2)) != (wrap64 (Int.tdiv a1 2))) = false := bne_eq_false_iff_eq.mpr c15
            clear c15
            (first | rw [c15b0] | (simp only [i64_w, i32_w]; rw [c15b0]) | skip)
            have H' := Aside0.mk H
            clear H
            go_wp2
            go_meet
            case rel => exact ⟨_, (a2), (by first | rfl | (simp; done) | (simp [*]; done)), H', ⟨by have := HJ4.out; first | omega | exact Nat.le_refl _⟩, ⟨by repeat (first | (with_reducible first | exact HB.out | apply below_alloc | apply pw_below_drewN | apply below_drew1) | exact HB.out)⟩⟩
          · rw [if_neg c15] at H
            have c15b0 : ((wrap64 (Int.tdiv a0 2)) == (wrap64 (Int.tdiv a1 2))) = false := beq_eq_false_iff_ne.mpr c15
            have c15b1 : ((wrap64 (Int.tdiv a0 2)) != (wrap64 (Int.tdiv a1 2))) = true := bne_iff_ne.mpr c15
            (first | rw [c15b0] | (simp only [i64_w, i32_w]; rw [c15b0]) | skip)
            have H' := Aside0.mk H
            clear H
            go_wp2
            go_meet
            case rel => exact ⟨_, (a3), (by first | rfl | (simp; done) | (simp [*]; done)), H', ⟨by have := HJ4.out; first | omega | exact Nat.le_refl _⟩, ⟨by repeat (first | (with_reducible first | exact HB.out | apply below_alloc | apply pw_below_drewN | apply below_drew1) | exact HB.out)⟩⟩
        case rest =>
          clear HC13
          try clear c1
          try clear c2
          try clear p2
          try clear c6
          try clear p6
          try clear c7
          try clear c9
          try clear c15
          try clear c15b0
          try clear c15b1
          try clear p2
          obtain ⟨kq, x3_12, rfl, HA, HJ12, HB⟩ := hcut
          cases kq with
          | zero => exact absurd HA.out (by simp [spiritlevellaw01_LitsRules.j1])
          | succ kj12 =>
            have H := HA.out
            clear HA
            simp only [spiritlevellaw01_LitsRules.j1] at H
            replace H := Option.bind_eq_some_iff.mp H
            obtain ⟨⟨t140, t141⟩, A160, H⟩ := H
            replace H : ((lits_Value.f kj12 a1 x3_12).bind fun bt142 => (if t139 = 0 then (if t141 = 0 then (spiritlevellaw01_LitsRules.j2 kj12 a0 a1 a2 x3_12 t137 t138 t140 bt142.1 (bt142.2 != 0)) else (spiritlevellaw01_LitsRules.j2 kj12 a0 a1 a2 x3_12 t137 t138 t140 bt142.1 true)) else (spiritlevellaw01_LitsRules.j2 kj12 a0 a1 a2 x3_12 t137 t138 t140 bt142.1 true))) = some r := H
            have A16 := Aside0.mk A160
            clear A160
            replace H := Option.bind_eq_some_iff.mp H
            obtain ⟨⟨t142, t143⟩, A170, H⟩ := H
            replace H : (if t139 = 0 then (if t141 = 0 then (spiritlevellaw01_LitsRules.j2 kj12 a0 a1 a2 x3_12 t137 t138 t140 t142 (t143 != 0)) else (spiritlevellaw01_LitsRules.j2 kj12 a0 a1 a2 x3_12 t137 t138 t140 t142 true)) else (spiritlevellaw01_LitsRules.j2 kj12 a0 a1 a2 x3_12 t137 t138 t140 t142 true)) = some r := H
            have A17 := Aside0.mk A170
            clear A170
            have HC18 := Aside0.mk H
            clear H
            go_upto_region 8 with (first | ((with_reducible refine gate_callee (f := 11) rfl ?_); refine goesL_ (some 44) rfl rfl Try.func11 (by kernel_rfl) rfl #[.int .i64 a0, .bool a2] rfl (by (try simp only [List.map_toArray, List.map_cons, List.map_nil]); first | done | rfl | (simp only [List.length_drop, List.length_take]; rfl)) ?_; (with_reducible refine (lits_Value.calls kj12 a0 a2 t140 t141 _ A16.out).mono ?_); rintro e w19 ⟨rfl, hb⟩; refine ⟨_, rfl, ?_⟩; have n0_ := Aside0.mk (below_step (by repeat (first | (with_reducible first | exact HB.out | apply below_alloc | apply pw_below_drewN | apply below_drew1) | exact HB.out)) hb); clear HB; have HB := n0_; clear n0_; (try clear hb); (try clear hb2); (try clear hk); (try clear hi)) | ((with_reducible refine gate_callee (f := 11) rfl ?_); refine goesL_ (some 50) rfl rfl Try.func11 (by kernel_rfl) rfl #[.int .i64 a1, .bool x3_12] rfl (by (try simp only [List.map_toArray, List.map_cons, List.map_nil]); first | done | rfl | (simp only [List.length_drop, List.length_take]; rfl)) ?_; (with_reducible refine (lits_Value.calls kj12 a1 x3_12 t142 t143 _ A17.out).mono ?_); rintro e w20 ⟨rfl, hb⟩; refine ⟨_, rfl, ?_⟩; have n0_ := Aside0.mk (below_step (by repeat (first | (with_reducible first | exact HB.out | apply below_alloc | apply pw_below_drewN | apply below_drew1) | exact HB.out)) hb); clear HB; have HB := n0_; clear n0_; (try clear hb); (try clear hb2); (try clear hk); (try clear hi)))
            (try simp only [Act.put, List.setIfInBounds_toArray, List.set_cons_zero, List.set_cons_succ])
            go_cut [62] (fun v62 wc => ∃ (kq : Nat) (x62_17 : Bool), v62 = .bool x62_17 ∧ Aside0 (spiritlevellaw01_LitsRules.j2 kq a0 a1 a2 x3_12 t137 t138 t140 t142 x62_17 = some r) ∧ Aside0 (kq ≤ kj12) ∧ Aside0 (Below w.heap.size w wc))
            case first =>
              have H := HC18.out
              clear HC18
              by_cases c21 : t139 = 0
              · rw [if_pos c21] at H
                have c21b0 : (t139 == 0) = true := beq_iff_eq.mpr c21
                have c21b1 : (t139 != 0) = false := bne_eq_false_iff_eq.mpr c21
                clear c21
                (first | rw [c21b0] | (simp only [i64_w, i32_w]; rw [c21b0]) | skip)
                by_cases c22 : t141 = 0
                · rw [if_pos c22] at H
                  have c22b0 : (t141 == 0) = true := beq_iff_eq.mpr c22
                  have c22b1 : (t141 != 0) = false := bne_eq_false_iff_eq.mpr c22
                  clear c22
                  have H' := Aside0.mk H
                  clear H
                  go_wp2
                  go_meet
                  case rel => exact ⟨_, ((t143 != 0)), (by first | rfl | (simp; done) | (simp [*]; done)), H', ⟨by have := HJ4.out; have := HJ12.out; first | omega | exact Nat.le_refl _⟩, ⟨by repeat (first | (with_reducible first | exact HB.out | apply below_alloc | apply pw_below_drewN | apply below_drew1) | exact HB.out)⟩⟩
                · rw [if_neg c22] at H
                  have c22b0 : (t141 == 0) = false := beq_eq_false_iff_ne.mpr c22
                  have c22b1 : (t141 != 0) = true := bne_iff_ne.mpr c22
                  have H' := Aside0.mk H
                  clear H
                  go_wp2
                  go_meet
                  case rel => exact ⟨_, (true), (by first | rfl | (simp; done) | (simp [*]; done)), H', ⟨by have := HJ4.out; have := HJ12.out; first | omega | exact Nat.le_refl _⟩, ⟨by repeat (first | (with_reducible first | exact HB.out | apply below_alloc | apply pw_below_drewN | apply below_drew1) | exact HB.out)⟩⟩
              · rw [if_neg c21] at H
                have c21b0 : (t139 == 0) = false := beq_eq_false_iff_ne.mpr c21
                have c21b1 : (t139 != 0) = true := bne_iff_ne.mpr c21
                (first | rw [c21b0] | (simp only [i64_w, i32_w]; rw [c21b0]) | skip)
                have H' := Aside0.mk H
                clear H
                go_wp2
                go_meet
                case rel => exact ⟨_, (true), (by first | rfl | (simp; done) | (simp [*]; done)), H', ⟨by have := HJ4.out; have := HJ12.out; first | omega | exact Nat.le_refl _⟩, ⟨by repeat (first | (with_reducible first | exact HB.out | apply below_alloc | apply pw_below_drewN | apply below_drew1) | exact HB.out)⟩⟩
            case rest =>
              clear HC18
              try clear c1
              try clear c2
              try clear p2
              try clear c6
              try clear p6
              try clear c7
              try clear c9
              try clear c11
              try clear c15
              try clear c15b0
              try clear c15b1
              try clear c19
              try clear c20
              try clear c21
              try clear c21b0
              try clear c21b1
              try clear c22
              try clear c22b0
              try clear c22b1
              try clear p2
              try clear p6
              obtain ⟨kq, x62_17, rfl, HA, HJ17, HB⟩ := hcut
              cases kq with
              | zero => exact absurd HA.out (by simp [spiritlevellaw01_LitsRules.j2])
              | succ kj17 =>
                have H := HA.out
                clear HA
                simp only [spiritlevellaw01_LitsRules.j2] at H
                by_cases c23 : x62_17 = true
                · subst c23
                  have H1 : (some false) = some r := by rw [if_pos rfl] at H; exact H
                  clear H
                  have H := H1
                  clear H1
                  obtain rfl := Option.some.inj H
                  go_wp2
                  go_ret
                  exact ⟨by first | rfl | (simp [errW_none, errW_some] <;> rfl) | (simp [*, errW_none, errW_some] <;> rfl), by repeat (first | (with_reducible first | exact HB.out | apply below_alloc | apply pw_below_drewN | apply below_drew1) | exact HB.out)⟩
                · replace c23 := Bool.eq_false_iff.mpr c23
                  subst c23
                  have H1 : (if t138 = true then (if (wrap64 (Int.tdiv t137 2)) = (wrap64 (Int.tdiv a1 2)) then ((lits_Value.f kj17 t137 x3_12).bind fun bt145 => (if bt145.2 = 0 then (if t140 = true then (if (bt145.1 == t142) = true then (if t137 = a0 then ((spiritlevellaw01_alive.f kj17).bind fun t147 => (some t147)) else (if t137 = a1 then ((spiritlevellaw01_alive.f kj17).bind fun t148 => (some t148)) else (if t137 = 0 then ((spiritlevellaw01_alive.f kj17).bind fun t149 => (some t149)) else (some false)))) else (some false)) else (if (bt145.1 == false) = true then (if t137 = a0 then ((spiritlevellaw01_alive.f kj17).bind fun t150 => (some t150)) else (if t137 = a1 then ((spiritlevellaw01_alive.f kj17).bind fun t151 => (some t151)) else (if t137 = 0 then ((spiritlevellaw01_alive.f kj17).bind fun t152 => (some t152)) else (some false)))) else (some false))) else (some false))) else ((lits_Value.f kj17 t137 a2).bind fun bt153 => (if bt153.2 = 0 then (if t140 = true then (if (bt153.1 == t142) = true then (if t137 = a0 then ((spiritlevellaw01_alive.f kj17).bind fun t155 => (some t155)) else (if t137 = a1 then ((spiritlevellaw01_alive.f kj17).bind fun t156 => (some t156)) else (if t137 = 0 then ((spiritlevellaw01_alive.f kj17).bind fun t157 => (some t157)) else (some false)))) else (some false)) else (if (bt153.1 == false) = true then (if t137 = a0 then ((spiritlevellaw01_alive.f kj17).bind fun t158 => (some t158)) else (if t137 = a1 then ((spiritlevellaw01_alive.f kj17).bind fun t159 => (some t159)) else (if t137 = 0 then ((spiritlevellaw01_alive.f kj17).bind fun t160 => (some t160)) else (some false)))) else (some false))) else (some false)))) else (if t137 = 0 then (if a0 > 1 then (if a1 > 1 then (if (wrap64 (Int.tdiv a0 2)) = (wrap64 (Int.tdiv a1 2)) then (some false) else ((spiritlevellaw01_alive.f kj17).bind fun t144 => (some t144))) else (some false)) else (some false)) else (some false))) = some r := by rw [if_neg (show ¬ (false = true) by decide)] at H; exact H
                  clear H
                  have H := H1
                  clear H1
                  by_cases c24 : t138 = true
                  · subst c24
                    have H1 : (if (wrap64 (Int.tdiv t137 2)) = (wrap64 (Int.tdiv a1 2)) then ((lits_Value.f kj17 t137 x3_12).bind fun bt145 => (if bt145.2 = 0 then (if t140 = true then (if (bt145.1 == t142) = true then (if t137 = a0 then ((spiritlevellaw01_alive.f kj17).bind fun t147 => (some t147)) else (if t137 = a1 then ((spiritlevellaw01_alive.f kj17).bind fun t148 => (some t148)) else (if t137 = 0 then ((spiritlevellaw01_alive.f kj17).bind fun t149 => (some t149)) else (some false)))) else (some false)) else (if (bt145.1 == false) = true then (if t137 = a0 then ((spiritlevellaw01_alive.f kj17).bind fun t150 => (some t150)) else (if t137 = a1 then ((spiritlevellaw01_alive.f kj17).bind fun t151 => (some t151)) else (if t137 = 0 then ((spiritlevellaw01_alive.f kj17).bind fun t152 => (some t152)) else (some false)))) else (some false))) else (some false))) else ((lits_Value.f kj17 t137 a2).bind fun bt153 => (if bt153.2 = 0 then (if t140 = true then (if (bt153.1 == t142) = true then (if t137 = a0 then ((spiritlevellaw01_alive.f kj17).bind fun t155 => (some t155)) else (if t137 = a1 then ((spiritlevellaw01_alive.f kj17).bind fun t156 => (some t156)) else (if t137 = 0 then ((spiritlevellaw01_alive.f kj17).bind fun t157 => (some t157)) else (some false)))) else (some false)) else (if (bt153.1 == false) = true then (if t137 = a0 then ((spiritlevellaw01_alive.f kj17).bind fun t158 => (some t158)) else (if t137 = a1 then ((spiritlevellaw01_alive.f kj17).bind fun t159 => (some t159)) else (if t137 = 0 then ((spiritlevellaw01_alive.f kj17).bind fun t160 => (some t160)) else (some false)))) else (some false))) else (some false)))) = some r := by rw [if_pos rfl] at H; exact H
                    clear H
                    have H := H1
                    clear H1
                    by_cases c25 : (wrap64 (Int.tdiv t137 2)) = (wrap64 (Int.tdiv a1 2))
                    · rw [if_pos c25] at H
                      have c25b0 : ((wrap64 (Int.tdiv t137 2)) == (wrap64 (Int.tdiv a1 2))) = true := beq_iff_eq.mpr c25
                      have c25b1 : ((wrap64 (Int.tdiv t137 2)) != (wrap64 (Int.tdiv a1 2))) = false := bne_eq_false_iff_eq.mpr c25
                      clear c25
                      replace H := Option.bind_eq_some_iff.mp H
                      obtain ⟨⟨t145, t146⟩, A260, H⟩ := H
                      replace H : (if t146 = 0 then (if t140 = true then (if (t145 == t142) = true then (if t137 = a0 then ((spiritlevellaw01_alive.f kj17).bind fun t147 => (some t147)) else (if t137 = a1 then ((spiritlevellaw01_alive.f kj17).bind fun t148 => (some t148)) else (if t137 = 0 then ((spiritlevellaw01_alive.f kj17).bind fun t149 => (some t149)) else (some false)))) else (some false)) else (if (t145 == false) = true then (if t137 = a0 then ((spiritlevellaw01_alive.f kj17).bind fun t150 => (some t150)) else (if t137 = a1 then ((spiritlevellaw01_alive.f kj17).bind fun t151 => (some t151)) else (if t137 = 0 then ((spiritlevellaw01_alive.f kj17).bind fun t152 => (some t152)) else (some false)))) else (some false))) else (some false)) = some r := H
                      have A26 := Aside0.mk A260
                      clear A260
                      by_cases c27 : t146 = 0
                      · rw [if_pos c27] at H
                        have c27b0 : (t146 == 0) = true := beq_iff_eq.mpr c27
                        have c27b1 : (t146 != 0) = false := bne_eq_false_iff_eq.mpr c27
                        clear c27
                        by_cases c28 : t140 = true
                        · subst c28
                          have H1 : (if (t145 == t142) = true then (if t137 = a0 then ((spiritlevellaw01_alive.f kj17).bind fun t147 => (some t147)) else (if t137 = a1 then ((spiritlevellaw01_alive.f kj17).bind fun t148 => (some t148)) else (if t137 = 0 then ((spiritlevellaw01_alive.f kj17).bind fun t149 => (some t149)) else (some false)))) else (some false)) = some r := by rw [if_pos rfl] at H; exact H
                          clear H
                          have H := H1
                          clear H1
                          by_cases c29 : (t145 == t142) = true
                          · rw [if_pos c29] at H
                            have c29b0 : (t145 == t142) = true := c29
                            (try (have c29b1 : decide (t145 = t142) = true := by simpa using c29))
                            (try (have c29b2 : (t145 == t142) = true := by simpa using c29))
                            clear c29
                            by_cases c30 : t137 = a0
                            · rw [if_pos c30] at H
                              have c30b0 : (t137 == a0) = true := beq_iff_eq.mpr c30
                              have c30b1 : (t137 != a0) = false := bne_eq_false_iff_eq.mpr c30
                              clear c30
                              replace H := Option.bind_eq_some_iff.mp H
                              obtain ⟨t147, A310, H⟩ := H
                              replace H : (some t147) = some r := H
                              have A31 := Aside0.mk A310
                              clear A310
                              obtain rfl := Option.some.inj H
                              go_wp2_with (first | ((with_reducible refine gate_callee (f := 11) rfl ?_); refine goesL_ (some 95) rfl rfl Try.func11 (by kernel_rfl) rfl #[.int .i64 t137, .bool x3_12] rfl (by (try simp only [List.map_toArray, List.map_cons, List.map_nil]); first | done | rfl | (simp only [List.length_drop, List.length_take]; rfl)) ?_; (with_reducible refine (lits_Value.calls kj17 t137 x3_12 t145 t146 _ A26.out).mono ?_); rintro e w32 ⟨rfl, hb⟩; refine ⟨_, rfl, ?_⟩; have n0_ := Aside0.mk (below_step (by repeat (first | (with_reducible first | exact HB.out | apply below_alloc | apply pw_below_drewN | apply below_drew1) | exact HB.out)) hb); clear HB; have HB := n0_; clear n0_; (try clear hb); (try clear hb2); (try clear hk); (try clear hi)) | (go_at_call 20; (with_reducible refine (spiritlevellaw01_alive.calls kj17  t147 _ A31.out).mono ?_); rintro e w33 ⟨rfl, hb⟩; have n0_ := Aside0.mk (below_step (by repeat (first | (with_reducible first | exact HB.out | apply below_alloc | apply pw_below_drewN | apply below_drew1) | exact HB.out)) hb); clear HB; have HB := n0_; clear n0_; (try clear hb); (try clear hb2); (try clear hk); (try clear hi)))
                              go_ret
                              exact ⟨by first | rfl | (simp [errW_none, errW_some] <;> rfl) | (simp [*, errW_none, errW_some] <;> rfl), by repeat (first | (with_reducible first | exact HB.out | apply below_alloc | apply pw_below_drewN | apply below_drew1) | exact HB.out)⟩
                            · rw [if_neg c30] at H
                              have c30b0 : (t137 == a0) = false := beq_eq_false_iff_ne.mpr c30
                              have c30b1 : (t137 != a0) = true := bne_iff_ne.mpr c30
                              by_cases c34 : t137 = a1
                              · rw [if_pos c34] at H
                                have c34b0 : (t137 == a1) = true := beq_iff_eq.mpr c34
                                have c34b1 : (t137 != a1) = false := bne_eq_false_iff_eq.mpr c34
                                clear c34
                                replace H := Option.bind_eq_some_iff.mp H
                                obtain ⟨t148, A350, H⟩ := H
                                replace H : (some t148) = some r := H
                                have A35 := Aside0.mk A350
                                clear A350
                                obtain rfl := Option.some.inj H
                                go_wp2_with (first | ((with_reducible refine gate_callee (f := 11) rfl ?_); refine goesL_ (some 95) rfl rfl Try.func11 (by kernel_rfl) rfl #[.int .i64 t137, .bool x3_12] rfl (by (try simp only [List.map_toArray, List.map_cons, List.map_nil]); first | done | rfl | (simp only [List.length_drop, List.length_take]; rfl)) ?_; (with_reducible refine (lits_Value.calls kj17 t137 x3_12 t145 t146 _ A26.out).mono ?_); rintro e w36 ⟨rfl, hb⟩; refine ⟨_, rfl, ?_⟩; have n0_ := Aside0.mk (below_step (by repeat (first | (with_reducible first | exact HB.out | apply below_alloc | apply pw_below_drewN | apply below_drew1) | exact HB.out)) hb); clear HB; have HB := n0_; clear n0_; (try clear hb); (try clear hb2); (try clear hk); (try clear hi)) | (go_at_call 20; (with_reducible refine (spiritlevellaw01_alive.calls kj17  t148 _ A35.out).mono ?_); rintro e w37 ⟨rfl, hb⟩; have n0_ := Aside0.mk (below_step (by repeat (first | (with_reducible first | exact HB.out | apply below_alloc | apply pw_below_drewN | apply below_drew1) | exact HB.out)) hb); clear HB; have HB := n0_; clear n0_; (try clear hb); (try clear hb2); (try clear hk); (try clear hi)))
                                go_ret
                                exact ⟨by first | rfl | (simp [errW_none, errW_some] <;> rfl) | (simp [*, errW_none, errW_some] <;> rfl), by repeat (first | (with_reducible first | exact HB.out | apply below_alloc | apply pw_below_drewN | apply below_drew1) | exact HB.out)⟩
                              · rw [if_neg c34] at H
                                have c34b0 : (t137 == a1) = false := beq_eq_false_iff_ne.mpr c34
                                have c34b1 : (t137 != a1) = true := bne_iff_ne.mpr c34
                                by_cases c38 : t137 = 0
                                · rw [if_pos c38] at H
                                  have c38b0 : (t137 == 0) = true := beq_iff_eq.mpr c38
                                  have c38b1 : (t137 != 0) = false := bne_eq_false_iff_eq.mpr c38
                                  clear c38
                                  replace H := Option.bind_eq_some_iff.mp H
                                  obtain ⟨t149, A390, H⟩ := H
                                  replace H : (some t149) = some r := H
                                  have A39 := Aside0.mk A390
                                  clear A390
                                  obtain rfl := Option.some.inj H
                                  go_wp2_with (first | ((with_reducible refine gate_callee (f := 11) rfl ?_); refine goesL_ (some 95) rfl rfl Try.func11 (by kernel_rfl) rfl #[.int .i64 t137, .bool x3_12] rfl (by (try simp only [List.map_toArray, List.map_cons, List.map_nil]); first | done | rfl | (simp only [List.length_drop, List.length_take]; rfl)) ?_; (with_reducible refine (lits_Value.calls kj17 t137 x3_12 t145 t146 _ A26.out).mono ?_); rintro e w40 ⟨rfl, hb⟩; refine ⟨_, rfl, ?_⟩; have n0_ := Aside0.mk (below_step (by repeat (first | (with_reducible first | exact HB.out | apply below_alloc | apply pw_below_drewN | apply below_drew1) | exact HB.out)) hb); clear HB; have HB := n0_; clear n0_; (try clear hb); (try clear hb2); (try clear hk); (try clear hi)) | (go_at_call 20; (with_reducible refine (spiritlevellaw01_alive.calls kj17  t149 _ A39.out).mono ?_); rintro e w41 ⟨rfl, hb⟩; have n0_ := Aside0.mk (below_step (by repeat (first | (with_reducible first | exact HB.out | apply below_alloc | apply pw_below_drewN | apply below_drew1) | exact HB.out)) hb); clear HB; have HB := n0_; clear n0_; (try clear hb); (try clear hb2); (try clear hk); (try clear hi)))
                                  go_ret
                                  exact ⟨by first | rfl | (simp [errW_none, errW_some] <;> rfl) | (simp [*, errW_none, errW_some] <;> rfl), by repeat (first | (with_reducible first | exact HB.out | apply below_alloc | apply pw_below_drewN | apply below_drew1) | exact HB.out)⟩
                                · rw [if_neg c38] at H
                                  have c38b0 : (t137 == 0) = false := beq_eq_false_iff_ne.mpr c38
                                  have c38b1 : (t137 != 0) = true := bne_iff_ne.mpr c38
                                  obtain rfl := Option.some.inj H
                                  go_wp2_with (first | ((with_reducible refine gate_callee (f := 11) rfl ?_); refine goesL_ (some 95) rfl rfl Try.func11 (by kernel_rfl) rfl #[.int .i64 t137, .bool x3_12] rfl (by (try simp only [List.map_toArray, List.map_cons, List.map_nil]); first | done | rfl | (simp only [List.length_drop, List.length_take]; rfl)) ?_; (with_reducible refine (lits_Value.calls kj17 t137 x3_12 t145 t146 _ A26.out).mono ?_); rintro e w42 ⟨rfl, hb⟩; refine ⟨_, rfl, ?_⟩; have n0_ := Aside0.mk (below_step (by repeat (first | (with_reducible first | exact HB.out | apply below_alloc | apply pw_below_drewN | apply below_drew1) | exact HB.out)) hb); clear HB; have HB := n0_; clear n0_; (try clear hb); (try clear hb2); (try clear hk); (try clear hi)))
                                  go_ret
                                  exact ⟨by first | rfl | (simp [errW_none, errW_some] <;> rfl) | (simp [*, errW_none, errW_some] <;> rfl), by repeat (first | (with_reducible first | exact HB.out | apply below_alloc | apply pw_below_drewN | apply below_drew1) | exact HB.out)⟩
                          · rw [if_neg c29] at H
                            have c29b0 : (t145 == t142) = false := by simpa using c29
                            (try (have c29b1 : decide (t145 = t142) = false := by simpa using c29))
                            (try (have c29b2 : (t145 == t142) = false := by simpa using c29))
                            (try (have c29b3 : ¬ (t145 = t142) := by simpa using c29))
                            clear c29
                            obtain rfl := Option.some.inj H
                            go_wp2_with (first | ((with_reducible refine gate_callee (f := 11) rfl ?_); refine goesL_ (some 95) rfl rfl Try.func11 (by kernel_rfl) rfl #[.int .i64 t137, .bool x3_12] rfl (by (try simp only [List.map_toArray, List.map_cons, List.map_nil]); first | done | rfl | (simp only [List.length_drop, List.length_take]; rfl)) ?_; (with_reducible refine (lits_Value.calls kj17 t137 x3_12 t145 t146 _ A26.out).mono ?_); rintro e w43 ⟨rfl, hb⟩; refine ⟨_, rfl, ?_⟩; have n0_ := Aside0.mk (below_step (by repeat (first | (with_reducible first | exact HB.out | apply below_alloc | apply pw_below_drewN | apply below_drew1) | exact HB.out)) hb); clear HB; have HB := n0_; clear n0_; (try clear hb); (try clear hb2); (try clear hk); (try clear hi)))
                            go_ret
                            exact ⟨by first | rfl | (simp [errW_none, errW_some] <;> rfl) | (simp [*, errW_none, errW_some] <;> rfl), by repeat (first | (with_reducible first | exact HB.out | apply below_alloc | apply pw_below_drewN | apply below_drew1) | exact HB.out)⟩
                        · replace c28 := Bool.eq_false_iff.mpr c28
                          subst c28
                          have H1 : (if (t145 == false) = true then (if t137 = a0 then ((spiritlevellaw01_alive.f kj17).bind fun t150 => (some t150)) else (if t137 = a1 then ((spiritlevellaw01_alive.f kj17).bind fun t151 => (some t151)) else (if t137 = 0 then ((spiritlevellaw01_alive.f kj17).bind fun t152 => (some t152)) else (some false)))) else (some false)) = some r := by rw [if_neg (show ¬ (false = true) by decide)] at H; exact H
                          clear H
                          have H := H1
                          clear H1
                          by_cases c44 : (t145 == false) = true
                          · rw [if_pos c44] at H
                            have c44b0 : (t145 == false) = true := c44
                            (try (have c44b1 : decide (t145 = false) = true := by simpa using c44))
                            (try (have c44b2 : (t145 == false) = true := by simpa using c44))
                            clear c44
                            by_cases c45 : t137 = a0
                            · rw [if_pos c45] at H
                              have c45b0 : (t137 == a0) = true := beq_iff_eq.mpr c45
                              have c45b1 : (t137 != a0) = false := bne_eq_false_iff_eq.mpr c45
                              clear c45
                              replace H := Option.bind_eq_some_iff.mp H
                              obtain ⟨t150, A460, H⟩ := H
                              replace H : (some t150) = some r := H
                              have A46 := Aside0.mk A460
                              clear A460
                              obtain rfl := Option.some.inj H
                              go_wp2_with (first | ((with_reducible refine gate_callee (f := 11) rfl ?_); refine goesL_ (some 95) rfl rfl Try.func11 (by kernel_rfl) rfl #[.int .i64 t137, .bool x3_12] rfl (by (try simp only [List.map_toArray, List.map_cons, List.map_nil]); first | done | rfl | (simp only [List.length_drop, List.length_take]; rfl)) ?_; (with_reducible refine (lits_Value.calls kj17 t137 x3_12 t145 t146 _ A26.out).mono ?_); rintro e w47 ⟨rfl, hb⟩; refine ⟨_, rfl, ?_⟩; have n0_ := Aside0.mk (below_step (by repeat (first | (with_reducible first | exact HB.out | apply below_alloc | apply pw_below_drewN | apply below_drew1) | exact HB.out)) hb); clear HB; have HB := n0_; clear n0_; (try clear hb); (try clear hb2); (try clear hk); (try clear hi)) | (go_at_call 20; (with_reducible refine (spiritlevellaw01_alive.calls kj17  t150 _ A46.out).mono ?_); rintro e w48 ⟨rfl, hb⟩; have n0_ := Aside0.mk (below_step (by repeat (first | (with_reducible first | exact HB.out | apply below_alloc | apply pw_below_drewN | apply below_drew1) | exact HB.out)) hb); clear HB; have HB := n0_; clear n0_; (try clear hb); (try clear hb2); (try clear hk); (try clear hi)))
                              go_ret
                              exact ⟨by first | rfl | (simp [errW_none, errW_some] <;> rfl) | (simp [*, errW_none, errW_some] <;> rfl), by repeat (first | (with_reducible first | exact HB.out | apply below_alloc | apply pw_below_drewN | apply below_drew1) | exact HB.out)⟩
                            · rw [if_neg c45] at H
                              have c45b0 : (t137 == a0) = false := beq_eq_false_iff_ne.mpr c45
                              have c45b1 : (t137 != a0) = true := bne_iff_ne.mpr c45
                              by_cases c49 : t137 = a1
                              · rw [if_pos c49] at H
                                have c49b0 : (t137 == a1) = true := beq_iff_eq.mpr c49
                                have c49b1 : (t137 != a1) = false := bne_eq_false_iff_eq.mpr c49
                                clear c49
                                replace H := Option.bind_eq_some_iff.mp H
                                obtain ⟨t151, A500, H⟩ := H
                                replace H : (some t151) = some r := H
                                have A50 := Aside0.mk A500
                                clear A500
                                obtain rfl := Option.some.inj H
                                go_wp2_with (first | ((with_reducible refine gate_callee (f := 11) rfl ?_); refine goesL_ (some 95) rfl rfl Try.func11 (by kernel_rfl) rfl #[.int .i64 t137, .bool x3_12] rfl (by (try simp only [List.map_toArray, List.map_cons, List.map_nil]); first | done | rfl | (simp only [List.length_drop, List.length_take]; rfl)) ?_; (with_reducible refine (lits_Value.calls kj17 t137 x3_12 t145 t146 _ A26.out).mono ?_); rintro e w51 ⟨rfl, hb⟩; refine ⟨_, rfl, ?_⟩; have n0_ := Aside0.mk (below_step (by repeat (first | (with_reducible first | exact HB.out | apply below_alloc | apply pw_below_drewN | apply below_drew1) | exact HB.out)) hb); clear HB; have HB := n0_; clear n0_; (try clear hb); (try clear hb2); (try clear hk); (try clear hi)) | (go_at_call 20; (with_reducible refine (spiritlevellaw01_alive.calls kj17  t151 _ A50.out).mono ?_); rintro e w52 ⟨rfl, hb⟩; have n0_ := Aside0.mk (below_step (by repeat (first | (with_reducible first | exact HB.out | apply below_alloc | apply pw_below_drewN | apply below_drew1) | exact HB.out)) hb); clear HB; have HB := n0_; clear n0_; (try clear hb); (try clear hb2); (try clear hk); (try clear hi)))
                                go_ret
                                exact ⟨by first | rfl | (simp [errW_none, errW_some] <;> rfl) | (simp [*, errW_none, errW_some] <;> rfl), by repeat (first | (with_reducible first | exact HB.out | apply below_alloc | apply pw_below_drewN | apply below_drew1) | exact HB.out)⟩
                              · rw [if_neg c49] at H
                                have c49b0 : (t137 == a1) = false := beq_eq_false_iff_ne.mpr c49
                                have c49b1 : (t137 != a1) = true := bne_iff_ne.mpr c49
                                by_cases c53 : t137 = 0
                                · rw [if_pos c53] at H
                                  have c53b0 : (t137 == 0) = true := beq_iff_eq.mpr c53
                                  have c53b1 : (t137 != 0) = false := bne_eq_false_iff_eq.mpr c53
                                  clear c53
                                  replace H := Option.bind_eq_some_iff.mp H
                                  obtain ⟨t152, A540, H⟩ := H
                                  replace H : (some t152) = some r := H
                                  have A54 := Aside0.mk A540
                                  clear A540
                                  obtain rfl := Option.some.inj H
                                  go_wp2_with (first | ((with_reducible refine gate_callee (f := 11) rfl ?_); refine goesL_ (some 95) rfl rfl Try.func11 (by kernel_rfl) rfl #[.int .i64 t137, .bool x3_12] rfl (by (try simp only [List.map_toArray, List.map_cons, List.map_nil]); first | done | rfl | (simp only [List.length_drop, List.length_take]; rfl)) ?_; (with_reducible refine (lits_Value.calls kj17 t137 x3_12 t145 t146 _ A26.out).mono ?_); rintro e w55 ⟨rfl, hb⟩; refine ⟨_, rfl, ?_⟩; have n0_ := Aside0.mk (below_step (by repeat (first | (with_reducible first | exact HB.out | apply below_alloc | apply pw_below_drewN | apply below_drew1) | exact HB.out)) hb); clear HB; have HB := n0_; clear n0_; (try clear hb); (try clear hb2); (try clear hk); (try clear hi)) | (go_at_call 20; (with_reducible refine (spiritlevellaw01_alive.calls kj17  t152 _ A54.out).mono ?_); rintro e w56 ⟨rfl, hb⟩; have n0_ := Aside0.mk (below_step (by repeat (first | (with_reducible first | exact HB.out | apply below_alloc | apply pw_below_drewN | apply below_drew1) | exact HB.out)) hb); clear HB; have HB := n0_; clear n0_; (try clear hb); (try clear hb2); (try clear hk); (try clear hi)))
                                  go_ret
                                  exact ⟨by first | rfl | (simp [errW_none, errW_some] <;> rfl) | (simp [*, errW_none, errW_some] <;> rfl), by repeat (first | (with_reducible first | exact HB.out | apply below_alloc | apply pw_below_drewN | apply below_drew1) | exact HB.out)⟩
                                · rw [if_neg c53] at H
                                  have c53b0 : (t137 == 0) = false := beq_eq_false_iff_ne.mpr c53
                                  have c53b1 : (t137 != 0) = true := bne_iff_ne.mpr c53
                                  obtain rfl := Option.some.inj H
                                  go_wp2_with (first | ((with_reducible refine gate_callee (f := 11) rfl ?_); refine goesL_ (some 95) rfl rfl Try.func11 (by kernel_rfl) rfl #[.int .i64 t137, .bool x3_12] rfl (by (try simp only [List.map_toArray, List.map_cons, List.map_nil]); first | done | rfl | (simp only [List.length_drop, List.length_take]; rfl)) ?_; (with_reducible refine (lits_Value.calls kj17 t137 x3_12 t145 t146 _ A26.out).mono ?_); rintro e w57 ⟨rfl, hb⟩; refine ⟨_, rfl, ?_⟩; have n0_ := Aside0.mk (below_step (by repeat (first | (with_reducible first | exact HB.out | apply below_alloc | apply pw_below_drewN | apply below_drew1) | exact HB.out)) hb); clear HB; have HB := n0_; clear n0_; (try clear hb); (try clear hb2); (try clear hk); (try clear hi)))
                                  go_ret
                                  exact ⟨by first | rfl | (simp [errW_none, errW_some] <;> rfl) | (simp [*, errW_none, errW_some] <;> rfl), by repeat (first | (with_reducible first | exact HB.out | apply below_alloc | apply pw_below_drewN | apply below_drew1) | exact HB.out)⟩
                          · rw [if_neg c44] at H
                            have c44b0 : (t145 == false) = false := by simpa using c44
                            (try (have c44b1 : decide (t145 = false) = false := by simpa using c44))
                            (try (have c44b2 : (t145 == false) = false := by simpa using c44))
                            (try (have c44b3 : ¬ (t145 = false) := by simpa using c44))
                            clear c44
                            obtain rfl := Option.some.inj H
                            go_wp2_with (first | ((with_reducible refine gate_callee (f := 11) rfl ?_); refine goesL_ (some 95) rfl rfl Try.func11 (by kernel_rfl) rfl #[.int .i64 t137, .bool x3_12] rfl (by (try simp only [List.map_toArray, List.map_cons, List.map_nil]); first | done | rfl | (simp only [List.length_drop, List.length_take]; rfl)) ?_; (with_reducible refine (lits_Value.calls kj17 t137 x3_12 t145 t146 _ A26.out).mono ?_); rintro e w58 ⟨rfl, hb⟩; refine ⟨_, rfl, ?_⟩; have n0_ := Aside0.mk (below_step (by repeat (first | (with_reducible first | exact HB.out | apply below_alloc | apply pw_below_drewN | apply below_drew1) | exact HB.out)) hb); clear HB; have HB := n0_; clear n0_; (try clear hb); (try clear hb2); (try clear hk); (try clear hi)))
                            go_ret
                            exact ⟨by first | rfl | (simp [errW_none, errW_some] <;> rfl) | (simp [*, errW_none, errW_some] <;> rfl), by repeat (first | (with_reducible first | exact HB.out | apply below_alloc | apply pw_below_drewN | apply below_drew1) | exact HB.out)⟩
                      · rw [if_neg c27] at H
                        have c27b0 : (t146 == 0) = false := beq_eq_false_iff_ne.mpr c27
                        have c27b1 : (t146 != 0) = true := bne_iff_ne.mpr c27
                        obtain rfl := Option.some.inj H
                        go_wp2_with (first | ((with_reducible refine gate_callee (f := 11) rfl ?_); refine goesL_ (some 95) rfl rfl Try.func11 (by kernel_rfl) rfl #[.int .i64 t137, .bool x3_12] rfl (by (try simp only [List.map_toArray, List.map_cons, List.map_nil]); first | done | rfl | (simp only [List.length_drop, List.length_take]; rfl)) ?_; (with_reducible refine (lits_Value.calls kj17 t137 x3_12 t145 t146 _ A26.out).mono ?_); rintro e w59 ⟨rfl, hb⟩; refine ⟨_, rfl, ?_⟩; have n0_ := Aside0.mk (below_step (by repeat (first | (with_reducible first | exact HB.out | apply below_alloc | apply pw_below_drewN | apply below_drew1) | exact HB.out)) hb); clear HB; have HB := n0_; clear n0_; (try clear hb); (try clear hb2); (try clear hk); (try clear hi)))
                        go_ret
                        exact ⟨by first | rfl | (simp [errW_none, errW_some] <;> rfl) | (simp [*, errW_none, errW_some] <;> rfl), by repeat (first | (with_reducible first | exact HB.out | apply below_alloc | apply pw_below_drewN | apply below_drew1) | exact HB.out)⟩
                    · rw [if_neg c25] at H
                      have c25b0 : ((wrap64 (Int.tdiv t137 2)) == (wrap64 (Int.tdiv a1 2))) = false := beq_eq_false_iff_ne.mpr c25
                      have c25b1 : ((wrap64 (Int.tdiv t137 2)) != (wrap64 (Int.tdiv a1 2))) = true := bne_iff_ne.mpr c25
                      replace H := Option.bind_eq_some_iff.mp H
                      obtain ⟨⟨t153, t154⟩, A600, H⟩ := H
                      replace H : (if t154 = 0 then (if t140 = true then (if (t153 == t142) = true then (if t137 = a0 then ((spiritlevellaw01_alive.f kj17).bind fun t155 => (some t155)) else (if t137 = a1 then ((spiritlevellaw01_alive.f kj17).bind fun t156 => (some t156)) else (if t137 = 0 then ((spiritlevellaw01_alive.f kj17).bind fun t157 => (some t157)) else (some false)))) else (some false)) else (if (t153 == false) = true then (if t137 = a0 then ((spiritlevellaw01_alive.f kj17).bind fun t158 => (some t158)) else (if t137 = a1 then ((spiritlevellaw01_alive.f kj17).bind fun t159 => (some t159)) else (if t137 = 0 then ((spiritlevellaw01_alive.f kj17).bind fun t160 => (some t160)) else (some false)))) else (some false))) else (some false)) = some r := H
                      have A60 := Aside0.mk A600
                      clear A600
                      by_cases c61 : t154 = 0
                      · rw [if_pos c61] at H
                        have c61b0 : (t154 == 0) = true := beq_iff_eq.mpr c61
                        have c61b1 : (t154 != 0) = false := bne_eq_false_iff_eq.mpr c61
                        clear c61
                        by_cases c62 : t140 = true
                        · subst c62
                          have H1 : (if (t153 == t142) = true then (if t137 = a0 then ((spiritlevellaw01_alive.f kj17).bind fun t155 => (some t155)) else (if t137 = a1 then ((spiritlevellaw01_alive.f kj17).bind fun t156 => (some t156)) else (if t137 = 0 then ((spiritlevellaw01_alive.f kj17).bind fun t157 => (some t157)) else (some false)))) else (some false)) = some r := by rw [if_pos rfl] at H; exact H
                          clear H
                          have H := H1
                          clear H1
                          by_cases c63 : (t153 == t142) = true
                          · rw [if_pos c63] at H
                            have c63b0 : (t153 == t142) = true := c63
                            (try (have c63b1 : decide (t153 = t142) = true := by simpa using c63))
                            (try (have c63b2 : (t153 == t142) = true := by simpa using c63))
                            clear c63
                            by_cases c64 : t137 = a0
                            · rw [if_pos c64] at H
                              have c64b0 : (t137 == a0) = true := beq_iff_eq.mpr c64
                              have c64b1 : (t137 != a0) = false := bne_eq_false_iff_eq.mpr c64
                              clear c64
                              replace H := Option.bind_eq_some_iff.mp H
                              obtain ⟨t155, A650, H⟩ := H
                              replace H : (some t155) = some r := H
                              have A65 := Aside0.mk A650
                              clear A650
                              obtain rfl := Option.some.inj H
                              go_wp2_with (first | ((with_reducible refine gate_callee (f := 11) rfl ?_); refine goesL_ (some 95) rfl rfl Try.func11 (by kernel_rfl) rfl #[.int .i64 t137, .bool a2] rfl (by (try simp only [List.map_toArray, List.map_cons, List.map_nil]); first | done | rfl | (simp only [List.length_drop, List.length_take]; rfl)) ?_; (with_reducible refine (lits_Value.calls kj17 t137 a2 t153 t154 _ A60.out).mono ?_); rintro e w66 ⟨rfl, hb⟩; refine ⟨_, rfl, ?_⟩; have n0_ := Aside0.mk (below_step (by repeat (first | (with_reducible first | exact HB.out | apply below_alloc | apply pw_below_drewN | apply below_drew1) | exact HB.out)) hb); clear HB; have HB := n0_; clear n0_; (try clear hb); (try clear hb2); (try clear hk); (try clear hi)) | (go_at_call 20; (with_reducible refine (spiritlevellaw01_alive.calls kj17  t155 _ A65.out).mono ?_); rintro e w67 ⟨rfl, hb⟩; have n0_ := Aside0.mk (below_step (by repeat (first | (with_reducible first | exact HB.out | apply below_alloc | apply pw_below_drewN | apply below_drew1) | exact HB.out)) hb); clear HB; have HB := n0_; clear n0_; (try clear hb); (try clear hb2); (try clear hk); (try clear hi)))
                              go_ret
                              exact ⟨by first | rfl | (simp [errW_none, errW_some] <;> rfl) | (simp [*, errW_none, errW_some] <;> rfl), by repeat (first | (with_reducible first | exact HB.out | apply below_alloc | apply pw_below_drewN | apply below_drew1) | exact HB.out)⟩
                            · rw [if_neg c64] at H
                              have c64b0 : (t137 == a0) = false := beq_eq_false_iff_ne.mpr c64
                              have c64b1 : (t137 != a0) = true := bne_iff_ne.mpr c64
                              by_cases c68 : t137 = a1
                              · rw [if_pos c68] at H
                                have c68b0 : (t137 == a1) = true := beq_iff_eq.mpr c68
                                have c68b1 : (t137 != a1) = false := bne_eq_false_iff_eq.mpr c68
                                clear c68
                                replace H := Option.bind_eq_some_iff.mp H
                                obtain ⟨t156, A690, H⟩ := H
                                replace H : (some t156) = some r := H
                                have A69 := Aside0.mk A690
                                clear A690
                                obtain rfl := Option.some.inj H
                                go_wp2_with (first | ((with_reducible refine gate_callee (f := 11) rfl ?_); refine goesL_ (some 95) rfl rfl Try.func11 (by kernel_rfl) rfl #[.int .i64 t137, .bool a2] rfl (by (try simp only [List.map_toArray, List.map_cons, List.map_nil]); first | done | rfl | (simp only [List.length_drop, List.length_take]; rfl)) ?_; (with_reducible refine (lits_Value.calls kj17 t137 a2 t153 t154 _ A60.out).mono ?_); rintro e w70 ⟨rfl, hb⟩; refine ⟨_, rfl, ?_⟩; have n0_ := Aside0.mk (below_step (by repeat (first | (with_reducible first | exact HB.out | apply below_alloc | apply pw_below_drewN | apply below_drew1) | exact HB.out)) hb); clear HB; have HB := n0_; clear n0_; (try clear hb); (try clear hb2); (try clear hk); (try clear hi)) | (go_at_call 20; (with_reducible refine (spiritlevellaw01_alive.calls kj17  t156 _ A69.out).mono ?_); rintro e w71 ⟨rfl, hb⟩; have n0_ := Aside0.mk (below_step (by repeat (first | (with_reducible first | exact HB.out | apply below_alloc | apply pw_below_drewN | apply below_drew1) | exact HB.out)) hb); clear HB; have HB := n0_; clear n0_; (try clear hb); (try clear hb2); (try clear hk); (try clear hi)))
                                go_ret
                                exact ⟨by first | rfl | (simp [errW_none, errW_some] <;> rfl) | (simp [*, errW_none, errW_some] <;> rfl), by repeat (first | (with_reducible first | exact HB.out | apply below_alloc | apply pw_below_drewN | apply below_drew1) | exact HB.out)⟩
                              · rw [if_neg c68] at H
                                have c68b0 : (t137 == a1) = false := beq_eq_false_iff_ne.mpr c68
                                have c68b1 : (t137 != a1) = true := bne_iff_ne.mpr c68
                                by_cases c72 : t137 = 0
                                · rw [if_pos c72] at H
                                  have c72b0 : (t137 == 0) = true := beq_iff_eq.mpr c72
                                  have c72b1 : (t137 != 0) = false := bne_eq_false_iff_eq.mpr c72
                                  clear c72
                                  replace H := Option.bind_eq_some_iff.mp H
                                  obtain ⟨t157, A730, H⟩ := H
                                  replace H : (some t157) = some r := H
                                  have A73 := Aside0.mk A730
                                  clear A730
                                  obtain rfl := Option.some.inj H
                                  go_wp2_with (first | ((with_reducible refine gate_callee (f := 11) rfl ?_); refine goesL_ (some 95) rfl rfl Try.func11 (by kernel_rfl) rfl #[.int .i64 t137, .bool a2] rfl (by (try simp only [List.map_toArray, List.map_cons, List.map_nil]); first | done | rfl | (simp only [List.length_drop, List.length_take]; rfl)) ?_; (with_reducible refine (lits_Value.calls kj17 t137 a2 t153 t154 _ A60.out).mono ?_); rintro e w74 ⟨rfl, hb⟩; refine ⟨_, rfl, ?_⟩; have n0_ := Aside0.mk (below_step (by repeat (first | (with_reducible first | exact HB.out | apply below_alloc | apply pw_below_drewN | apply below_drew1) | exact HB.out)) hb); clear HB; have HB := n0_; clear n0_; (try clear hb); (try clear hb2); (try clear hk); (try clear hi)) | (go_at_call 20; (with_reducible refine (spiritlevellaw01_alive.calls kj17  t157 _ A73.out).mono ?_); rintro e w75 ⟨rfl, hb⟩; have n0_ := Aside0.mk (below_step (by repeat (first | (with_reducible first | exact HB.out | apply below_alloc | apply pw_below_drewN | apply below_drew1) | exact HB.out)) hb); clear HB; have HB := n0_; clear n0_; (try clear hb); (try clear hb2); (try clear hk); (try clear hi)))
                                  go_ret
                                  exact ⟨by first | rfl | (simp [errW_none, errW_some] <;> rfl) | (simp [*, errW_none, errW_some] <;> rfl), by repeat (first | (with_reducible first | exact HB.out | apply below_alloc | apply pw_below_drewN | apply below_drew1) | exact HB.out)⟩
                                · rw [if_neg c72] at H
                                  have c72b0 : (t137 == 0) = false := beq_eq_false_iff_ne.mpr c72
                                  have c72b1 : (t137 != 0) = true := bne_iff_ne.mpr c72
                                  obtain rfl := Option.some.inj H
                                  go_wp2_with (first | ((with_reducible refine gate_callee (f := 11) rfl ?_); refine goesL_ (some 95) rfl rfl Try.func11 (by kernel_rfl) rfl #[.int .i64 t137, .bool a2] rfl (by (try simp only [List.map_toArray, List.map_cons, List.map_nil]); first | done | rfl | (simp only [List.length_drop, List.length_take]; rfl)) ?_; (with_reducible refine (lits_Value.calls kj17 t137 a2 t153 t154 _ A60.out).mono ?_); rintro e w76 ⟨rfl, hb⟩; refine ⟨_, rfl, ?_⟩; have n0_ := Aside0.mk (below_step (by repeat (first | (with_reducible first | exact HB.out | apply below_alloc | apply pw_below_drewN | apply below_drew1) | exact HB.out)) hb); clear HB; have HB := n0_; clear n0_; (try clear hb); (try clear hb2); (try clear hk); (try clear hi)))
                                  go_ret
                                  exact ⟨by first | rfl | (simp [errW_none, errW_some] <;> rfl) | (simp [*, errW_none, errW_some] <;> rfl), by repeat (first | (with_reducible first | exact HB.out | apply below_alloc | apply pw_below_drewN | apply below_drew1) | exact HB.out)⟩
                          · rw [if_neg c63] at H
                            have c63b0 : (t153 == t142) = false := by simpa using c63
                            (try (have c63b1 : decide (t153 = t142) = false := by simpa using c63))
                            (try (have c63b2 : (t153 == t142) = false := by simpa using c63))
                            (try (have c63b3 : ¬ (t153 = t142) := by simpa using c63))
                            clear c63
                            obtain rfl := Option.some.inj H
                            go_wp2_with (first | ((with_reducible refine gate_callee (f := 11) rfl ?_); refine goesL_ (some 95) rfl rfl Try.func11 (by kernel_rfl) rfl #[.int .i64 t137, .bool a2] rfl (by (try simp only [List.map_toArray, List.map_cons, List.map_nil]); first | done | rfl | (simp only [List.length_drop, List.length_take]; rfl)) ?_; (with_reducible refine (lits_Value.calls kj17 t137 a2 t153 t154 _ A60.out).mono ?_); rintro e w77 ⟨rfl, hb⟩; refine ⟨_, rfl, ?_⟩; have n0_ := Aside0.mk (below_step (by repeat (first | (with_reducible first | exact HB.out | apply below_alloc | apply pw_below_drewN | apply below_drew1) | exact HB.out)) hb); clear HB; have HB := n0_; clear n0_; (try clear hb); (try clear hb2); (try clear hk); (try clear hi)))
                            go_ret
                            exact ⟨by first | rfl | (simp [errW_none, errW_some] <;> rfl) | (simp [*, errW_none, errW_some] <;> rfl), by repeat (first | (with_reducible first | exact HB.out | apply below_alloc | apply pw_below_drewN | apply below_drew1) | exact HB.out)⟩
                        · replace c62 := Bool.eq_false_iff.mpr c62
                          subst c62
                          have H1 : (if (t153 == false) = true then (if t137 = a0 then ((spiritlevellaw01_alive.f kj17).bind fun t158 => (some t158)) else (if t137 = a1 then ((spiritlevellaw01_alive.f kj17).bind fun t159 => (some t159)) else (if t137 = 0 then ((spiritlevellaw01_alive.f kj17).bind fun t160 => (some t160)) else (some false)))) else (some false)) = some r := by rw [if_neg (show ¬ (false = true) by decide)] at H; exact H
                          clear H
                          have H := H1
                          clear H1
                          by_cases c78 : (t153 == false) = true
                          · rw [if_pos c78] at H
                            have c78b0 : (t153 == false) = true := c78
                            (try (have c78b1 : decide (t153 = false) = true := by simpa using c78))
                            (try (have c78b2 : (t153 == false) = true := by simpa using c78))
                            clear c78
                            by_cases c79 : t137 = a0
                            · rw [if_pos c79] at H
                              have c79b0 : (t137 == a0) = true := beq_iff_eq.mpr c79
                              have c79b1 : (t137 != a0) = false := bne_eq_false_iff_eq.mpr c79
                              clear c79
                              replace H := Option.bind_eq_some_iff.mp H
                              obtain ⟨t158, A800, H⟩ := H
                              replace H : (some t158) = some r := H
                              have A80 := Aside0.mk A800
                              clear A800
                              obtain rfl := Option.some.inj H
                              go_wp2_with (first | ((with_reducible refine gate_callee (f := 11) rfl ?_); refine goesL_ (some 95) rfl rfl Try.func11 (by kernel_rfl) rfl #[.int .i64 t137, .bool a2] rfl (by (try simp only [List.map_toArray, List.map_cons, List.map_nil]); first | done | rfl | (simp only [List.length_drop, List.length_take]; rfl)) ?_; (with_reducible refine (lits_Value.calls kj17 t137 a2 t153 t154 _ A60.out).mono ?_); rintro e w81 ⟨rfl, hb⟩; refine ⟨_, rfl, ?_⟩; have n0_ := Aside0.mk (below_step (by repeat (first | (with_reducible first | exact HB.out | apply below_alloc | apply pw_below_drewN | apply below_drew1) | exact HB.out)) hb); clear HB; have HB := n0_; clear n0_; (try clear hb); (try clear hb2); (try clear hk); (try clear hi)) | (go_at_call 20; (with_reducible refine (spiritlevellaw01_alive.calls kj17  t158 _ A80.out).mono ?_); rintro e w82 ⟨rfl, hb⟩; have n0_ := Aside0.mk (below_step (by repeat (first | (with_reducible first | exact HB.out | apply below_alloc | apply pw_below_drewN | apply below_drew1) | exact HB.out)) hb); clear HB; have HB := n0_; clear n0_; (try clear hb); (try clear hb2); (try clear hk); (try clear hi)))
                              go_ret
                              exact ⟨by first | rfl | (simp [errW_none, errW_some] <;> rfl) | (simp [*, errW_none, errW_some] <;> rfl), by repeat (first | (with_reducible first | exact HB.out | apply below_alloc | apply pw_below_drewN | apply below_drew1) | exact HB.out)⟩
                            · rw [if_neg c79] at H
                              have c79b0 : (t137 == a0) = false := beq_eq_false_iff_ne.mpr c79
                              have c79b1 : (t137 != a0) = true := bne_iff_ne.mpr c79
                              by_cases c83 : t137 = a1
                              · rw [if_pos c83] at H
                                have c83b0 : (t137 == a1) = true := beq_iff_eq.mpr c83
                                have c83b1 : (t137 != a1) = false := bne_eq_false_iff_eq.mpr c83
                                clear c83
                                replace H := Option.bind_eq_some_iff.mp H
                                obtain ⟨t159, A840, H⟩ := H
                                replace H : (some t159) = some r := H
                                have A84 := Aside0.mk A840
                                clear A840
                                obtain rfl := Option.some.inj H
                                go_wp2_with (first | ((with_reducible refine gate_callee (f := 11) rfl ?_); refine goesL_ (some 95) rfl rfl Try.func11 (by kernel_rfl) rfl #[.int .i64 t137, .bool a2] rfl (by (try simp only [List.map_toArray, List.map_cons, List.map_nil]); first | done | rfl | (simp only [List.length_drop, List.length_take]; rfl)) ?_; (with_reducible refine (lits_Value.calls kj17 t137 a2 t153 t154 _ A60.out).mono ?_); rintro e w85 ⟨rfl, hb⟩; refine ⟨_, rfl, ?_⟩; have n0_ := Aside0.mk (below_step (by repeat (first | (with_reducible first | exact HB.out | apply below_alloc | apply pw_below_drewN | apply below_drew1) | exact HB.out)) hb); clear HB; have HB := n0_; clear n0_; (try clear hb); (try clear hb2); (try clear hk); (try clear hi)) | (go_at_call 20; (with_reducible refine (spiritlevellaw01_alive.calls kj17  t159 _ A84.out).mono ?_); rintro e w86 ⟨rfl, hb⟩; have n0_ := Aside0.mk (below_step (by repeat (first | (with_reducible first | exact HB.out | apply below_alloc | apply pw_below_drewN | apply below_drew1) | exact HB.out)) hb); clear HB; have HB := n0_; clear n0_; (try clear hb); (try clear hb2); (try clear hk); (try clear hi)))
                                go_ret
                                exact ⟨by first | rfl | (simp [errW_none, errW_some] <;> rfl) | (simp [*, errW_none, errW_some] <;> rfl), by repeat (first | (with_reducible first | exact HB.out | apply below_alloc | apply pw_below_drewN | apply below_drew1) | exact HB.out)⟩
                              · rw [if_neg c83] at H
                                have c83b0 : (t137 == a1) = false := beq_eq_false_iff_ne.mpr c83
                                have c83b1 : (t137 != a1) = true := bne_iff_ne.mpr c83
                                by_cases c87 : t137 = 0
                                · rw [if_pos c87] at H
                                  have c87b0 : (t137 == 0) = true := beq_iff_eq.mpr c87
                                  have c87b1 : (t137 != 0) = false := bne_eq_false_iff_eq.mpr c87
                                  clear c87
                                  replace H := Option.bind_eq_some_iff.mp H
                                  obtain ⟨t160, A880, H⟩ := H
                                  replace H : (some t160) = some r := H
                                  have A88 := Aside0.mk A880
                                  clear A880
                                  obtain rfl := Option.some.inj H
                                  go_wp2_with (first | ((with_reducible refine gate_callee (f := 11) rfl ?_); refine goesL_ (some 95) rfl rfl Try.func11 (by kernel_rfl) rfl #[.int .i64 t137, .bool a2] rfl (by (try simp only [List.map_toArray, List.map_cons, List.map_nil]); first | done | rfl | (simp only [List.length_drop, List.length_take]; rfl)) ?_; (with_reducible refine (lits_Value.calls kj17 t137 a2 t153 t154 _ A60.out).mono ?_); rintro e w89 ⟨rfl, hb⟩; refine ⟨_, rfl, ?_⟩; have n0_ := Aside0.mk (below_step (by repeat (first | (with_reducible first | exact HB.out | apply below_alloc | apply pw_below_drewN | apply below_drew1) | exact HB.out)) hb); clear HB; have HB := n0_; clear n0_; (try clear hb); (try clear hb2); (try clear hk); (try clear hi)) | (go_at_call 20; (with_reducible refine (spiritlevellaw01_alive.calls kj17  t160 _ A88.out).mono ?_); rintro e w90 ⟨rfl, hb⟩; have n0_ := Aside0.mk (below_step (by repeat (first | (with_reducible first | exact HB.out | apply below_alloc | apply pw_below_drewN | apply below_drew1) | exact HB.out)) hb); clear HB; have HB := n0_; clear n0_; (try clear hb); (try clear hb2); (try clear hk); (try clear hi)))
                                  go_ret
                                  exact ⟨by first | rfl | (simp [errW_none, errW_some] <;> rfl) | (simp [*, errW_none, errW_some] <;> rfl), by repeat (first | (with_reducible first | exact HB.out | apply below_alloc | apply pw_below_drewN | apply below_drew1) | exact HB.out)⟩
                                · rw [if_neg c87] at H
                                  have c87b0 : (t137 == 0) = false := beq_eq_false_iff_ne.mpr c87
                                  have c87b1 : (t137 != 0) = true := bne_iff_ne.mpr c87
                                  obtain rfl := Option.some.inj H
                                  go_wp2_with (first | ((with_reducible refine gate_callee (f := 11) rfl ?_); refine goesL_ (some 95) rfl rfl Try.func11 (by kernel_rfl) rfl #[.int .i64 t137, .bool a2] rfl (by (try simp only [List.map_toArray, List.map_cons, List.map_nil]); first | done | rfl | (simp only [List.length_drop, List.length_take]; rfl)) ?_; (with_reducible refine (lits_Value.calls kj17 t137 a2 t153 t154 _ A60.out).mono ?_); rintro e w91 ⟨rfl, hb⟩; refine ⟨_, rfl, ?_⟩; have n0_ := Aside0.mk (below_step (by repeat (first | (with_reducible first | exact HB.out | apply below_alloc | apply pw_below_drewN | apply below_drew1) | exact HB.out)) hb); clear HB; have HB := n0_; clear n0_; (try clear hb); (try clear hb2); (try clear hk); (try clear hi)))
                                  go_ret
                                  exact ⟨by first | rfl | (simp [errW_none, errW_some] <;> rfl) | (simp [*, errW_none, errW_some] <;> rfl), by repeat (first | (with_reducible first | exact HB.out | apply below_alloc | apply pw_below_drewN | apply below_drew1) | exact HB.out)⟩
                          · rw [if_neg c78] at H
                            have c78b0 : (t153 == false) = false := by simpa using c78
                            (try (have c78b1 : decide (t153 = false) = false := by simpa using c78))
                            (try (have c78b2 : (t153 == false) = false := by simpa using c78))
                            (try (have c78b3 : ¬ (t153 = false) := by simpa using c78))
                            clear c78
                            obtain rfl := Option.some.inj H
                            go_wp2_with (first | ((with_reducible refine gate_callee (f := 11) rfl ?_); refine goesL_ (some 95) rfl rfl Try.func11 (by kernel_rfl) rfl #[.int .i64 t137, .bool a2] rfl (by (try simp only [List.map_toArray, List.map_cons, List.map_nil]); first | done | rfl | (simp only [List.length_drop, List.length_take]; rfl)) ?_; (with_reducible refine (lits_Value.calls kj17 t137 a2 t153 t154 _ A60.out).mono ?_); rintro e w92 ⟨rfl, hb⟩; refine ⟨_, rfl, ?_⟩; have n0_ := Aside0.mk (below_step (by repeat (first | (with_reducible first | exact HB.out | apply below_alloc | apply pw_below_drewN | apply below_drew1) | exact HB.out)) hb); clear HB; have HB := n0_; clear n0_; (try clear hb); (try clear hb2); (try clear hk); (try clear hi)))
                            go_ret
                            exact ⟨by first | rfl | (simp [errW_none, errW_some] <;> rfl) | (simp [*, errW_none, errW_some] <;> rfl), by repeat (first | (with_reducible first | exact HB.out | apply below_alloc | apply pw_below_drewN | apply below_drew1) | exact HB.out)⟩
                      · rw [if_neg c61] at H
                        have c61b0 : (t154 == 0) = false := beq_eq_false_iff_ne.mpr c61
                        have c61b1 : (t154 != 0) = true := bne_iff_ne.mpr c61
                        obtain rfl := Option.some.inj H
                        go_wp2_with (first | ((with_reducible refine gate_callee (f := 11) rfl ?_); refine goesL_ (some 95) rfl rfl Try.func11 (by kernel_rfl) rfl #[.int .i64 t137, .bool a2] rfl (by (try simp only [List.map_toArray, List.map_cons, List.map_nil]); first | done | rfl | (simp only [List.length_drop, List.length_take]; rfl)) ?_; (with_reducible refine (lits_Value.calls kj17 t137 a2 t153 t154 _ A60.out).mono ?_); rintro e w93 ⟨rfl, hb⟩; refine ⟨_, rfl, ?_⟩; have n0_ := Aside0.mk (below_step (by repeat (first | (with_reducible first | exact HB.out | apply below_alloc | apply pw_below_drewN | apply below_drew1) | exact HB.out)) hb); clear HB; have HB := n0_; clear n0_; (try clear hb); (try clear hb2); (try clear hk); (try clear hi)))
                        go_ret
                        exact ⟨by first | rfl | (simp [errW_none, errW_some] <;> rfl) | (simp [*, errW_none, errW_some] <;> rfl), by repeat (first | (with_reducible first | exact HB.out | apply below_alloc | apply pw_below_drewN | apply below_drew1) | exact HB.out)⟩
                  · replace c24 := Bool.eq_false_iff.mpr c24
                    subst c24
                    have H1 : (if t137 = 0 then (if a0 > 1 then (if a1 > 1 then (if (wrap64 (Int.tdiv a0 2)) = (wrap64 (Int.tdiv a1 2)) then (some false) else ((spiritlevellaw01_alive.f kj17).bind fun t144 => (some t144))) else (some false)) else (some false)) else (some false)) = some r := by rw [if_neg (show ¬ (false = true) by decide)] at H; exact H
                    clear H
                    have H := H1
                    clear H1
                    by_cases c94 : t137 = 0
                    · rw [if_pos c94] at H
                      have c94b0 : (t137 == 0) = true := beq_iff_eq.mpr c94
                      have c94b1 : (t137 != 0) = false := bne_eq_false_iff_eq.mpr c94
                      clear c94
                      by_cases c95 : a0 > 1
                      · rw [if_pos c95] at H
                        have c95b0 : decide (1 < a0) = true := decide_eq_true c95
                        clear c95
                        by_cases c96 : a1 > 1
                        · rw [if_pos c96] at H
                          have c96b0 : decide (1 < a1) = true := decide_eq_true c96
                          clear c96
                          by_cases c97 : (wrap64 (Int.tdiv a0 2)) = (wrap64 (Int.tdiv a1 2))
                          · rw [if_pos c97] at H
                            have c97b0 : ((wrap64 (Int.tdiv a0 2)) == (wrap64 (Int.tdiv a1 2))) = true := beq_iff_eq.mpr c97
                            have c97b1 : ((wrap64 (Int.tdiv a0 2)) != (wrap64 (Int.tdiv a1 2))) = false := bne_eq_false_iff_eq.mpr c97
                            clear c97
                            obtain rfl := Option.some.inj H
                            go_wp2
                            go_ret
                            exact ⟨by first | rfl | (simp [errW_none, errW_some] <;> rfl) | (simp [*, errW_none, errW_some] <;> rfl), by repeat (first | (with_reducible first | exact HB.out | apply below_alloc | apply pw_below_drewN | apply below_drew1) | exact HB.out)⟩
                          · rw [if_neg c97] at H
                            have c97b0 : ((wrap64 (Int.tdiv a0 2)) == (wrap64 (Int.tdiv a1 2))) = false := beq_eq_false_iff_ne.mpr c97
                            have c97b1 : ((wrap64 (Int.tdiv a0 2)) != (wrap64 (Int.tdiv a1 2))) = true := bne_iff_ne.mpr c97
                            replace H := Option.bind_eq_some_iff.mp H
                            obtain ⟨t144, A980, H⟩ := H
                            replace H : (some t144) = some r := H
                            have A98 := Aside0.mk A980
                            clear A980
                            obtain rfl := Option.some.inj H
                            go_wp2_with (first | (go_at_call 20; (with_reducible refine (spiritlevellaw01_alive.calls kj17  t144 _ A98.out).mono ?_); rintro e w99 ⟨rfl, hb⟩; have n0_ := Aside0.mk (below_step (by repeat (first | (with_reducible first | exact HB.out | apply below_alloc | apply pw_below_drewN | apply below_drew1) | exact HB.out)) hb); clear HB; have HB := n0_; clear n0_; (try clear hb); (try clear hb2); (try clear hk); (try clear hi)))
                            go_ret
                            exact ⟨by first | rfl | (simp [errW_none, errW_some] <;> rfl) | (simp [*, errW_none, errW_some] <;> rfl), by repeat (first | (with_reducible first | exact HB.out | apply below_alloc | apply pw_below_drewN | apply below_drew1) | exact HB.out)⟩
                        · rw [if_neg c96] at H
                          have c96b0 : decide (1 < a1) = false := decide_eq_false c96
                          clear c96
                          obtain rfl := Option.some.inj H
                          go_wp2
                          go_ret
                          exact ⟨by first | rfl | (simp [errW_none, errW_some] <;> rfl) | (simp [*, errW_none, errW_some] <;> rfl), by repeat (first | (with_reducible first | exact HB.out | apply below_alloc | apply pw_below_drewN | apply below_drew1) | exact HB.out)⟩
                      · rw [if_neg c95] at H
                        have c95b0 : decide (1 < a0) = false := decide_eq_false c95
                        clear c95
                        obtain rfl := Option.some.inj H
                        go_wp2
                        go_ret
                        exact ⟨by first | rfl | (simp [errW_none, errW_some] <;> rfl) | (simp [*, errW_none, errW_some] <;> rfl), by repeat (first | (with_reducible first | exact HB.out | apply below_alloc | apply pw_below_drewN | apply below_drew1) | exact HB.out)⟩
                    · rw [if_neg c94] at H
                      have c94b0 : (t137 == 0) = false := beq_eq_false_iff_ne.mpr c94
                      have c94b1 : (t137 != 0) = true := bne_iff_ne.mpr c94
                      obtain rfl := Option.some.inj H
                      go_wp2
                      go_ret
                      exact ⟨by first | rfl | (simp [errW_none, errW_some] <;> rfl) | (simp [*, errW_none, errW_some] <;> rfl), by repeat (first | (with_reducible first | exact HB.out | apply below_alloc | apply pw_below_drewN | apply below_drew1) | exact HB.out)⟩

/-- THE ONE PURE STATEMENT of spiritlevellaw01_LitsRules: yours. -/
def spiritlevellaw01_LitsRules.Pure : Prop := ∀ (a0 : Int) (a1 : Int) (a2 : Bool) (a3 : Bool), (Lit.int .i64 a0).wf = true → (Lit.int .i64 a1).wf = true → ∃ k, spiritlevellaw01_LitsRules.f k a0 a1 a2 a3 = some true
theorem spiritlevellaw01_LitsRules.walk (P : spiritlevellaw01_LitsRules.Pure) (a0 : Int) (a1 : Int) (a2 : Bool) (a3 : Bool) (w : World) (w0 : (Lit.int .i64 a0).wf = true) (w1 : (Lit.int .i64 a1).wf = true) :
    Calls Try.prog 6 #[.int .i64 a0, .int .i64 a1, .bool a2, .bool a3] w fun e w' => e = .returned (.bool true) ∧ Below w.heap.size w w' := by
  obtain ⟨k, h⟩ := P a0 a1 a2 a3 w0 w1
  refine (spiritlevellaw01_LitsRules.calls k a0 a1 a2 a3 true w h).mono ?_
  rintro e w' ⟨rfl, hd⟩
  exact ⟨rfl, hd⟩

end Go.Proofs.Ytmdabengejlijaa.QLitsRules
