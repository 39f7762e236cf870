-- Made by wip/myprint.sh (a patched print): a text of this session's own.
import Derived.Test.YtmcdanpecajklaaQTernsimStatesx0
namespace Go.Proofs.Ytmcdanpecajklaa.QTernsimStates
open Go.RowKit Go.Proofs.YtmcdanpecajklaaW.PrintWords Go.Proofs.YtmcdanpecajklaaW.PrintLast Go.Proofs.YtmcdanpecajklaaW.PrintMore
attribute [local go_sem] max2_int min2_int max_two min_two max_three min_three max_four min_four   -- for this text's walks alone
set_option linter.unusedVariables false
set_option linter.unusedSimpArgs false

/-! ### spiritlevelref30_constant: function 97 -/
def spiritlevelref30_constant.l0 : Nat → List (List Int) → Int → Int → Option (Int)
 | 0, _, _, _ => none
 | k + 1, x0, x1, x5 => if x5 < (x0.length : Int) then (if 0 ≤ x5 then (if 0 ≤ x1 then (if x1 < ((rd_L4 x0 x5).length : Int) then (if (rd (rd_L4 x0 x5) x1) = 2 then (some (-1)) else (if 0 < (x0.length : Int) then (if x1 < ((rd_L4 x0 0).length : Int) then (if (rd (rd_L4 x0 x5) x1) = (rd (rd_L4 x0 0) x1) then (spiritlevelref30_constant.l0 k x0 x1 (wrap64 (x5 + 1))) else (some (-1))) else (none)) else (none))) else (none)) else (none)) else (none)) else (if 0 < (x0.length : Int) then (if 0 ≤ x1 then (if x1 < ((rd_L4 x0 0).length : Int) then (some (wrap64 (rd (rd_L4 x0 0) x1))) else (none)) else (none)) else (none))
def spiritlevelref30_constant.f (k : Nat) (l0 : List (List Int)) (a1 : Int) : Option (Int) := spiritlevelref30_constant.l0 k l0 a1 0
theorem spiritlevelref30_constant.mono_l : ∀ k, (∀ y0 y1 y2, LeO (spiritlevelref30_constant.l0 k y0 y1 y2) (spiritlevelref30_constant.l0 (k + 1) y0 y1 y2))
 | 0 => fun _ _ _ r h => by simp [spiritlevelref30_constant.l0] at h
 | k + 1 => by
  have ih0 := spiritlevelref30_constant.mono_l k
  ·intro y0 y1 y2
   unfold spiritlevelref30_constant.l0
   repeat' first
   | (with_reducible exact ih0 _ _ _)
   | (with_reducible exact LeO.refl _)
   | (with_reducible exact LeO.none _)
   | (with_reducible refine LeO.ite ?_ ?_)
   | (with_reducible refine LeO.bind ?_ (fun _ => ?_))
   | exact ih0 _ _ _
   | exact LeO.none _
   | refine LeO.ite ?_ ?_
   | refine LeO.bind ?_ (fun _ => ?_)
theorem spiritlevelref30_constant.mono : ∀ a0 a1 k, LeO (spiritlevelref30_constant.f k a0 a1) (spiritlevelref30_constant.f (k + 1) a0 a1) := by
 intro a0 a1 k
 have ih0 := spiritlevelref30_constant.mono_l k
 unfold spiritlevelref30_constant.f
 repeat' first
   | (with_reducible exact ih0 _ _ _)
   | (with_reducible exact LeO.refl _)
   | (with_reducible exact LeO.none _)
   | (with_reducible refine LeO.ite ?_ ?_)
   | (with_reducible refine LeO.bind ?_ (fun _ => ?_))
   | exact ih0 _ _ _
   | exact LeO.none _
   | refine LeO.ite ?_ ?_
   | refine LeO.bind ?_ (fun _ => ?_)
set_option maxHeartbeats 8000000 in
set_option maxRecDepth 100000 in
theorem spiritlevelref30_constant.calls (k : Nat) (A0 : Option Addr) (c0 : Nat) (l0 : List (List Int)) (a1 : Int) (r : Int) (w : World) (hr0 : Kd.C (Kd.slice 5 (Kd.int .u8)) w A0 l0.length l0) (hc0 : l0.length ≤ c0) (h : spiritlevelref30_constant.f k l0 a1 = some r) :
  Calls Try.prog 97 #[.slice A0 l0.length c0, .int .i64 a1] w fun e w' => e = .returned (.int .i64 r) ∧ Drawn0 w w' := by
 have HR0 := M_ hr0
 have HC0 := M_ hc0
 clear hr0 hc0
 have H : (spiritlevelref30_constant.l0 k l0 a1 0) = some r := h
 clear h
 have H' := M_ H
 clear H
 go_enter Try.func97, Try.ntmps97
 go_wp2
 repeat (go_quiet (fail); try go_wp2)
 go_loopg [5] k (fun kq v5 w' => ∃ (x5_1 : Int), v5 = .int .i64 x5_1 ∧ Aside0 (spiritlevelref30_constant.l0 kq l0 a1 x5_1 = some r) ∧ Aside0 (kq ≤ k) ∧ Drawn0 w w')
 case atStart => exact ⟨(0), (by first | rfl | (simp; done) | (simp [*]; done)), H', ⟨Nat.le_refl _⟩, by repeat (first | exact Drawn0.refl _ | apply Drawn0.step)⟩
 case round =>
  clear H'
  try clear p2
  obtain ⟨x5_1, rfl, HA, HK1, ⟨m1, rfl⟩⟩ := hrel
  cases gk with
  | zero => exact absurd HA.out (by simp [spiritlevelref30_constant.l0])
  | succ k1 =>
   have H := HA.out
   clear HA
   simp only [spiritlevelref30_constant.l0] at H
   by_cases c3 : x5_1 < (l0.length : Int)
   ·rw [if_pos c3] at H
    have c3b0 : decide (x5_1 < (l0.length : Int)) = true := decide_eq_true c3
    clear c3
    by_cases c4 : 0 ≤ x5_1
    ·rw [if_pos c4] at H
     have c4b0 : decide (0 ≤ x5_1) = true := decide_eq_true c4
     clear c4
     by_cases c5 : 0 ≤ a1
     ·rw [if_pos c5] at H
      have c5b0 : decide (0 ≤ a1) = true := decide_eq_true c5
      clear c5
      by_cases c6 : a1 < ((rd_L4 l0 x5_1).length : Int)
      ·rw [if_pos c6] at H
       have c6b0 : decide (a1 < ((rd_L4 l0 x5_1).length : Int)) = true := decide_eq_true c6
       clear c6
       by_cases c7 : (rd (rd_L4 l0 x5_1) a1) = 2
       ·rw [if_pos c7] at H
        have c7b0 : ((rd (rd_L4 l0 x5_1) a1) == 2) = true := beq_iff_eq.mpr c7
        have c7b1 : ((rd (rd_L4 l0 x5_1) a1) != 2) = false := bne_eq_false_iff_eq.mpr c7
        clear c7
        obtain rfl := Option.some.inj H
        have p261 : 0 ≤ (x5_1 : Int) := of_decide_eq_true (by first | (with_reducible assumption) | assumption)
        have q261 : x5_1 < (l0.length : Int) := of_decide_eq_true (by first | (with_reducible assumption) | assumption)
        obtain ⟨ad261, A261_0, c261_0, e261, hx261_0, hl261_0, hi261_0⟩ := at_L4 HR0.out x5_1 p261 q261
        cases e261
        have HR261_0 := M_ hi261_0
        have HC261_0 := M_ hl261_0
        clear hi261_0 hl261_0
        replace p261 := eq_true p261
        replace q261 := eq_true q261
        have p262 : 0 ≤ (a1 : Int) := of_decide_eq_true (by first | (with_reducible assumption) | assumption)
        have q262 : a1 < ((rd_L4 l0 x5_1).length : Int) := of_decide_eq_true (by first | (with_reducible assumption) | assumption)
        obtain ⟨ad262, e262, hx262_0⟩ := Kd.at_int HR261_0.out a1 p262 q262
        cases e262
        replace p262 := eq_true p262
        replace q262 := eq_true q262
        go_wp2
        repeat (go_quiet (fail); try go_wp2)
        go_ret
        exact ⟨by first | rfl | (simp; done) | (simp [*]; done), by repeat (first | exact Drawn0.refl _ | apply Drawn0.step)⟩
       ·rw [if_neg c7] at H
        have c7b0 : ((rd (rd_L4 l0 x5_1) a1) == 2) = false := beq_eq_false_iff_ne.mpr c7
        have c7b1 : ((rd (rd_L4 l0 x5_1) a1) != 2) = true := bne_iff_ne.mpr c7
        by_cases c8 : 0 < (l0.length : Int)
        ·rw [if_pos c8] at H
         have c8b0 : decide (0 < (l0.length : Int)) = true := decide_eq_true c8
         have c8b1 : decide (0 < l0.length) = true := decide_eq_true (by omega)
         clear c8
         by_cases c9 : a1 < ((rd_L4 l0 0).length : Int)
         ·rw [if_pos c9] at H
          have c9b0 : decide (a1 < ((rd_L4 l0 0).length : Int)) = true := decide_eq_true c9
          clear c9
          by_cases c10 : (rd (rd_L4 l0 x5_1) a1) = (rd (rd_L4 l0 0) a1)
          ·rw [if_pos c10] at H
           have c10b0 : ((rd (rd_L4 l0 x5_1) a1) == (rd (rd_L4 l0 0) a1)) = true := beq_iff_eq.mpr c10
           have c10b1 : ((rd (rd_L4 l0 x5_1) a1) != (rd (rd_L4 l0 0) a1)) = false := bne_eq_false_iff_eq.mpr c10
           clear c10
           have H' := M_ H
           clear H
           have p261 : 0 ≤ (x5_1 : Int) := of_decide_eq_true (by first | (with_reducible assumption) | assumption)
           have q261 : x5_1 < (l0.length : Int) := of_decide_eq_true (by first | (with_reducible assumption) | assumption)
           obtain ⟨ad261, A261_0, c261_0, e261, hx261_0, hl261_0, hi261_0⟩ := at_L4 HR0.out x5_1 p261 q261
           cases e261
           have HR261_0 := M_ hi261_0
           have HC261_0 := M_ hl261_0
           clear hi261_0 hl261_0
           replace p261 := eq_true p261
           replace q261 := eq_true q261
           have p262 : 0 ≤ (a1 : Int) := of_decide_eq_true (by first | (with_reducible assumption) | assumption)
           have q262 : a1 < ((rd_L4 l0 x5_1).length : Int) := of_decide_eq_true (by first | (with_reducible assumption) | assumption)
           obtain ⟨ad262, e262, hx262_0⟩ := Kd.at_int HR261_0.out a1 p262 q262
           cases e262
           replace p262 := eq_true p262
           replace q262 := eq_true q262
           have p263 : 0 ≤ (x5_1 : Int) := of_decide_eq_true (by first | (with_reducible assumption) | assumption)
           have q263 : x5_1 < (l0.length : Int) := of_decide_eq_true (by first | (with_reducible assumption) | assumption)
           obtain ⟨ad263, A263_0, c263_0, e263, hx263_0, hl263_0, hi263_0⟩ := at_L4 HR0.out x5_1 p263 q263
           obtain rfl : ad261 = ad263 := (by injection e263)
           have HR263_0 := M_ hi263_0
           have HC263_0 := M_ hl263_0
           clear hi263_0 hl263_0
           replace p263 := eq_true p263
           replace q263 := eq_true q263
           have ea_ := Option.some.inj (hx261_0.symm.trans hx263_0)
           injection ea_ with ea_ en_ ec_
           subst ea_
           subst ec_
           clear en_
           have p264 : 0 ≤ (a1 : Int) := of_decide_eq_true (by first | (with_reducible assumption) | assumption)
           have q264 : a1 < ((rd_L4 l0 x5_1).length : Int) := of_decide_eq_true (by first | (with_reducible assumption) | assumption)
           obtain ⟨ad264, e264, hx264_0⟩ := Kd.at_int HR263_0.out a1 p264 q264
           cases e264
           replace p264 := eq_true p264
           replace q264 := eq_true q264
           have p265 : 0 ≤ (0 : Int) := (by omega)
           have q265 : 0 < (l0.length : Int) := of_decide_eq_true (by first | (with_reducible assumption) | assumption)
           obtain ⟨ad265, A265_0, c265_0, e265, hx265_0, hl265_0, hi265_0⟩ := at_L4 HR0.out 0 p265 q265
           obtain rfl : ad261 = ad265 := (by injection e265)
           have qi265 : (0 < l0.length) = True := eq_true (by omega)
           (try rw [show ((0 : Int)).toNat = 0 from rfl] at hx265_0)
           (try rw [Addr.add_zero'] at hx265_0)
           have HR265_0 := M_ hi265_0
           have HC265_0 := M_ hl265_0
           clear hi265_0 hl265_0
           replace p265 := eq_true p265
           replace q265 := eq_true q265
           have p266 : 0 ≤ (a1 : Int) := of_decide_eq_true (by first | (with_reducible assumption) | assumption)
           have q266 : a1 < ((rd_L4 l0 0).length : Int) := of_decide_eq_true (by first | (with_reducible assumption) | assumption)
           obtain ⟨ad266, e266, hx266_0⟩ := Kd.at_int HR265_0.out a1 p266 q266
           cases e266
           replace p266 := eq_true p266
           replace q266 := eq_true q266
           go_wp2
           repeat (go_quiet (fail); try go_wp2)
           go_roundg k1
           case measure => have := HK1.out; omega
           case rel => exact ⟨(wrap64 (x5_1 + 1)), (by first | rfl | (simp; done) | (simp [*]; done)), H', ⟨by have := HK1.out; omega⟩, by repeat (first | exact Drawn0.refl _ | apply Drawn0.step)⟩
          ·rw [if_neg c10] at H
           have c10b0 : ((rd (rd_L4 l0 x5_1) a1) == (rd (rd_L4 l0 0) a1)) = false := beq_eq_false_iff_ne.mpr c10
           have c10b1 : ((rd (rd_L4 l0 x5_1) a1) != (rd (rd_L4 l0 0) a1)) = true := bne_iff_ne.mpr c10
           obtain rfl := Option.some.inj H
           have p261 : 0 ≤ (x5_1 : Int) := of_decide_eq_true (by first | (with_reducible assumption) | assumption)
           have q261 : x5_1 < (l0.length : Int) := of_decide_eq_true (by first | (with_reducible assumption) | assumption)
           obtain ⟨ad261, A261_0, c261_0, e261, hx261_0, hl261_0, hi261_0⟩ := at_L4 HR0.out x5_1 p261 q261
           cases e261
           have HR261_0 := M_ hi261_0
           have HC261_0 := M_ hl261_0
           clear hi261_0 hl261_0
           replace p261 := eq_true p261
           replace q261 := eq_true q261
           have p262 : 0 ≤ (a1 : Int) := of_decide_eq_true (by first | (with_reducible assumption) | assumption)
           have q262 : a1 < ((rd_L4 l0 x5_1).length : Int) := of_decide_eq_true (by first | (with_reducible assumption) | assumption)
           obtain ⟨ad262, e262, hx262_0⟩ := Kd.at_int HR261_0.out a1 p262 q262
           cases e262
           replace p262 := eq_true p262
           replace q262 := eq_true q262
           have p263 : 0 ≤ (x5_1 : Int) := of_decide_eq_true (by first | (with_reducible assumption) | assumption)
           have q263 : x5_1 < (l0.length : Int) := of_decide_eq_true (by first | (with_reducible assumption) | assumption)
           obtain ⟨ad263, A263_0, c263_0, e263, hx263_0, hl263_0, hi263_0⟩ := at_L4 HR0.out x5_1 p263 q263
           obtain rfl : ad261 = ad263 := (by injection e263)
           have HR263_0 := M_ hi263_0
           have HC263_0 := M_ hl263_0
           clear hi263_0 hl263_0
           replace p263 := eq_true p263
           replace q263 := eq_true q263
           have ea_ := Option.some.inj (hx261_0.symm.trans hx263_0)
           injection ea_ with ea_ en_ ec_
           subst ea_
           subst ec_
           clear en_
           have p264 : 0 ≤ (a1 : Int) := of_decide_eq_true (by first | (with_reducible assumption) | assumption)
           have q264 : a1 < ((rd_L4 l0 x5_1).length : Int) := of_decide_eq_true (by first | (with_reducible assumption) | assumption)
           obtain ⟨ad264, e264, hx264_0⟩ := Kd.at_int HR263_0.out a1 p264 q264
           cases e264
           replace p264 := eq_true p264
           replace q264 := eq_true q264
           have p265 : 0 ≤ (0 : Int) := (by omega)
           have q265 : 0 < (l0.length : Int) := of_decide_eq_true (by first | (with_reducible assumption) | assumption)
           obtain ⟨ad265, A265_0, c265_0, e265, hx265_0, hl265_0, hi265_0⟩ := at_L4 HR0.out 0 p265 q265
           obtain rfl : ad261 = ad265 := (by injection e265)
           have qi265 : (0 < l0.length) = True := eq_true (by omega)
           (try rw [show ((0 : Int)).toNat = 0 from rfl] at hx265_0)
           (try rw [Addr.add_zero'] at hx265_0)
           have HR265_0 := M_ hi265_0
           have HC265_0 := M_ hl265_0
           clear hi265_0 hl265_0
           replace p265 := eq_true p265
           replace q265 := eq_true q265
           have p266 : 0 ≤ (a1 : Int) := of_decide_eq_true (by first | (with_reducible assumption) | assumption)
           have q266 : a1 < ((rd_L4 l0 0).length : Int) := of_decide_eq_true (by first | (with_reducible assumption) | assumption)
           obtain ⟨ad266, e266, hx266_0⟩ := Kd.at_int HR265_0.out a1 p266 q266
           cases e266
           replace p266 := eq_true p266
           replace q266 := eq_true q266
           go_wp2
           repeat (go_quiet (fail); try go_wp2)
           go_ret
           exact ⟨by first | rfl | (simp; done) | (simp [*]; done), by repeat (first | exact Drawn0.refl _ | apply Drawn0.step)⟩
         ·rw [if_neg c9] at H
          exact absurd H (by simp)
        ·rw [if_neg c8] at H
         exact absurd H (by simp)
      ·rw [if_neg c6] at H
       exact absurd H (by simp)
     ·rw [if_neg c5] at H
      exact absurd H (by simp)
    ·rw [if_neg c4] at H
     exact absurd H (by simp)
   ·rw [if_neg c3] at H
    have c3b0 : decide (x5_1 < (l0.length : Int)) = false := decide_eq_false c3
    clear c3
    by_cases c11 : 0 < (l0.length : Int)
    ·rw [if_pos c11] at H
     have c11b0 : decide (0 < (l0.length : Int)) = true := decide_eq_true c11
     have c11b1 : decide (0 < l0.length) = true := decide_eq_true (by omega)
     clear c11
     by_cases c12 : 0 ≤ a1
     ·rw [if_pos c12] at H
      have c12b0 : decide (0 ≤ a1) = true := decide_eq_true c12
      clear c12
      by_cases c13 : a1 < ((rd_L4 l0 0).length : Int)
      ·rw [if_pos c13] at H
       have c13b0 : decide (a1 < ((rd_L4 l0 0).length : Int)) = true := decide_eq_true c13
       clear c13
       obtain rfl := Option.some.inj H
       have p267 : 0 ≤ (0 : Int) := (by omega)
       have q267 : 0 < (l0.length : Int) := of_decide_eq_true (by first | (with_reducible assumption) | assumption)
       obtain ⟨ad267, A267_0, c267_0, e267, hx267_0, hl267_0, hi267_0⟩ := at_L4 HR0.out 0 p267 q267
       cases e267
       have qi267 : (0 < l0.length) = True := eq_true (by omega)
       (try rw [show ((0 : Int)).toNat = 0 from rfl] at hx267_0)
       (try rw [Addr.add_zero'] at hx267_0)
       have HR267_0 := M_ hi267_0
       have HC267_0 := M_ hl267_0
       clear hi267_0 hl267_0
       replace p267 := eq_true p267
       replace q267 := eq_true q267
       have p268 : 0 ≤ (a1 : Int) := of_decide_eq_true (by first | (with_reducible assumption) | assumption)
       have q268 : a1 < ((rd_L4 l0 0).length : Int) := of_decide_eq_true (by first | (with_reducible assumption) | assumption)
       obtain ⟨ad268, e268, hx268_0⟩ := Kd.at_int HR267_0.out a1 p268 q268
       cases e268
       replace p268 := eq_true p268
       replace q268 := eq_true q268
       go_wp2
       repeat (go_quiet (fail); try go_wp2)
       go_ret
       exact ⟨by first | rfl | (simp; done) | (simp [*]; done), by repeat (first | exact Drawn0.refl _ | apply Drawn0.step)⟩
      ·rw [if_neg c13] at H
       exact absurd H (by simp)
     ·rw [if_neg c12] at H
      exact absurd H (by simp)
    ·rw [if_neg c11] at H
     exact absurd H (by simp)

/-! ### spiritlevelref30_tied: function 98 -/
def spiritlevelref30_tied.l0 : Nat → List (List Int) → Int → Int → Int → Int → Option (Int)
 | 0, _, _, _, _, _ => none
 | k + 1, x0, x1, x2, x7, x8 => if x8 < (x0.length : Int) then (if 0 ≤ x8 then (if 0 ≤ x1 then (if x1 < ((rd_L4 x0 x8).length : Int) then (if (rd (rd_L4 x0 x8) x1) = 2 then (some (-1)) else (if 0 ≤ x2 then (if x2 < ((rd_L4 x0 x8).length : Int) then (if (rd (rd_L4 x0 x8) x2) = 2 then (some (-1)) else (if (wrap64 (Go.bits .xor .u8 (rd (rd_L4 x0 x8) x1) (rd (rd_L4 x0 x8) x2))) = x7 then (spiritlevelref30_tied.l0 k x0 x1 x2 x7 (wrap64 (x8 + 1))) else (some (-1)))) else (none)) else (none))) else (none)) else (none)) else (none)) else (some x7)
def spiritlevelref30_tied.f (k : Nat) (l0 : List (List Int)) (a1 : Int) (a2 : Int) : Option (Int) := if 0 < (l0.length : Int) then (if 0 ≤ a1 then (if a1 < ((rd_L4 l0 0).length : Int) then (if 0 ≤ a2 then (if a2 < ((rd_L4 l0 0).length : Int) then (spiritlevelref30_tied.l0 k l0 a1 a2 (wrap64 (Go.bits .xor .u8 (rd (rd_L4 l0 0) a1) (rd (rd_L4 l0 0) a2))) 0) else (none)) else (none)) else (none)) else (none)) else (none)
theorem spiritlevelref30_tied.mono_l : ∀ k, (∀ y0 y1 y2 y3 y4, LeO (spiritlevelref30_tied.l0 k y0 y1 y2 y3 y4) (spiritlevelref30_tied.l0 (k + 1) y0 y1 y2 y3 y4))
 | 0 => fun _ _ _ _ _ r h => by simp [spiritlevelref30_tied.l0] at h
 | k + 1 => by
  have ih0 := spiritlevelref30_tied.mono_l k
  ·intro y0 y1 y2 y3 y4
   unfold spiritlevelref30_tied.l0
   repeat' first
   | (with_reducible exact ih0 _ _ _ _ _)
   | (with_reducible exact LeO.refl _)
   | (with_reducible exact LeO.none _)
   | (with_reducible refine LeO.ite ?_ ?_)
   | (with_reducible refine LeO.bind ?_ (fun _ => ?_))
   | exact ih0 _ _ _ _ _
   | exact LeO.none _
   | refine LeO.ite ?_ ?_
   | refine LeO.bind ?_ (fun _ => ?_)
theorem spiritlevelref30_tied.mono : ∀ a0 a1 a2 k, LeO (spiritlevelref30_tied.f k a0 a1 a2) (spiritlevelref30_tied.f (k + 1) a0 a1 a2) := by
 intro a0 a1 a2 k
 have ih0 := spiritlevelref30_tied.mono_l k
 unfold spiritlevelref30_tied.f
 repeat' first
   | (with_reducible exact ih0 _ _ _ _ _)
   | (with_reducible exact LeO.refl _)
   | (with_reducible exact LeO.none _)
   | (with_reducible refine LeO.ite ?_ ?_)
   | (with_reducible refine LeO.bind ?_ (fun _ => ?_))
   | exact ih0 _ _ _ _ _
   | exact LeO.none _
   | refine LeO.ite ?_ ?_
   | refine LeO.bind ?_ (fun _ => ?_)
set_option maxHeartbeats 8000000 in
set_option maxRecDepth 100000 in
theorem spiritlevelref30_tied.calls (k : Nat) (A0 : Option Addr) (c0 : Nat) (l0 : List (List Int)) (a1 : Int) (a2 : Int) (r : Int) (w : World) (hr0 : Kd.C (Kd.slice 5 (Kd.int .u8)) w A0 l0.length l0) (hc0 : l0.length ≤ c0) (h : spiritlevelref30_tied.f k l0 a1 a2 = some r) :
  Calls Try.prog 98 #[.slice A0 l0.length c0, .int .i64 a1, .int .i64 a2] w fun e w' => e = .returned (.int .i64 r) ∧ Drawn0 w w' := by
 have HR0 := M_ hr0
 have HC0 := M_ hc0
 clear hr0 hc0
 have H : (if 0 < (l0.length : Int) then (if 0 ≤ a1 then (if a1 < ((rd_L4 l0 0).length : Int) then (if 0 ≤ a2 then (if a2 < ((rd_L4 l0 0).length : Int) then (spiritlevelref30_tied.l0 k l0 a1 a2 (wrap64 (Go.bits .xor .u8 (rd (rd_L4 l0 0) a1) (rd (rd_L4 l0 0) a2))) 0) else (none)) else (none)) else (none)) else (none)) else (none)) = some r := h
 clear h
 by_cases c4 : 0 < (l0.length : Int)
 ·rw [if_pos c4] at H
  have c4b0 : decide (0 < (l0.length : Int)) = true := decide_eq_true c4
  have c4b1 : decide (0 < l0.length) = true := decide_eq_true (by omega)
  clear c4
  by_cases c5 : 0 ≤ a1
  ·rw [if_pos c5] at H
   have c5b0 : decide (0 ≤ a1) = true := decide_eq_true c5
   clear c5
   by_cases c6 : a1 < ((rd_L4 l0 0).length : Int)
   ·rw [if_pos c6] at H
    have c6b0 : decide (a1 < ((rd_L4 l0 0).length : Int)) = true := decide_eq_true c6
    clear c6
    by_cases c7 : 0 ≤ a2
    ·rw [if_pos c7] at H
     have c7b0 : decide (0 ≤ a2) = true := decide_eq_true c7
     clear c7
     by_cases c8 : a2 < ((rd_L4 l0 0).length : Int)
     ·rw [if_pos c8] at H
      have c8b0 : decide (a2 < ((rd_L4 l0 0).length : Int)) = true := decide_eq_true c8
      clear c8
      have H' := M_ H
      clear H
      have p269 : 0 ≤ (0 : Int) := (by omega)
      have q269 : 0 < (l0.length : Int) := of_decide_eq_true (by first | (with_reducible assumption) | assumption)
      obtain ⟨ad269, A269_0, c269_0, e269, hx269_0, hl269_0, hi269_0⟩ := at_L4 HR0.out 0 p269 q269
      cases e269
      have qi269 : (0 < l0.length) = True := eq_true (by omega)
      (try rw [show ((0 : Int)).toNat = 0 from rfl] at hx269_0)
      (try rw [Addr.add_zero'] at hx269_0)
      have HR269_0 := M_ hi269_0
      have HC269_0 := M_ hl269_0
      clear hi269_0 hl269_0
      replace p269 := eq_true p269
      replace q269 := eq_true q269
      have p270 : 0 ≤ (a1 : Int) := of_decide_eq_true (by first | (with_reducible assumption) | assumption)
      have q270 : a1 < ((rd_L4 l0 0).length : Int) := of_decide_eq_true (by first | (with_reducible assumption) | assumption)
      obtain ⟨ad270, e270, hx270_0⟩ := Kd.at_int HR269_0.out a1 p270 q270
      cases e270
      replace p270 := eq_true p270
      replace q270 := eq_true q270
      have p271 : 0 ≤ (0 : Int) := (by omega)
      have q271 : 0 < (l0.length : Int) := of_decide_eq_true (by first | (with_reducible assumption) | assumption)
      obtain ⟨ad271, A271_0, c271_0, e271, hx271_0, hl271_0, hi271_0⟩ := at_L4 HR0.out 0 p271 q271
      obtain rfl : ad269 = ad271 := (by injection e271)
      have qi271 : (0 < l0.length) = True := eq_true (by omega)
      (try rw [show ((0 : Int)).toNat = 0 from rfl] at hx271_0)
      (try rw [Addr.add_zero'] at hx271_0)
      have HR271_0 := M_ hi271_0
      have HC271_0 := M_ hl271_0
      clear hi271_0 hl271_0
      replace p271 := eq_true p271
      replace q271 := eq_true q271
      have ea_ := Option.some.inj (hx269_0.symm.trans hx271_0)
      injection ea_ with ea_ en_ ec_
      subst ea_
      subst ec_
      clear en_
      have p272 : 0 ≤ (a2 : Int) := of_decide_eq_true (by first | (with_reducible assumption) | assumption)
      have q272 : a2 < ((rd_L4 l0 0).length : Int) := of_decide_eq_true (by first | (with_reducible assumption) | assumption)
      obtain ⟨ad272, e272, hx272_0⟩ := Kd.at_int HR271_0.out a2 p272 q272
      cases e272
      replace p272 := eq_true p272
      replace q272 := eq_true q272
      go_enter Try.func98, Try.ntmps98
      go_wp2
      repeat (go_quiet (fail); try go_wp2)
      go_loopg [8] k (fun kq v8 w' => ∃ (x8_1 : Int), v8 = .int .i64 x8_1 ∧ Aside0 (spiritlevelref30_tied.l0 kq l0 a1 a2 (wrap64 (Go.bits .xor .u8 (rd (rd_L4 l0 0) a1) (rd (rd_L4 l0 0) a2))) x8_1 = some r) ∧ Aside0 (kq ≤ k) ∧ Drawn0 w w')
      case atStart => exact ⟨(0), (by first | rfl | (simp; done) | (simp [*]; done)), H', ⟨Nat.le_refl _⟩, by repeat (first | exact Drawn0.refl _ | apply Drawn0.step)⟩
      case round =>
       clear H'
       try clear c2
       try clear p2
       try clear q2
       try clear hx2
       try clear qi2
       try clear c4
       try clear c4b0
       try clear c4b1
       try clear c5
       try clear c5b0
       try clear c6
       try clear c6b0
       try clear p6
       try clear c7
       try clear c7b0
       try clear c8
       try clear c8b0
       try clear hx269_0
       try clear hx270_0
       try clear hx271_0
       try clear hx272_0
       try clear p269
       try clear p270
       try clear p271
       try clear p272
       try clear q269
       try clear q270
       try clear q271
       try clear q272
       obtain ⟨x8_1, rfl, HA, HK1, ⟨m1, rfl⟩⟩ := hrel
       cases gk with
       | zero => exact absurd HA.out (by simp [spiritlevelref30_tied.l0])
       | succ k1 =>
        have H := HA.out
        clear HA
        simp only [spiritlevelref30_tied.l0] at H
        by_cases c9 : x8_1 < (l0.length : Int)
        ·rw [if_pos c9] at H
         have c9b0 : decide (x8_1 < (l0.length : Int)) = true := decide_eq_true c9
         clear c9
         by_cases c10 : 0 ≤ x8_1
         ·rw [if_pos c10] at H
          have c10b0 : decide (0 ≤ x8_1) = true := decide_eq_true c10
          clear c10
          by_cases c11 : 0 ≤ a1
          ·rw [if_pos c11] at H
           have c11b0 : decide (0 ≤ a1) = true := decide_eq_true c11
           clear c11
           by_cases c12 : a1 < ((rd_L4 l0 x8_1).length : Int)
           ·rw [if_pos c12] at H
            have c12b0 : decide (a1 < ((rd_L4 l0 x8_1).length : Int)) = true := decide_eq_true c12
            clear c12
            by_cases c13 : (rd (rd_L4 l0 x8_1) a1) = 2
            ·rw [if_pos c13] at H
             have c13b0 : ((rd (rd_L4 l0 x8_1) a1) == 2) = true := beq_iff_eq.mpr c13
             have c13b1 : ((rd (rd_L4 l0 x8_1) a1) != 2) = false := bne_eq_false_iff_eq.mpr c13
             clear c13
             obtain rfl := Option.some.inj H
             have p273 : 0 ≤ (x8_1 : Int) := of_decide_eq_true (by first | (with_reducible assumption) | assumption)
             have q273 : x8_1 < (l0.length : Int) := of_decide_eq_true (by first | (with_reducible assumption) | assumption)
             obtain ⟨ad273, A273_0, c273_0, e273, hx273_0, hl273_0, hi273_0⟩ := at_L4 HR0.out x8_1 p273 q273
             obtain rfl : ad269 = ad273 := (by injection e273)
             have HR273_0 := M_ hi273_0
             have HC273_0 := M_ hl273_0
             clear hi273_0 hl273_0
             replace p273 := eq_true p273
             replace q273 := eq_true q273
             have p274 : 0 ≤ (a1 : Int) := of_decide_eq_true (by first | (with_reducible assumption) | assumption)
             have q274 : a1 < ((rd_L4 l0 x8_1).length : Int) := of_decide_eq_true (by first | (with_reducible assumption) | assumption)
             obtain ⟨ad274, e274, hx274_0⟩ := Kd.at_int HR273_0.out a1 p274 q274
             cases e274
             replace p274 := eq_true p274
             replace q274 := eq_true q274
             go_wp2
             repeat (go_quiet (fail); try go_wp2)
             go_ret
             exact ⟨by first | rfl | (simp; done) | (simp [*]; done), by repeat (first | exact Drawn0.refl _ | apply Drawn0.step)⟩
            ·rw [if_neg c13] at H
             have c13b0 : ((rd (rd_L4 l0 x8_1) a1) == 2) = false := beq_eq_false_iff_ne.mpr c13
             have c13b1 : ((rd (rd_L4 l0 x8_1) a1) != 2) = true := bne_iff_ne.mpr c13
             by_cases c14 : 0 ≤ a2
             ·rw [if_pos c14] at H
              have c14b0 : decide (0 ≤ a2) = true := decide_eq_true c14
              clear c14
              by_cases c15 : a2 < ((rd_L4 l0 x8_1).length : Int)
              ·rw [if_pos c15] at H
               have c15b0 : decide (a2 < ((rd_L4 l0 x8_1).length : Int)) = true := decide_eq_true c15
               clear c15
               by_cases c16 : (rd (rd_L4 l0 x8_1) a2) = 2
               ·rw [if_pos c16] at H
                have c16b0 : ((rd (rd_L4 l0 x8_1) a2) == 2) = true := beq_iff_eq.mpr c16
                have c16b1 : ((rd (rd_L4 l0 x8_1) a2) != 2) = false := bne_eq_false_iff_eq.mpr c16
                clear c16
                obtain rfl := Option.some.inj H
                have p273 : 0 ≤ (x8_1 : Int) := of_decide_eq_true (by first | (with_reducible assumption) | assumption)
                have q273 : x8_1 < (l0.length : Int) := of_decide_eq_true (by first | (with_reducible assumption) | assumption)
                obtain ⟨ad273, A273_0, c273_0, e273, hx273_0, hl273_0, hi273_0⟩ := at_L4 HR0.out x8_1 p273 q273
                obtain rfl : ad269 = ad273 := (by injection e273)
                have HR273_0 := M_ hi273_0
                have HC273_0 := M_ hl273_0
                clear hi273_0 hl273_0
                replace p273 := eq_true p273
                replace q273 := eq_true q273
                have p274 : 0 ≤ (a1 : Int) := of_decide_eq_true (by first | (with_reducible assumption) | assumption)
                have q274 : a1 < ((rd_L4 l0 x8_1).length : Int) := of_decide_eq_true (by first | (with_reducible assumption) | assumption)
                obtain ⟨ad274, e274, hx274_0⟩ := Kd.at_int HR273_0.out a1 p274 q274
                cases e274
                replace p274 := eq_true p274
                replace q274 := eq_true q274
                have p275 : 0 ≤ (x8_1 : Int) := of_decide_eq_true (by first | (with_reducible assumption) | assumption)
                have q275 : x8_1 < (l0.length : Int) := of_decide_eq_true (by first | (with_reducible assumption) | assumption)
                obtain ⟨ad275, A275_0, c275_0, e275, hx275_0, hl275_0, hi275_0⟩ := at_L4 HR0.out x8_1 p275 q275
                obtain rfl : ad269 = ad275 := (by injection e275)
                have HR275_0 := M_ hi275_0
                have HC275_0 := M_ hl275_0
                clear hi275_0 hl275_0
                replace p275 := eq_true p275
                replace q275 := eq_true q275
                have ea_ := Option.some.inj (hx273_0.symm.trans hx275_0)
                injection ea_ with ea_ en_ ec_
                subst ea_
                subst ec_
                clear en_
                have p276 : 0 ≤ (a2 : Int) := of_decide_eq_true (by first | (with_reducible assumption) | assumption)
                have q276 : a2 < ((rd_L4 l0 x8_1).length : Int) := of_decide_eq_true (by first | (with_reducible assumption) | assumption)
                obtain ⟨ad276, e276, hx276_0⟩ := Kd.at_int HR275_0.out a2 p276 q276
                cases e276
                replace p276 := eq_true p276
                replace q276 := eq_true q276
                go_wp2
                repeat (go_quiet (fail); try go_wp2)
                go_ret
                exact ⟨by first | rfl | (simp; done) | (simp [*]; done), by repeat (first | exact Drawn0.refl _ | apply Drawn0.step)⟩
               ·rw [if_neg c16] at H
                have c16b0 : ((rd (rd_L4 l0 x8_1) a2) == 2) = false := beq_eq_false_iff_ne.mpr c16
                have c16b1 : ((rd (rd_L4 l0 x8_1) a2) != 2) = true := bne_iff_ne.mpr c16
                by_cases c17 : (wrap64 (Go.bits .xor .u8 (rd (rd_L4 l0 x8_1) a1) (rd (rd_L4 l0 x8_1) a2))) = (wrap64 (Go.bits .xor .u8 (rd (rd_L4 l0 0) a1) (rd (rd_L4 l0 0) a2)))
                ·rw [if_pos c17] at H
                 have c17b0 : ((wrap64 (Go.bits .xor .u8 (rd (rd_L4 l0 x8_1) a1) (rd (rd_L4 l0 x8_1) a2))) == (wrap64 (Go.bits .xor .u8 (rd (rd_L4 l0 0) a1) (rd (rd_L4 l0 0) a2)))) = true := beq_iff_eq.mpr c17
                 have c17b1 : ((wrap64 (Go.bits .xor .u8 (rd (rd_L4 l0 x8_1) a1) (rd (rd_L4 l0 x8_1) a2))) != (wrap64 (Go.bits .xor .u8 (rd (rd_L4 l0 0) a1) (rd (rd_L4 l0 0) a2)))) = false := bne_eq_false_iff_eq.mpr c17
                 clear c17
                 have H' := M_ H
                 clear H
                 have p273 : 0 ≤ (x8_1 : Int) := of_decide_eq_true (by first | (with_reducible assumption) | assumption)
                 have q273 : x8_1 < (l0.length : Int) := of_decide_eq_true (by first | (with_reducible assumption) | assumption)
                 obtain ⟨ad273, A273_0, c273_0, e273, hx273_0, hl273_0, hi273_0⟩ := at_L4 HR0.out x8_1 p273 q273
                 obtain rfl : ad269 = ad273 := (by injection e273)
                 have HR273_0 := M_ hi273_0
                 have HC273_0 := M_ hl273_0
                 clear hi273_0 hl273_0
                 replace p273 := eq_true p273
                 replace q273 := eq_true q273
                 have p274 : 0 ≤ (a1 : Int) := of_decide_eq_true (by first | (with_reducible assumption) | assumption)
                 have q274 : a1 < ((rd_L4 l0 x8_1).length : Int) := of_decide_eq_true (by first | (with_reducible assumption) | assumption)
                 obtain ⟨ad274, e274, hx274_0⟩ := Kd.at_int HR273_0.out a1 p274 q274
                 cases e274
                 replace p274 := eq_true p274
                 replace q274 := eq_true q274
                 have p275 : 0 ≤ (x8_1 : Int) := of_decide_eq_true (by first | (with_reducible assumption) | assumption)
                 have q275 : x8_1 < (l0.length : Int) := of_decide_eq_true (by first | (with_reducible assumption) | assumption)
                 obtain ⟨ad275, A275_0, c275_0, e275, hx275_0, hl275_0, hi275_0⟩ := at_L4 HR0.out x8_1 p275 q275
                 obtain rfl : ad269 = ad275 := (by injection e275)
                 have HR275_0 := M_ hi275_0
                 have HC275_0 := M_ hl275_0
                 clear hi275_0 hl275_0
                 replace p275 := eq_true p275
                 replace q275 := eq_true q275
                 have ea_ := Option.some.inj (hx273_0.symm.trans hx275_0)
                 injection ea_ with ea_ en_ ec_
                 subst ea_
                 subst ec_
                 clear en_
                 have p276 : 0 ≤ (a2 : Int) := of_decide_eq_true (by first | (with_reducible assumption) | assumption)
                 have q276 : a2 < ((rd_L4 l0 x8_1).length : Int) := of_decide_eq_true (by first | (with_reducible assumption) | assumption)
                 obtain ⟨ad276, e276, hx276_0⟩ := Kd.at_int HR275_0.out a2 p276 q276
                 cases e276
                 replace p276 := eq_true p276
                 replace q276 := eq_true q276
                 have p277 : 0 ≤ (x8_1 : Int) := of_decide_eq_true (by first | (with_reducible assumption) | assumption)
                 have q277 : x8_1 < (l0.length : Int) := of_decide_eq_true (by first | (with_reducible assumption) | assumption)
                 obtain ⟨ad277, A277_0, c277_0, e277, hx277_0, hl277_0, hi277_0⟩ := at_L4 HR0.out x8_1 p277 q277
                 obtain rfl : ad269 = ad277 := (by injection e277)
                 have HR277_0 := M_ hi277_0
                 have HC277_0 := M_ hl277_0
                 clear hi277_0 hl277_0
                 replace p277 := eq_true p277
                 replace q277 := eq_true q277
                 have ea_ := Option.some.inj (hx273_0.symm.trans hx277_0)
                 injection ea_ with ea_ en_ ec_
                 subst ea_
                 subst ec_
                 clear en_
                 have p278 : 0 ≤ (a1 : Int) := of_decide_eq_true (by first | (with_reducible assumption) | assumption)
                 have q278 : a1 < ((rd_L4 l0 x8_1).length : Int) := of_decide_eq_true (by first | (with_reducible assumption) | assumption)
                 obtain ⟨ad278, e278, hx278_0⟩ := Kd.at_int HR277_0.out a1 p278 q278
                 cases e278
                 replace p278 := eq_true p278
                 replace q278 := eq_true q278
                 have p279 : 0 ≤ (x8_1 : Int) := of_decide_eq_true (by first | (with_reducible assumption) | assumption)
                 have q279 : x8_1 < (l0.length : Int) := of_decide_eq_true (by first | (with_reducible assumption) | assumption)
                 obtain ⟨ad279, A279_0, c279_0, e279, hx279_0, hl279_0, hi279_0⟩ := at_L4 HR0.out x8_1 p279 q279
                 obtain rfl : ad269 = ad279 := (by injection e279)
                 have HR279_0 := M_ hi279_0
                 have HC279_0 := M_ hl279_0
                 clear hi279_0 hl279_0
                 replace p279 := eq_true p279
                 replace q279 := eq_true q279
                 have ea_ := Option.some.inj (hx273_0.symm.trans hx279_0)
                 injection ea_ with ea_ en_ ec_
                 subst ea_
                 subst ec_
                 clear en_
                 have p280 : 0 ≤ (a2 : Int) := of_decide_eq_true (by first | (with_reducible assumption) | assumption)
                 have q280 : a2 < ((rd_L4 l0 x8_1).length : Int) := of_decide_eq_true (by first | (with_reducible assumption) | assumption)
                 obtain ⟨ad280, e280, hx280_0⟩ := Kd.at_int HR279_0.out a2 p280 q280
                 cases e280
                 replace p280 := eq_true p280
                 replace q280 := eq_true q280
                 go_wp2
                 repeat (go_quiet (fail); try go_wp2)
                 go_roundg k1
                 case measure => have := HK1.out; omega
                 case rel => exact ⟨(wrap64 (x8_1 + 1)), (by first | rfl | (simp; done) | (simp [*]; done)), H', ⟨by have := HK1.out; omega⟩, by repeat (first | exact Drawn0.refl _ | apply Drawn0.step)⟩
                ·rw [if_neg c17] at H
                 have c17b0 : ((wrap64 (Go.bits .xor .u8 (rd (rd_L4 l0 x8_1) a1) (rd (rd_L4 l0 x8_1) a2))) == (wrap64 (Go.bits .xor .u8 (rd (rd_L4 l0 0) a1) (rd (rd_L4 l0 0) a2)))) = false := beq_eq_false_iff_ne.mpr c17
                 have c17b1 : ((wrap64 (Go.bits .xor .u8 (rd (rd_L4 l0 x8_1) a1) (rd (rd_L4 l0 x8_1) a2))) != (wrap64 (Go.bits .xor .u8 (rd (rd_L4 l0 0) a1) (rd (rd_L4 l0 0) a2)))) = true := bne_iff_ne.mpr c17
                 obtain rfl := Option.some.inj H
                 have p273 : 0 ≤ (x8_1 : Int) := of_decide_eq_true (by first | (with_reducible assumption) | assumption)
                 have q273 : x8_1 < (l0.length : Int) := of_decide_eq_true (by first | (with_reducible assumption) | assumption)
                 obtain ⟨ad273, A273_0, c273_0, e273, hx273_0, hl273_0, hi273_0⟩ := at_L4 HR0.out x8_1 p273 q273
                 obtain rfl : ad269 = ad273 := (by injection e273)
                 have HR273_0 := M_ hi273_0
                 have HC273_0 := M_ hl273_0
                 clear hi273_0 hl273_0
                 replace p273 := eq_true p273
                 replace q273 := eq_true q273
                 have p274 : 0 ≤ (a1 : Int) := of_decide_eq_true (by first | (with_reducible assumption) | assumption)
                 have q274 : a1 < ((rd_L4 l0 x8_1).length : Int) := of_decide_eq_true (by first | (with_reducible assumption) | assumption)
                 obtain ⟨ad274, e274, hx274_0⟩ := Kd.at_int HR273_0.out a1 p274 q274
                 cases e274
                 replace p274 := eq_true p274
                 replace q274 := eq_true q274
                 have p275 : 0 ≤ (x8_1 : Int) := of_decide_eq_true (by first | (with_reducible assumption) | assumption)
                 have q275 : x8_1 < (l0.length : Int) := of_decide_eq_true (by first | (with_reducible assumption) | assumption)
                 obtain ⟨ad275, A275_0, c275_0, e275, hx275_0, hl275_0, hi275_0⟩ := at_L4 HR0.out x8_1 p275 q275
                 obtain rfl : ad269 = ad275 := (by injection e275)
                 have HR275_0 := M_ hi275_0
                 have HC275_0 := M_ hl275_0
                 clear hi275_0 hl275_0
                 replace p275 := eq_true p275
                 replace q275 := eq_true q275
                 have ea_ := Option.some.inj (hx273_0.symm.trans hx275_0)
                 injection ea_ with ea_ en_ ec_
                 subst ea_
                 subst ec_
                 clear en_
                 have p276 : 0 ≤ (a2 : Int) := of_decide_eq_true (by first | (with_reducible assumption) | assumption)
                 have q276 : a2 < ((rd_L4 l0 x8_1).length : Int) := of_decide_eq_true (by first | (with_reducible assumption) | assumption)
                 obtain ⟨ad276, e276, hx276_0⟩ := Kd.at_int HR275_0.out a2 p276 q276
                 cases e276
                 replace p276 := eq_true p276
                 replace q276 := eq_true q276
                 have p277 : 0 ≤ (x8_1 : Int) := of_decide_eq_true (by first | (with_reducible assumption) | assumption)
                 have q277 : x8_1 < (l0.length : Int) := of_decide_eq_true (by first | (with_reducible assumption) | assumption)
                 obtain ⟨ad277, A277_0, c277_0, e277, hx277_0, hl277_0, hi277_0⟩ := at_L4 HR0.out x8_1 p277 q277
                 obtain rfl : ad269 = ad277 := (by injection e277)
                 have HR277_0 := M_ hi277_0
                 have HC277_0 := M_ hl277_0
                 clear hi277_0 hl277_0
                 replace p277 := eq_true p277
                 replace q277 := eq_true q277
                 have ea_ := Option.some.inj (hx273_0.symm.trans hx277_0)
                 injection ea_ with ea_ en_ ec_
                 subst ea_
                 subst ec_
                 clear en_
                 have p278 : 0 ≤ (a1 : Int) := of_decide_eq_true (by first | (with_reducible assumption) | assumption)
                 have q278 : a1 < ((rd_L4 l0 x8_1).length : Int) := of_decide_eq_true (by first | (with_reducible assumption) | assumption)
                 obtain ⟨ad278, e278, hx278_0⟩ := Kd.at_int HR277_0.out a1 p278 q278
                 cases e278
                 replace p278 := eq_true p278
                 replace q278 := eq_true q278
                 have p279 : 0 ≤ (x8_1 : Int) := of_decide_eq_true (by first | (with_reducible assumption) | assumption)
                 have q279 : x8_1 < (l0.length : Int) := of_decide_eq_true (by first | (with_reducible assumption) | assumption)
                 obtain ⟨ad279, A279_0, c279_0, e279, hx279_0, hl279_0, hi279_0⟩ := at_L4 HR0.out x8_1 p279 q279
                 obtain rfl : ad269 = ad279 := (by injection e279)
                 have HR279_0 := M_ hi279_0
                 have HC279_0 := M_ hl279_0
                 clear hi279_0 hl279_0
                 replace p279 := eq_true p279
                 replace q279 := eq_true q279
                 have ea_ := Option.some.inj (hx273_0.symm.trans hx279_0)
                 injection ea_ with ea_ en_ ec_
                 subst ea_
                 subst ec_
                 clear en_
                 have p280 : 0 ≤ (a2 : Int) := of_decide_eq_true (by first | (with_reducible assumption) | assumption)
                 have q280 : a2 < ((rd_L4 l0 x8_1).length : Int) := of_decide_eq_true (by first | (with_reducible assumption) | assumption)
                 obtain ⟨ad280, e280, hx280_0⟩ := Kd.at_int HR279_0.out a2 p280 q280
                 cases e280
                 replace p280 := eq_true p280
                 replace q280 := eq_true q280
                 go_wp2
                 repeat (go_quiet (fail); try go_wp2)
                 go_ret
                 exact ⟨by first | rfl | (simp; done) | (simp [*]; done), by repeat (first | exact Drawn0.refl _ | apply Drawn0.step)⟩
              ·rw [if_neg c15] at H
               exact absurd H (by simp)
             ·rw [if_neg c14] at H
              exact absurd H (by simp)
           ·rw [if_neg c12] at H
            exact absurd H (by simp)
          ·rw [if_neg c11] at H
           exact absurd H (by simp)
         ·rw [if_neg c10] at H
          exact absurd H (by simp)
        ·rw [if_neg c9] at H
         have c9b0 : decide (x8_1 < (l0.length : Int)) = false := decide_eq_false c9
         clear c9
         obtain rfl := Option.some.inj H
         go_wp2
         repeat (go_quiet (fail); try go_wp2)
         go_ret
         exact ⟨by first | rfl | (simp; done) | (simp [*]; done), by repeat (first | exact Drawn0.refl _ | apply Drawn0.step)⟩
     ·rw [if_neg c8] at H
      exact absurd H (by simp)
    ·rw [if_neg c7] at H
     exact absurd H (by simp)
   ·rw [if_neg c6] at H
    exact absurd H (by simp)
  ·rw [if_neg c5] at H
   exact absurd H (by simp)
 ·rw [if_neg c4] at H
  exact absurd H (by simp)

end Go.Proofs.Ytmcdanpecajklaa.QTernsimStates
