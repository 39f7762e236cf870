-- Made by wip/myprint.sh (a patched print): a text of this session's own.
import Derived.Test.YtmcdanpecajklaaQTernsimValuesx0
namespace Go.Proofs.Ytmcdanpecajklaa.QTernsimValues
open Go.RowKit Go.Proofs.YtmcdanpecajklaaW.PrintWords Go.Proofs.YtmcdanpecajklaaW.PrintLast Go.Proofs.YtmcdanpecajklaaW.PrintMore
attribute [local go_sem] max2_int min2_int max_two min_two max_three min_three max_four min_four
set_option linter.unusedVariables false
set_option linter.unusedSimpArgs false

def ternsim_constant.l0 : Nat → Int → Int → List (List Int) → Int → Int → Option (Int)
 | 0, _, _, _, _, _ => none
 | k + 1, x1, x5, x14, x15, x16 => if x16 < x15 then (if 0 ≤ x16 then (if x16 < (x14.length : Int) then (if 0 ≤ x1 then (if x1 < ((rd_L4 x14 x16).length : Int) then (if (rd (rd_L4 x14 x16) x1) = x5 then (if x5 = 2 then (some (-1)) else (ternsim_constant.l0 k x1 x5 x14 x15 (wrap64 (x16 + 1)))) else (some (-1))) else (none)) else (none)) else (none)) else (none)) else (some (wrap64 (x5)))
def ternsim_constant.f (k : Nat) (l0 : List (List Int)) (a1 : Int) : Option (Int) := if 0 < (l0.length : Int) then (if 0 ≤ a1 then (if a1 < ((rd_L4 l0 0).length : Int) then (ternsim_constant.l0 k a1 (rd (rd_L4 l0 0) a1) l0 (l0.length : Int) 0) else (none)) else (none)) else (none)
set_option maxHeartbeats 8000000 in
set_option maxRecDepth 100000 in
theorem ternsim_constant.calls (k : Nat) (A0 : Option Addr) (c0 : Nat) (l0 : List (List Int)) (a1 : Int) (r : Int) (w : World) (hr0 : Kd.C (Kd.slice 5 (Kd.int .u8)) w A0 l0.length l0) (hc0 : l0.length ≤ c0) (h : ternsim_constant.f k l0 a1 = some r) :
  Calls Try.prog 81 #[.slice A0 l0.length c0, .int .i64 a1] w fun e w' => e = .returned (.int .i64 r) ∧ Drawn0 w w' := by
 have HR0 := M_ hr0
 have HC0 := M_ hc0
 clear hr0 hc0
 have H : (if 0 < (l0.length : Int) then (if 0 ≤ a1 then (if a1 < ((rd_L4 l0 0).length : Int) then (ternsim_constant.l0 k a1 (rd (rd_L4 l0 0) a1) l0 (l0.length : Int) 0) else (none)) else (none)) else (none)) = some r := h
 clear h
 by_cases c3 : 0 < (l0.length : Int)
 ·rw [if_pos c3] at H
  have c3b0 : decide (0 < (l0.length : Int)) = true := decide_eq_true c3
  have c3b1 : decide (0 < l0.length) = true := decide_eq_true (by omega)
  clear c3
  by_cases c4 : 0 ≤ a1
  ·rw [if_pos c4] at H
   have c4b0 : decide (0 ≤ a1) = true := decide_eq_true c4
   clear c4
   by_cases c5 : a1 < ((rd_L4 l0 0).length : Int)
   ·rw [if_pos c5] at H
    have c5b0 : decide (a1 < ((rd_L4 l0 0).length : Int)) = true := decide_eq_true c5
    clear c5
    have H' := M_ H
    clear H
    have p150 : 0 ≤ (0 : Int) := (by omega)
    have q150 : 0 < (l0.length : Int) := of_decide_eq_true (by first | (with_reducible assumption) | assumption)
    obtain ⟨ad150, A150_0, c150_0, e150, hx150_0, hl150_0, hi150_0⟩ := at_L4 HR0.out 0 p150 q150
    cases e150
    have qi150 : (0 < l0.length) = True := eq_true (by omega)
    (try rw [show ((0 : Int)).toNat = 0 from rfl] at hx150_0)
    (try rw [Addr.add_zero'] at hx150_0)
    have HR150_0 := M_ hi150_0
    have HC150_0 := M_ hl150_0
    clear hi150_0 hl150_0
    replace p150 := eq_true p150
    replace q150 := eq_true q150
    have p151 : 0 ≤ (a1 : Int) := of_decide_eq_true (by first | (with_reducible assumption) | assumption)
    have q151 : a1 < ((rd_L4 l0 0).length : Int) := of_decide_eq_true (by first | (with_reducible assumption) | assumption)
    obtain ⟨ad151, e151, hx151_0⟩ := Kd.at_int HR150_0.out a1 p151 q151
    cases e151
    replace p151 := eq_true p151
    replace q151 := eq_true q151
    go_enter Try.func81, Try.ntmps81
    go_wp2
    go_loopg [16] k (fun kq v16 w' => ∃ (x16_1 : Int), v16 = .int .i64 x16_1 ∧ Aside0 (ternsim_constant.l0 kq a1 (rd (rd_L4 l0 0) a1) l0 (l0.length : Int) x16_1 = some r) ∧ Aside0 (kq ≤ k) ∧ Drawn0 w w')
    case atStart => exact ⟨(0), (by first | rfl | (simp; done) | (simp [*]; done)), H', ⟨Nat.le_refl _⟩, by repeat (first | exact Drawn0.refl _ | apply Drawn0.step)⟩
    case round =>
     clear H'
     try clear c1; try clear p1; try clear q1; try clear hx1; try clear qi1; try clear p2; try clear c3; try clear c3b0; try clear c3b1; try clear c4; try clear c4b0; try clear c5; try clear c5b0; try clear hx150_0; try clear hx151_0; try clear p150; try clear p151; try clear q150; try clear q151
     obtain ⟨x16_1, rfl, HA, HK1, ⟨m1, rfl⟩⟩ := hrel
     cases gk with
     | zero => exact absurd HA.out (by simp [ternsim_constant.l0])
     | succ k1 =>
      have H := HA.out
      clear HA
      simp only [ternsim_constant.l0] at H
      by_cases c6 : x16_1 < (l0.length : Int)
      ·rw [if_pos c6] at H
       have c6b0 : decide (x16_1 < (l0.length : Int)) = true := decide_eq_true c6
       clear c6
       by_cases c7 : 0 ≤ x16_1
       ·rw [if_pos c7] at H
        have c7b0 : decide (0 ≤ x16_1) = true := decide_eq_true c7
        clear c7
        by_cases c8 : x16_1 < (l0.length : Int)
        ·rw [if_pos c8] at H
         have c8b0 : decide (x16_1 < (l0.length : Int)) = true := decide_eq_true c8
         clear c8
         by_cases c9 : 0 ≤ a1
         ·rw [if_pos c9] at H
          have c9b0 : decide (0 ≤ a1) = true := decide_eq_true c9
          clear c9
          by_cases c10 : a1 < ((rd_L4 l0 x16_1).length : Int)
          ·rw [if_pos c10] at H
           have c10b0 : decide (a1 < ((rd_L4 l0 x16_1).length : Int)) = true := decide_eq_true c10
           clear c10
           by_cases c11 : (rd (rd_L4 l0 x16_1) a1) = (rd (rd_L4 l0 0) a1)
           ·rw [if_pos c11] at H
            have c11b0 : ((rd (rd_L4 l0 x16_1) a1) == (rd (rd_L4 l0 0) a1)) = true := beq_iff_eq.mpr c11
            have c11b1 : ((rd (rd_L4 l0 x16_1) a1) != (rd (rd_L4 l0 0) a1)) = false := bne_eq_false_iff_eq.mpr c11
            clear c11
            by_cases c12 : (rd (rd_L4 l0 0) a1) = 2
            ·rw [if_pos c12] at H
             have c12b0 : ((rd (rd_L4 l0 0) a1) == 2) = true := beq_iff_eq.mpr c12
             have c12b1 : ((rd (rd_L4 l0 0) a1) != 2) = false := bne_eq_false_iff_eq.mpr c12
             clear c12
             obtain rfl := Option.some.inj H
             have p152 : 0 ≤ (x16_1 : Int) := of_decide_eq_true (by first | (with_reducible assumption) | assumption)
             have q152 : x16_1 < (l0.length : Int) := of_decide_eq_true (by first | (with_reducible assumption) | assumption)
             obtain ⟨ad152, A152_0, c152_0, e152, hx152_0, hl152_0, hi152_0⟩ := at_L4 HR0.out x16_1 p152 q152
             obtain rfl : ad150 = ad152 := (by injection e152)
             have HR152_0 := M_ hi152_0
             have HC152_0 := M_ hl152_0
             clear hi152_0 hl152_0
             replace p152 := eq_true p152
             replace q152 := eq_true q152
             have p153 : 0 ≤ (a1 : Int) := of_decide_eq_true (by first | (with_reducible assumption) | assumption)
             have q153 : a1 < ((rd_L4 l0 x16_1).length : Int) := of_decide_eq_true (by first | (with_reducible assumption) | assumption)
             obtain ⟨ad153, e153, hx153_0⟩ := Kd.at_int HR152_0.out a1 p153 q153
             cases e153
             replace p153 := eq_true p153
             replace q153 := eq_true q153
             go_wp2
             go_ret
             exact ⟨by first | rfl | (simp; done) | (simp [*]; done), by repeat (first | exact Drawn0.refl _ | apply Drawn0.step)⟩
            ·rw [if_neg c12] at H
             have c12b0 : ((rd (rd_L4 l0 0) a1) == 2) = false := beq_eq_false_iff_ne.mpr c12
             have c12b1 : ((rd (rd_L4 l0 0) a1) != 2) = true := bne_iff_ne.mpr c12
             have H' := M_ H
             clear H
             have p152 : 0 ≤ (x16_1 : Int) := of_decide_eq_true (by first | (with_reducible assumption) | assumption)
             have q152 : x16_1 < (l0.length : Int) := of_decide_eq_true (by first | (with_reducible assumption) | assumption)
             obtain ⟨ad152, A152_0, c152_0, e152, hx152_0, hl152_0, hi152_0⟩ := at_L4 HR0.out x16_1 p152 q152
             obtain rfl : ad150 = ad152 := (by injection e152)
             have HR152_0 := M_ hi152_0
             have HC152_0 := M_ hl152_0
             clear hi152_0 hl152_0
             replace p152 := eq_true p152
             replace q152 := eq_true q152
             have p153 : 0 ≤ (a1 : Int) := of_decide_eq_true (by first | (with_reducible assumption) | assumption)
             have q153 : a1 < ((rd_L4 l0 x16_1).length : Int) := of_decide_eq_true (by first | (with_reducible assumption) | assumption)
             obtain ⟨ad153, e153, hx153_0⟩ := Kd.at_int HR152_0.out a1 p153 q153
             cases e153
             replace p153 := eq_true p153
             replace q153 := eq_true q153
             go_wp2
             go_roundg k1
             case measure => have := HK1.out; omega
             case rel => exact ⟨(wrap64 (x16_1 + 1)), (by first | rfl | (simp; done) | (simp [*]; done)), H', ⟨by have := HK1.out; omega⟩, by repeat (first | exact Drawn0.refl _ | apply Drawn0.step)⟩
           ·rw [if_neg c11] at H
            have c11b0 : ((rd (rd_L4 l0 x16_1) a1) == (rd (rd_L4 l0 0) a1)) = false := beq_eq_false_iff_ne.mpr c11
            have c11b1 : ((rd (rd_L4 l0 x16_1) a1) != (rd (rd_L4 l0 0) a1)) = true := bne_iff_ne.mpr c11
            obtain rfl := Option.some.inj H
            have p152 : 0 ≤ (x16_1 : Int) := of_decide_eq_true (by first | (with_reducible assumption) | assumption)
            have q152 : x16_1 < (l0.length : Int) := of_decide_eq_true (by first | (with_reducible assumption) | assumption)
            obtain ⟨ad152, A152_0, c152_0, e152, hx152_0, hl152_0, hi152_0⟩ := at_L4 HR0.out x16_1 p152 q152
            obtain rfl : ad150 = ad152 := (by injection e152)
            have HR152_0 := M_ hi152_0
            have HC152_0 := M_ hl152_0
            clear hi152_0 hl152_0
            replace p152 := eq_true p152
            replace q152 := eq_true q152
            have p153 : 0 ≤ (a1 : Int) := of_decide_eq_true (by first | (with_reducible assumption) | assumption)
            have q153 : a1 < ((rd_L4 l0 x16_1).length : Int) := of_decide_eq_true (by first | (with_reducible assumption) | assumption)
            obtain ⟨ad153, e153, hx153_0⟩ := Kd.at_int HR152_0.out a1 p153 q153
            cases e153
            replace p153 := eq_true p153
            replace q153 := eq_true q153
            go_wp2
            go_ret
            exact ⟨by first | rfl | (simp; done) | (simp [*]; done), by repeat (first | exact Drawn0.refl _ | apply Drawn0.step)⟩
          ·rw [if_neg c10] at H
           exact absurd H (by simp)
         ·rw [if_neg c9] at H
          exact absurd H (by simp)
        ·rw [if_neg c8] at H
         exact absurd H (by simp)
       ·rw [if_neg c7] at H
        exact absurd H (by simp)
      ·rw [if_neg c6] at H
       have c6b0 : decide (x16_1 < (l0.length : Int)) = false := decide_eq_false c6
       clear c6
       obtain rfl := Option.some.inj H
       go_wp2
       go_ret
       exact ⟨by first | rfl | (simp; done) | (simp [*]; done), by repeat (first | exact Drawn0.refl _ | apply Drawn0.step)⟩
   ·rw [if_neg c5] at H
    exact absurd H (by simp)
  ·rw [if_neg c4] at H
   exact absurd H (by simp)
 ·rw [if_neg c3] at H
  exact absurd H (by simp)

def ternsim_tied.l0 : Nat → Int → Int → Int → List (List Int) → Int → Int → Option (Int)
 | 0, _, _, _, _, _, _ => none
 | k + 1, x1, x2, x7, x23, x24, x25 => if x25 < x24 then (if 0 ≤ x25 then (if x25 < (x23.length : Int) then (if 0 ≤ x1 then (if x1 < ((rd_L4 x23 x25).length : Int) then (if (rd (rd_L4 x23 x25) x1) = 2 then (some (-1)) else (if 0 ≤ x2 then (if x2 < ((rd_L4 x23 x25).length : Int) then (if (rd (rd_L4 x23 x25) x2) = 2 then (some (-1)) else (if (Go.bits .xor .u8 (rd (rd_L4 x23 x25) x1) (rd (rd_L4 x23 x25) x2)) = x7 then (ternsim_tied.l0 k x1 x2 x7 x23 x24 (wrap64 (x25 + 1))) else (some (-1)))) else (none)) else (none))) else (none)) else (none)) else (none)) else (none)) else (some (wrap64 (x7)))
def ternsim_tied.f (k : Nat) (l0 : List (List Int)) (a1 : Int) (a2 : Int) : Option (Int) := if 0 < (l0.length : Int) then (if 0 ≤ a1 then (if a1 < ((rd_L4 l0 0).length : Int) then (if 0 ≤ a2 then (if a2 < ((rd_L4 l0 0).length : Int) then (ternsim_tied.l0 k a1 a2 (Go.bits .xor .u8 (rd (rd_L4 l0 0) a1) (rd (rd_L4 l0 0) a2)) l0 (l0.length : Int) 0) else (none)) else (none)) else (none)) else (none)) else (none)
set_option maxHeartbeats 8000000 in
set_option maxRecDepth 100000 in
theorem ternsim_tied.calls (k : Nat) (A0 : Option Addr) (c0 : Nat) (l0 : List (List Int)) (a1 : Int) (a2 : Int) (r : Int) (w : World) (hr0 : Kd.C (Kd.slice 5 (Kd.int .u8)) w A0 l0.length l0) (hc0 : l0.length ≤ c0) (h : ternsim_tied.f k l0 a1 a2 = some r) :
  Calls Try.prog 82 #[.slice A0 l0.length c0, .int .i64 a1, .int .i64 a2] w fun e w' => e = .returned (.int .i64 r) ∧ Drawn0 w w' := by
 have HR0 := M_ hr0
 have HC0 := M_ hc0
 clear hr0 hc0
 have H : (if 0 < (l0.length : Int) then (if 0 ≤ a1 then (if a1 < ((rd_L4 l0 0).length : Int) then (if 0 ≤ a2 then (if a2 < ((rd_L4 l0 0).length : Int) then (ternsim_tied.l0 k a1 a2 (Go.bits .xor .u8 (rd (rd_L4 l0 0) a1) (rd (rd_L4 l0 0) a2)) l0 (l0.length : Int) 0) else (none)) else (none)) else (none)) else (none)) else (none)) = some r := h
 clear h
 by_cases c4 : 0 < (l0.length : Int)
 ·rw [if_pos c4] at H
  have c4b0 : decide (0 < (l0.length : Int)) = true := decide_eq_true c4
  have c4b1 : decide (0 < l0.length) = true := decide_eq_true (by omega)
  clear c4
  by_cases c5 : 0 ≤ a1
  ·rw [if_pos c5] at H
   have c5b0 : decide (0 ≤ a1) = true := decide_eq_true c5
   clear c5
   by_cases c6 : a1 < ((rd_L4 l0 0).length : Int)
   ·rw [if_pos c6] at H
    have c6b0 : decide (a1 < ((rd_L4 l0 0).length : Int)) = true := decide_eq_true c6
    clear c6
    by_cases c7 : 0 ≤ a2
    ·rw [if_pos c7] at H
     have c7b0 : decide (0 ≤ a2) = true := decide_eq_true c7
     clear c7
     by_cases c8 : a2 < ((rd_L4 l0 0).length : Int)
     ·rw [if_pos c8] at H
      have c8b0 : decide (a2 < ((rd_L4 l0 0).length : Int)) = true := decide_eq_true c8
      clear c8
      have H' := M_ H
      clear H
      have p154 : 0 ≤ (0 : Int) := (by omega)
      have q154 : 0 < (l0.length : Int) := of_decide_eq_true (by first | (with_reducible assumption) | assumption)
      obtain ⟨ad154, A154_0, c154_0, e154, hx154_0, hl154_0, hi154_0⟩ := at_L4 HR0.out 0 p154 q154
      cases e154
      have qi154 : (0 < l0.length) = True := eq_true (by omega)
      (try rw [show ((0 : Int)).toNat = 0 from rfl] at hx154_0)
      (try rw [Addr.add_zero'] at hx154_0)
      have HR154_0 := M_ hi154_0
      have HC154_0 := M_ hl154_0
      clear hi154_0 hl154_0
      replace p154 := eq_true p154
      replace q154 := eq_true q154
      have p155 : 0 ≤ (a1 : Int) := of_decide_eq_true (by first | (with_reducible assumption) | assumption)
      have q155 : a1 < ((rd_L4 l0 0).length : Int) := of_decide_eq_true (by first | (with_reducible assumption) | assumption)
      obtain ⟨ad155, e155, hx155_0⟩ := Kd.at_int HR154_0.out a1 p155 q155
      cases e155
      replace p155 := eq_true p155
      replace q155 := eq_true q155
      have p156 : 0 ≤ (0 : Int) := (by omega)
      have q156 : 0 < (l0.length : Int) := of_decide_eq_true (by first | (with_reducible assumption) | assumption)
      obtain ⟨ad156, A156_0, c156_0, e156, hx156_0, hl156_0, hi156_0⟩ := at_L4 HR0.out 0 p156 q156
      obtain rfl : ad154 = ad156 := (by injection e156)
      have qi156 : (0 < l0.length) = True := eq_true (by omega)
      (try rw [show ((0 : Int)).toNat = 0 from rfl] at hx156_0)
      (try rw [Addr.add_zero'] at hx156_0)
      have HR156_0 := M_ hi156_0
      have HC156_0 := M_ hl156_0
      clear hi156_0 hl156_0
      replace p156 := eq_true p156
      replace q156 := eq_true q156
      have ea_ := Option.some.inj (hx154_0.symm.trans hx156_0)
      injection ea_ with ea_ en_ ec_
      subst ea_
      subst ec_
      clear en_
      have p157 : 0 ≤ (a2 : Int) := of_decide_eq_true (by first | (with_reducible assumption) | assumption)
      have q157 : a2 < ((rd_L4 l0 0).length : Int) := of_decide_eq_true (by first | (with_reducible assumption) | assumption)
      obtain ⟨ad157, e157, hx157_0⟩ := Kd.at_int HR156_0.out a2 p157 q157
      cases e157
      replace p157 := eq_true p157
      replace q157 := eq_true q157
      go_enter Try.func82, Try.ntmps82
      go_wp2
      repeat (go_quiet (fail); try go_wp2)
      go_loopg [25] k (fun kq v25 w' => ∃ (x25_1 : Int), v25 = .int .i64 x25_1 ∧ Aside0 (ternsim_tied.l0 kq a1 a2 (Go.bits .xor .u8 (rd (rd_L4 l0 0) a1) (rd (rd_L4 l0 0) a2)) l0 (l0.length : Int) x25_1 = some r) ∧ Aside0 (kq ≤ k) ∧ Drawn0 w w')
      case atStart => exact ⟨(0), (by first | rfl | (simp; done) | (simp [*]; done)), H', ⟨Nat.le_refl _⟩, by repeat (first | exact Drawn0.refl _ | apply Drawn0.step)⟩
      case round =>
       clear H'
       try clear c1; try clear p1; try clear q1; try clear hx1; try clear qi1; try clear p2; try clear c4; try clear c4b0; try clear c4b1; try clear c5; try clear c5b0; try clear c6; try clear c6b0; try clear c7; try clear c7b0; try clear c8; try clear c8b0; try clear hx154_0; try clear hx155_0; try clear hx156_0; try clear hx157_0; try clear p154; try clear p155; try clear p156; try clear p157; try clear q154; try clear q155; try clear q156; try clear q157
       obtain ⟨x25_1, rfl, HA, HK1, ⟨m1, rfl⟩⟩ := hrel
       cases gk with
       | zero => exact absurd HA.out (by simp [ternsim_tied.l0])
       | succ k1 =>
        have H := HA.out
        clear HA
        simp only [ternsim_tied.l0] at H
        by_cases c9 : x25_1 < (l0.length : Int)
        ·rw [if_pos c9] at H
         have c9b0 : decide (x25_1 < (l0.length : Int)) = true := decide_eq_true c9
         clear c9
         by_cases c10 : 0 ≤ x25_1
         ·rw [if_pos c10] at H
          have c10b0 : decide (0 ≤ x25_1) = true := decide_eq_true c10
          clear c10
          by_cases c11 : x25_1 < (l0.length : Int)
          ·rw [if_pos c11] at H
           have c11b0 : decide (x25_1 < (l0.length : Int)) = true := decide_eq_true c11
           clear c11
           by_cases c12 : 0 ≤ a1
           ·rw [if_pos c12] at H
            have c12b0 : decide (0 ≤ a1) = true := decide_eq_true c12
            clear c12
            by_cases c13 : a1 < ((rd_L4 l0 x25_1).length : Int)
            ·rw [if_pos c13] at H
             have c13b0 : decide (a1 < ((rd_L4 l0 x25_1).length : Int)) = true := decide_eq_true c13
             clear c13
             by_cases c14 : (rd (rd_L4 l0 x25_1) a1) = 2
             ·rw [if_pos c14] at H
              have c14b0 : ((rd (rd_L4 l0 x25_1) a1) == 2) = true := beq_iff_eq.mpr c14
              have c14b1 : ((rd (rd_L4 l0 x25_1) a1) != 2) = false := bne_eq_false_iff_eq.mpr c14
              clear c14
              obtain rfl := Option.some.inj H
              have p158 : 0 ≤ (x25_1 : Int) := of_decide_eq_true (by first | (with_reducible assumption) | assumption)
              have q158 : x25_1 < (l0.length : Int) := of_decide_eq_true (by first | (with_reducible assumption) | assumption)
              obtain ⟨ad158, A158_0, c158_0, e158, hx158_0, hl158_0, hi158_0⟩ := at_L4 HR0.out x25_1 p158 q158
              obtain rfl : ad154 = ad158 := (by injection e158)
              have HR158_0 := M_ hi158_0
              have HC158_0 := M_ hl158_0
              clear hi158_0 hl158_0
              replace p158 := eq_true p158
              replace q158 := eq_true q158
              have p159 : 0 ≤ (a1 : Int) := of_decide_eq_true (by first | (with_reducible assumption) | assumption)
              have q159 : a1 < ((rd_L4 l0 x25_1).length : Int) := of_decide_eq_true (by first | (with_reducible assumption) | assumption)
              obtain ⟨ad159, e159, hx159_0⟩ := Kd.at_int HR158_0.out a1 p159 q159
              cases e159
              replace p159 := eq_true p159
              replace q159 := eq_true q159
              go_wp2
              repeat (go_quiet (fail); try go_wp2)
              go_ret
              exact ⟨by first | rfl | (simp; done) | (simp [*]; done), by repeat (first | exact Drawn0.refl _ | apply Drawn0.step)⟩
             ·rw [if_neg c14] at H
              have c14b0 : ((rd (rd_L4 l0 x25_1) a1) == 2) = false := beq_eq_false_iff_ne.mpr c14
              have c14b1 : ((rd (rd_L4 l0 x25_1) a1) != 2) = true := bne_iff_ne.mpr c14
              by_cases c15 : 0 ≤ a2
              ·rw [if_pos c15] at H
               have c15b0 : decide (0 ≤ a2) = true := decide_eq_true c15
               clear c15
               by_cases c16 : a2 < ((rd_L4 l0 x25_1).length : Int)
               ·rw [if_pos c16] at H
                have c16b0 : decide (a2 < ((rd_L4 l0 x25_1).length : Int)) = true := decide_eq_true c16
                clear c16
                by_cases c17 : (rd (rd_L4 l0 x25_1) a2) = 2
                ·rw [if_pos c17] at H
                 have c17b0 : ((rd (rd_L4 l0 x25_1) a2) == 2) = true := beq_iff_eq.mpr c17
                 have c17b1 : ((rd (rd_L4 l0 x25_1) a2) != 2) = false := bne_eq_false_iff_eq.mpr c17
                 clear c17
                 obtain rfl := Option.some.inj H
                 have p158 : 0 ≤ (x25_1 : Int) := of_decide_eq_true (by first | (with_reducible assumption) | assumption)
                 have q158 : x25_1 < (l0.length : Int) := of_decide_eq_true (by first | (with_reducible assumption) | assumption)
                 obtain ⟨ad158, A158_0, c158_0, e158, hx158_0, hl158_0, hi158_0⟩ := at_L4 HR0.out x25_1 p158 q158
                 obtain rfl : ad154 = ad158 := (by injection e158)
                 have HR158_0 := M_ hi158_0
                 have HC158_0 := M_ hl158_0
                 clear hi158_0 hl158_0
                 replace p158 := eq_true p158
                 replace q158 := eq_true q158
                 have p159 : 0 ≤ (a1 : Int) := of_decide_eq_true (by first | (with_reducible assumption) | assumption)
                 have q159 : a1 < ((rd_L4 l0 x25_1).length : Int) := of_decide_eq_true (by first | (with_reducible assumption) | assumption)
                 obtain ⟨ad159, e159, hx159_0⟩ := Kd.at_int HR158_0.out a1 p159 q159
                 cases e159
                 replace p159 := eq_true p159
                 replace q159 := eq_true q159
                 have p160 : 0 ≤ (a2 : Int) := of_decide_eq_true (by first | (with_reducible assumption) | assumption)
                 have q160 : a2 < ((rd_L4 l0 x25_1).length : Int) := of_decide_eq_true (by first | (with_reducible assumption) | assumption)
                 obtain ⟨ad160, e160, hx160_0⟩ := Kd.at_int HR158_0.out a2 p160 q160
                 obtain rfl : ad159 = ad160 := (by injection e160)
                 replace p160 := eq_true p160
                 replace q160 := eq_true q160
                 go_wp2
                 repeat (go_quiet (fail); try go_wp2)
                 go_ret
                 exact ⟨by first | rfl | (simp; done) | (simp [*]; done), by repeat (first | exact Drawn0.refl _ | apply Drawn0.step)⟩
                ·rw [if_neg c17] at H
                 have c17b0 : ((rd (rd_L4 l0 x25_1) a2) == 2) = false := beq_eq_false_iff_ne.mpr c17
                 have c17b1 : ((rd (rd_L4 l0 x25_1) a2) != 2) = true := bne_iff_ne.mpr c17
                 by_cases c18 : (Go.bits .xor .u8 (rd (rd_L4 l0 x25_1) a1) (rd (rd_L4 l0 x25_1) a2)) = (Go.bits .xor .u8 (rd (rd_L4 l0 0) a1) (rd (rd_L4 l0 0) a2))
                 ·rw [if_pos c18] at H
                  have c18b0 : ((Go.bits .xor .u8 (rd (rd_L4 l0 x25_1) a1) (rd (rd_L4 l0 x25_1) a2)) == (Go.bits .xor .u8 (rd (rd_L4 l0 0) a1) (rd (rd_L4 l0 0) a2))) = true := beq_iff_eq.mpr c18
                  have c18b1 : ((Go.bits .xor .u8 (rd (rd_L4 l0 x25_1) a1) (rd (rd_L4 l0 x25_1) a2)) != (Go.bits .xor .u8 (rd (rd_L4 l0 0) a1) (rd (rd_L4 l0 0) a2))) = false := bne_eq_false_iff_eq.mpr c18
                  clear c18
                  have H' := M_ H
                  clear H
                  have p158 : 0 ≤ (x25_1 : Int) := of_decide_eq_true (by first | (with_reducible assumption) | assumption)
                  have q158 : x25_1 < (l0.length : Int) := of_decide_eq_true (by first | (with_reducible assumption) | assumption)
                  obtain ⟨ad158, A158_0, c158_0, e158, hx158_0, hl158_0, hi158_0⟩ := at_L4 HR0.out x25_1 p158 q158
                  obtain rfl : ad154 = ad158 := (by injection e158)
                  have HR158_0 := M_ hi158_0
                  have HC158_0 := M_ hl158_0
                  clear hi158_0 hl158_0
                  replace p158 := eq_true p158
                  replace q158 := eq_true q158
                  have p159 : 0 ≤ (a1 : Int) := of_decide_eq_true (by first | (with_reducible assumption) | assumption)
                  have q159 : a1 < ((rd_L4 l0 x25_1).length : Int) := of_decide_eq_true (by first | (with_reducible assumption) | assumption)
                  obtain ⟨ad159, e159, hx159_0⟩ := Kd.at_int HR158_0.out a1 p159 q159
                  cases e159
                  replace p159 := eq_true p159
                  replace q159 := eq_true q159
                  have p160 : 0 ≤ (a2 : Int) := of_decide_eq_true (by first | (with_reducible assumption) | assumption)
                  have q160 : a2 < ((rd_L4 l0 x25_1).length : Int) := of_decide_eq_true (by first | (with_reducible assumption) | assumption)
                  obtain ⟨ad160, e160, hx160_0⟩ := Kd.at_int HR158_0.out a2 p160 q160
                  obtain rfl : ad159 = ad160 := (by injection e160)
                  replace p160 := eq_true p160
                  replace q160 := eq_true q160
                  have p161 : 0 ≤ (a1 : Int) := of_decide_eq_true (by first | (with_reducible assumption) | assumption)
                  have q161 : a1 < ((rd_L4 l0 x25_1).length : Int) := of_decide_eq_true (by first | (with_reducible assumption) | assumption)
                  obtain ⟨ad161, e161, hx161_0⟩ := Kd.at_int HR158_0.out a1 p161 q161
                  obtain rfl : ad159 = ad161 := (by injection e161)
                  replace p161 := eq_true p161
                  replace q161 := eq_true q161
                  have p162 : 0 ≤ (a2 : Int) := of_decide_eq_true (by first | (with_reducible assumption) | assumption)
                  have q162 : a2 < ((rd_L4 l0 x25_1).length : Int) := of_decide_eq_true (by first | (with_reducible assumption) | assumption)
                  obtain ⟨ad162, e162, hx162_0⟩ := Kd.at_int HR158_0.out a2 p162 q162
                  obtain rfl : ad159 = ad162 := (by injection e162)
                  replace p162 := eq_true p162
                  replace q162 := eq_true q162
                  go_wp2
                  repeat (go_quiet (fail); try go_wp2)
                  go_roundg k1
                  case measure => have := HK1.out; omega
                  case rel => exact ⟨(wrap64 (x25_1 + 1)), (by first | rfl | (simp; done) | (simp [*]; done)), H', ⟨by have := HK1.out; omega⟩, by repeat (first | exact Drawn0.refl _ | apply Drawn0.step)⟩
                 ·rw [if_neg c18] at H
                  have c18b0 : ((Go.bits .xor .u8 (rd (rd_L4 l0 x25_1) a1) (rd (rd_L4 l0 x25_1) a2)) == (Go.bits .xor .u8 (rd (rd_L4 l0 0) a1) (rd (rd_L4 l0 0) a2))) = false := beq_eq_false_iff_ne.mpr c18
                  have c18b1 : ((Go.bits .xor .u8 (rd (rd_L4 l0 x25_1) a1) (rd (rd_L4 l0 x25_1) a2)) != (Go.bits .xor .u8 (rd (rd_L4 l0 0) a1) (rd (rd_L4 l0 0) a2))) = true := bne_iff_ne.mpr c18
                  obtain rfl := Option.some.inj H
                  have p158 : 0 ≤ (x25_1 : Int) := of_decide_eq_true (by first | (with_reducible assumption) | assumption)
                  have q158 : x25_1 < (l0.length : Int) := of_decide_eq_true (by first | (with_reducible assumption) | assumption)
                  obtain ⟨ad158, A158_0, c158_0, e158, hx158_0, hl158_0, hi158_0⟩ := at_L4 HR0.out x25_1 p158 q158
                  obtain rfl : ad154 = ad158 := (by injection e158)
                  have HR158_0 := M_ hi158_0
                  have HC158_0 := M_ hl158_0
                  clear hi158_0 hl158_0
                  replace p158 := eq_true p158
                  replace q158 := eq_true q158
                  have p159 : 0 ≤ (a1 : Int) := of_decide_eq_true (by first | (with_reducible assumption) | assumption)
                  have q159 : a1 < ((rd_L4 l0 x25_1).length : Int) := of_decide_eq_true (by first | (with_reducible assumption) | assumption)
                  obtain ⟨ad159, e159, hx159_0⟩ := Kd.at_int HR158_0.out a1 p159 q159
                  cases e159
                  replace p159 := eq_true p159
                  replace q159 := eq_true q159
                  have p160 : 0 ≤ (a2 : Int) := of_decide_eq_true (by first | (with_reducible assumption) | assumption)
                  have q160 : a2 < ((rd_L4 l0 x25_1).length : Int) := of_decide_eq_true (by first | (with_reducible assumption) | assumption)
                  obtain ⟨ad160, e160, hx160_0⟩ := Kd.at_int HR158_0.out a2 p160 q160
                  obtain rfl : ad159 = ad160 := (by injection e160)
                  replace p160 := eq_true p160
                  replace q160 := eq_true q160
                  have p161 : 0 ≤ (a1 : Int) := of_decide_eq_true (by first | (with_reducible assumption) | assumption)
                  have q161 : a1 < ((rd_L4 l0 x25_1).length : Int) := of_decide_eq_true (by first | (with_reducible assumption) | assumption)
                  obtain ⟨ad161, e161, hx161_0⟩ := Kd.at_int HR158_0.out a1 p161 q161
                  obtain rfl : ad159 = ad161 := (by injection e161)
                  replace p161 := eq_true p161
                  replace q161 := eq_true q161
                  have p162 : 0 ≤ (a2 : Int) := of_decide_eq_true (by first | (with_reducible assumption) | assumption)
                  have q162 : a2 < ((rd_L4 l0 x25_1).length : Int) := of_decide_eq_true (by first | (with_reducible assumption) | assumption)
                  obtain ⟨ad162, e162, hx162_0⟩ := Kd.at_int HR158_0.out a2 p162 q162
                  obtain rfl : ad159 = ad162 := (by injection e162)
                  replace p162 := eq_true p162
                  replace q162 := eq_true q162
                  go_wp2
                  repeat (go_quiet (fail); try go_wp2)
                  go_ret
                  exact ⟨by first | rfl | (simp; done) | (simp [*]; done), by repeat (first | exact Drawn0.refl _ | apply Drawn0.step)⟩
               ·rw [if_neg c16] at H
                exact absurd H (by simp)
              ·rw [if_neg c15] at H
               exact absurd H (by simp)
            ·rw [if_neg c13] at H
             exact absurd H (by simp)
           ·rw [if_neg c12] at H
            exact absurd H (by simp)
          ·rw [if_neg c11] at H
           exact absurd H (by simp)
         ·rw [if_neg c10] at H
          exact absurd H (by simp)
        ·rw [if_neg c9] at H
         have c9b0 : decide (x25_1 < (l0.length : Int)) = false := decide_eq_false c9
         clear c9
         obtain rfl := Option.some.inj H
         go_wp2
         repeat (go_quiet (fail); try go_wp2)
         go_ret
         exact ⟨by first | rfl | (simp; done) | (simp [*]; done), by repeat (first | exact Drawn0.refl _ | apply Drawn0.step)⟩
     ·rw [if_neg c8] at H
      exact absurd H (by simp)
    ·rw [if_neg c7] at H
     exact absurd H (by simp)
   ·rw [if_neg c6] at H
    exact absurd H (by simp)
  ·rw [if_neg c5] at H
   exact absurd H (by simp)
 ·rw [if_neg c4] at H
  exact absurd H (by simp)

end Go.Proofs.Ytmcdanpecajklaa.QTernsimValues
