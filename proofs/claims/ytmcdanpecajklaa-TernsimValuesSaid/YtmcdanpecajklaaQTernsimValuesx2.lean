-- Made by wip/myprint.sh (a patched print): a text of this session's own.
import Derived.Test.YtmcdanpecajklaaLay
import Derived.Test.YtmcdanpecajklaaQTernsimValuesx0
import Derived.Test.YtmcdanpecajklaaQTernsimValuesx1
namespace Go.Proofs.Ytmcdanpecajklaa.QTernsimValues
open Go.RowKit Go.Proofs.YtmcdanpecajklaaW.PrintWords Go.Proofs.YtmcdanpecajklaaW.PrintLast Go.Proofs.YtmcdanpecajklaaW.PrintMore
attribute [local go_sem] max2_int min2_int max_two min_two max_three min_three max_four min_four
set_option linter.unusedVariables false
set_option linter.unusedSimpArgs false

theorem infoU8 : (Try.prog.info? 5).map (fun i => (i.zero, i.size, i.bytes)) = some (some (.int .u8 0), 1, 1) := by kernel_rfl
theorem cutZero (A : Option Addr) (len c : Nat) (h : len ≤ c) (W : World) : (Instr.slice 70 (.slice A len c) none (some (.int .i64 0)) none).run Try.prog W = .ok (.slice A 0 c) W := by
 obtain ⟨i0, hi, hzz⟩ := Option.map_eq_some_iff.1 infoU8
 simp only [Prod.mk.injEq] at hzz
 have := (print_take_of (Value.int .u8) (0 : Int) 70 5 .i64 Try.underlying70 hi hzz.2.1 A c (List.replicate len (0 : Int)) 0 (by omega) (by simp) (by simpa using h)).1 W
 simpa using this
set_option maxHeartbeats 2000000 in
set_option maxRecDepth 100000 in
theorem growNil_calls (n : Int) (w : World) (h0 : 0 ≤ n) (h1 : n ≤ 140737488355328) :
  Calls Try.prog 120 #[.slice none 0 0, .int .i64 n] w fun e w' => ∃ v, e = .returned v ∧ Kd.R (Kd.int .u8) 5 w' w.heap.size (fun _ => True) v [] ∧ Below w.heap.size w w' := by
 have hu70 := Try.underlying70
 have hu5 := Try.underlying5
 have hn : decide (n < 0) = false := decide_eq_false (by omega)
 by_cases c : 0 < n
 ·have cb : decide (0 < n) = true := decide_eq_true c
  go_enter Try.func120, Try.ntmps120
  go_wp2_with (at_builtin; refine Kd.R_append_zeros (Kd.int .u8) (w0 := w) w.heap.size rfl _ _ 70 _ 5 (.int .u8 0) 1 rfl hu70 Try.underlying3 infoU8 rfl (by decide) (by decide) (.slice none 0 0) [] 0 n (fun _ => True) rfl rfl rfl (fun _ _ => trivial) (Kd.R_nil _ _ _ _ _) h0 (Below.refl _ _) (Nat.le_refl _) (by simp; omega) ?_; intro v1 w1 HO hb hg hat; clear hg hat; obtain ⟨A1, c1, rfl, hl1, hr1⟩ := Kd.R_reads HO; have HO := M_ HO; have hcut := cutZero A1 _ c1 hl1; clear hr1 hl1; have HB := M_ hb; clear hb)
  go_ret
  exact ⟨_, rfl, Kd.R_take HO.out (Nat.zero_le _), HB.out⟩
 ·have cb : decide (0 < n) = false := decide_eq_false c
  go_enter Try.func120, Try.ntmps120
  go_wp2
  go_ret
  exact ⟨_, rfl, Kd.R_nil _ _ _ _ _, Below.refl _ _⟩
def slices_Concat_uint8_uint8.f (l0 : List (List Int)) : Option (List Int) := if l0.flatten.length ≤ 140737488355328 then some l0.flatten else none
theorem flat_take (ll : List (List Int)) (i : Nat) (h : i < ll.length) : (ll.take (i + 1)).flatten = (ll.take i).flatten ++ ll.getD i [] := by
 rw [List.take_succ_eq_append_getElem h, List.flatten_append]
 simp [List.getD, h]
theorem flat_take_le (ll : List (List Int)) (i : Nat) : (ll.take i).flatten.length ≤ ll.flatten.length := by
 have : ll.flatten = (ll.take i).flatten ++ (ll.drop i).flatten := by rw [← List.flatten_append, List.take_append_drop]
 rw [this, List.length_append]; omega
theorem at_rows {w : World} {A : Option Addr} {ll : List (List Int)} (h : Kd.C (Kd.slice 5 (Kd.int .u8)) w A ll.length ll) (i : Nat) (hi : i < ll.length) :
  ∃ ad A1 c1, A = some ad ∧ w.cell? (ad.add i) = some (.slice A1 (ll.getD i []).length c1) ∧ (ll.getD i []).length ≤ c1 ∧ Kd.C (Kd.int .u8) w A1 (ll.getD i []).length (ll.getD i []) := by
 obtain ⟨ad, c, e, _, hK, hc0⟩ := Kd.C_get h [] (i : Int) (by omega) (by omega)
 obtain ⟨A1, c1, rfl, hl1, hC1⟩ := hK
 have hx : w.cell? (ad.add (i * 1 + 0)) = some (.slice A1 (ll.getD i []).length c1) := hc0 0 _ rfl
 rw [Nat.mul_one, Nat.add_zero] at hx
 exact ⟨ad, A1, c1, e, hx, hl1, hC1⟩
set_option maxHeartbeats 4000000 in
set_option maxRecDepth 100000 in
theorem slices_Concat_uint8_uint8.calls (A0 : Option Addr) (c0 : Nat) (l0 : List (List Int)) (r : List Int) (w : World) (hr0 : Kd.C (Kd.slice 5 (Kd.int .u8)) w A0 l0.length l0) (hc0 : l0.length ≤ c0) (h : slices_Concat_uint8_uint8.f l0 = some r) :
  Calls Try.prog 104 #[.slice A0 l0.length c0] w fun e w' => ∃ v1_ : Value, e = .returned (v1_) ∧ Kd.R (Kd.int .u8) 5 w' w.heap.size (fun _ => True) v1_ r ∧ Below w.heap.size w w' := by
 have hu70 := Try.underlying70
 have hu5 := Try.underlying5
 unfold slices_Concat_uint8_uint8.f at h
 split at h
 ·rename_i hb
  obtain rfl := Option.some.inj h
  have HR := M_ hr0
  have HN := hr0.2.1
  have HT := M_ hb
  clear hr0 hb h
  go_enter Try.func104, Try.ntmps104
  go_wp2
  go_loopg [3, 11] (l0.length + 1) (fun kq v3 v11 w' => ∃ (i : Nat) (s : Int), v11 = .int .i64 (i : Int) ∧ v3 = .int .i64 s ∧ Aside0 (i ≤ l0.length ∧ kq + i = l0.length + 1 ∧ s = ((l0.take i).flatten.length : Int)) ∧ Aside0 (Drawn0 w w'))
  case atStart => exact ⟨0, 0, by simp, by simp, ⟨by omega, by omega, by simp⟩, ⟨Drawn0.refl _⟩⟩
  case round =>
   obtain ⟨i, s, rfl, rfl, HI, HD⟩ := hrel
   obtain ⟨⟨n1, rfl⟩⟩ := HD.out
   by_cases c : i < l0.length
   ·have cb : decide (i < l0.length) = true := decide_eq_true c
    obtain ⟨ad, A1, c1, rfl, hx, hl1, hC1⟩ := at_rows HR.out i c
    have hf := flat_take l0 i c
    have hle := flat_take_le l0 (i + 1)
    have hT := HT.out
    rw [hf, List.length_append] at hle
    have hs := HI.out.2.2
    have b0 : 0 ≤ s := by omega
    have b1 : s + ((l0.getD i []).length : Int) ≤ 140737488355328 := by omega
    have b2 : decide (s + ((l0.getD i []).length : Int) < 0) = false := decide_eq_false (by omega)
    have HS : Aside0 (s + ((l0.getD i []).length : Int) = ((l0.take (i + 1)).flatten.length : Int)) := ⟨by rw [hf, List.length_append]; omega⟩
    have b3 : 0 ≤ s + ((l0.getD i []).length : Int) := by omega
    clear hf hle hT hs hC1 hl1
    generalize (l0.getD i []).length = q at hx b1 b2 HS b3
    go_wp2
    go_roundg (gk - 1)
    case rel => exact ⟨i + 1, s + (q : Int), by go_num, rfl, ⟨by omega, by have := HI.out; omega, HS.out⟩, ⟨⟨⟨_, rfl⟩⟩⟩⟩
    case measure => have := HI.out; omega
   ·have cb : decide (i < l0.length) = false := decide_eq_false c
    have hs : s = (l0.flatten.length : Int) := by
     have := HI.out.2.2
     rw [List.take_of_length_le (by omega)] at this
     exact this
    have hT := HT.out
    have b0 : 0 ≤ s := by omega
    have b1 : s ≤ 140737488355328 := by omega
    clear hs hT
    go_upto_region 10 with (go_at_call 120; (with_reducible refine (growNil_calls s _ b0 b1).mono ?_); rintro e w1 ⟨v1, rfl, hR1, hb1⟩; have HV := M_ hR1; have HB := M_ (below_step (pw_below_drewN (Below.refl _ w) _) hb1); clear hR1 hb1)
    go_wp2
    go_loopg [6, 27] (l0.length + 1) (fun kq v6 v27 w' => ∃ (i : Nat), v27 = .int .i64 (i : Int) ∧ Aside0 (i ≤ l0.length ∧ kq + i = l0.length + 1) ∧ Aside0 (Kd.R (Kd.int .u8) 5 w' w.heap.size (fun _ => True) v6 (l0.take i).flatten) ∧ Aside0 (Below w.heap.size w w'))
    case atStart => exact ⟨0, by simp, ⟨by omega, by omega⟩, ⟨by simpa using HV.out⟩, HB⟩
    case round =>
     clear HV HB
     obtain ⟨j, rfl, HJ, HV, HB⟩ := hrel
     by_cases d : j < l0.length
     ·have db : decide (j < l0.length) = true := decide_eq_true d
      obtain ⟨ad, A1, c1, rfl, hx, hl1, hC1⟩ := at_rows (Kd.C_below HR.out HB.out) j d
      have HC1 := M_ hC1
      have HF := M_ (flat_take l0 j d)
      have hle := flat_take_le l0 (j + 1)
      have hT2 := HT.out
      rw [HF.out, List.length_append] at hle
      have HL := M_ (show ((l0.take j).flatten.length + (l0.getD j []).length) * 1 ≤ 140737488355328 by omega)
      clear hC1 hl1 hle hT2
      generalize l0.getD j [] = ys at hx HC1 HF HL
      go_wp2_with (at_builtin; refine Kd.R_append_row (Value.int .u8) (0 : Int) (w0 := w) w.heap.size rfl _ _ 70 5 (.int .u8 0) 1 rfl hu70 infoU8 rfl (by decide) _ (l0.take j).flatten ys _ ys.length c1 (fun _ => True) rfl rfl (fun _ _ => trivial) HV.out HC1.out HB.out HB.out.size HL.out ?_; intro v2 w2 hR2 hb2 hg hat; clear hg hat; rw [← HF.out] at hR2; have HV2 := M_ hR2; have HB2 := M_ hb2; clear hR2 hb2)
      go_roundg (gk - 1)
      case rel => exact ⟨j + 1, by go_num, ⟨by omega, by have := HJ.out; omega⟩, HV2, HB2⟩
      case measure => have := HJ.out; omega
     ·have db : decide (j < l0.length) = false := decide_eq_false d
      go_wp2
      go_ret
      have hv := HV.out
      rw [List.take_of_length_le (by omega)] at hv
      exact ⟨_, rfl, hv, HB.out⟩
 ·simp at h

def ternary_and.j0 : Nat → Int → Int → Bool → Option (Int)
 | 0, _, _, _ => none
 | k + 1, x0, x1, x5 => if x5 = true then (some 0) else (if x0 = 2 then (some 2) else (if x1 = 2 then (some 2) else (some 1)))
def ternary_and.f (k : Nat) (a0 : Int) (a1 : Int) : Option (Int) := if a0 = 0 then (ternary_and.j0 k a0 a1 true) else (ternary_and.j0 k a0 a1 (a1 == 0))
set_option maxHeartbeats 8000000 in
set_option maxRecDepth 100000 in
theorem ternary_and.calls (k : Nat) (a0 : Int) (a1 : Int) (r : Int) (w : World) (h : ternary_and.f k a0 a1 = some r) :
  Calls Try.prog 105 #[.int .u8 a0, .int .u8 a1] w fun e w' => e = .returned (.int .u8 r) ∧ Drawn0 w w' := by
 have H : (if a0 = 0 then (ternary_and.j0 k a0 a1 true) else (ternary_and.j0 k a0 a1 (a1 == 0))) = some r := h
 clear h
 have HC3 := M_ H
 clear H
 go_enter Try.func105, Try.ntmps105
 go_upto_region 1 with (fail)
 go_cut [5] (fun v5 wc => ∃ (kq : Nat) (x5_2 : Bool), v5 = .bool x5_2 ∧ Aside0 (ternary_and.j0 kq a0 a1 x5_2 = some r) ∧ Aside0 (kq ≤ k) ∧ Drawn0 w wc)
 case first =>
  have H := HC3.out
  clear HC3
  by_cases c4 : a0 = 0
  ·rw [if_pos c4] at H
   have c4b0 : (a0 == 0) = true := beq_iff_eq.mpr c4
   have c4b1 : (a0 != 0) = false := bne_eq_false_iff_eq.mpr c4
   clear c4
   (first | rw [c4b0] | (simp only [i64_w, i32_w]; rw [c4b0]) | skip)
   have H' := M_ H
   clear H
   go_wp2
   go_meet
   case rel => exact ⟨_, (true), (by first | rfl | (simp; done) | (simp [*]; done)), H', ⟨by first | omega | exact Nat.le_refl _⟩, by repeat (first | exact Drawn0.refl _ | apply Drawn0.step)⟩
  ·rw [if_neg c4] at H
   have c4b0 : (a0 == 0) = false := beq_eq_false_iff_ne.mpr c4
   have c4b1 : (a0 != 0) = true := bne_iff_ne.mpr c4
   (first | rw [c4b0] | (simp only [i64_w, i32_w]; rw [c4b0]) | skip)
   have H' := M_ H
   clear H
   go_wp2
   go_meet
   case rel => exact ⟨_, ((a1 == 0)), (by first | rfl | (simp; done) | (simp [*]; done)), H', ⟨by first | omega | exact Nat.le_refl _⟩, by repeat (first | exact Drawn0.refl _ | apply Drawn0.step)⟩
 case rest =>
  clear HC3
  try clear c1; try clear p2; try clear c4; try clear c4b0; try clear c4b1
  obtain ⟨kq, x5_2, rfl, HA, HJ2, ⟨mc2, rfl⟩⟩ := hcut
  cases kq with
  | zero => exact absurd HA.out (by simp [ternary_and.j0])
  | succ kj2 =>
   have H := HA.out
   clear HA
   simp only [ternary_and.j0] at H
   by_cases c5 : x5_2 = true
   ·subst c5
    have H1 : (some 0) = some r := by rw [if_pos rfl] at H; exact H
    clear H
    have H := H1
    clear H1
    obtain rfl := Option.some.inj H
    go_wp2
    go_ret
    exact ⟨by first | rfl | (simp; done) | (simp [*]; done), by repeat (first | exact Drawn0.refl _ | apply Drawn0.step)⟩
   ·replace c5 := Bool.eq_false_iff.mpr c5
    subst c5
    have H1 : (if a0 = 2 then (some 2) else (if a1 = 2 then (some 2) else (some 1))) = some r := by rw [if_neg (show ¬ (false = true) by decide)] at H; exact H
    clear H
    have H := H1
    clear H1
    by_cases c6 : a0 = 2
    ·rw [if_pos c6] at H
     have c6b0 : (a0 == 2) = true := beq_iff_eq.mpr c6
     have c6b1 : (a0 != 2) = false := bne_eq_false_iff_eq.mpr c6
     clear c6
     obtain rfl := Option.some.inj H
     go_wp2
     go_ret
     exact ⟨by first | rfl | (simp; done) | (simp [*]; done), by repeat (first | exact Drawn0.refl _ | apply Drawn0.step)⟩
    ·rw [if_neg c6] at H
     have c6b0 : (a0 == 2) = false := beq_eq_false_iff_ne.mpr c6
     have c6b1 : (a0 != 2) = true := bne_iff_ne.mpr c6
     by_cases c7 : a1 = 2
     ·rw [if_pos c7] at H
      have c7b0 : (a1 == 2) = true := beq_iff_eq.mpr c7
      have c7b1 : (a1 != 2) = false := bne_eq_false_iff_eq.mpr c7
      clear c7
      obtain rfl := Option.some.inj H
      go_wp2
      go_ret
      exact ⟨by first | rfl | (simp; done) | (simp [*]; done), by repeat (first | exact Drawn0.refl _ | apply Drawn0.step)⟩
     ·rw [if_neg c7] at H
      have c7b0 : (a1 == 2) = false := beq_eq_false_iff_ne.mpr c7
      have c7b1 : (a1 != 2) = true := bne_iff_ne.mpr c7
      obtain rfl := Option.some.inj H
      go_wp2
      go_ret
      exact ⟨by first | rfl | (simp; done) | (simp [*]; done), by repeat (first | exact Drawn0.refl _ | apply Drawn0.step)⟩

mutual
def ternary_All.j0 : Nat → List Int → List Int → Bool → Int → List (S36) → List (S69) → List Int → List Int → Option (List Int × Int)
 | 0, _, _, _, _, _, _, _, _ => none
 | k + 1, x1, x2, x30, x118000, x118001, x118002, x118003, x118004 => if x30 = true then (some (([] : List Int), 2)) else ((slices_Concat_uint8_uint8.f (([(([0] : List Int)), x2, x1] : List (List Int)))).bind fun t125 => ((ternary_check.f t125).bind fun t128 => (if t128 = 0 then (ternary_All.l0 k t125 x118002 (x118002.length : Int) 0) else (some (([] : List Int), t128)))))
def ternary_All.l0 : Nat → List Int → List (S69) → Int → Int → Option (List Int × Int)
 | 0, _, _, _, _ => none
 | k + 1, x9, x42, x43, x44 => if x44 < x43 then (if 0 ≤ x44 then (if x44 < (x42.length : Int) then ((ternary_of.f x9 ((rd_T69 x42 x44).f0)).bind fun t131 => ((ternary_of.f x9 ((rd_T69 x42 x44).f1)).bind fun t132 => ((ternary_and.f k t131 t132).bind fun t133 => (if x9.length < 140737488355328 then (ternary_All.l0 k (x9 ++ [t133]) x42 x43 (wrap64 (x44 + 1))) else (none))))) else (none)) else (none)) else (some (x9, 0))
end
def ternary_All.f (k : Nat) (a0_0 : Int) (l0_1 : List (S36)) (l0_2 : List (S69)) (l0_3 : List Int) (l0_4 : List Int) (l1 : List Int) (l2 : List Int) : Option (List Int × Int) := (gates_Check.f a0_0 l0_1 l0_2 l0_3 l0_4).bind fun t118 => (if t118 = 0 then (if (l1.length : Int) = (l0_1.length : Int) then (ternary_All.j0 k l1 l2 ((l2.length : Int) != a0_0) a0_0 l0_1 l0_2 l0_3 l0_4) else (ternary_All.j0 k l1 l2 true a0_0 l0_1 l0_2 l0_3 l0_4)) else (some (([] : List Int), t118)))
def ternary_All.T13 : Bool × List (List Nat × List Nat) := (true, [([], []), ([], []), ([], []), ([2], [2]), ([1, 3], [1, 3]), ([], []), ([], []), ([6], [6]), ([5, 7, 4], [5, 7]), ([4, 8, 8], [4, 8]), ([9], [9]), ([0, 10, 9], [0, 10]), ([11, 11, 0, 1, 2, 3, 4, 5, 6, 7, 8, 9, 10, 11], [0, 1, 5, 11])])
def ternary_All.B13 : List Nat := [0, 0, 0, 4, 14, 0, 0, 64, 254, 510, 1022, 2047, 4095]
theorem ternary_All.tab13 : rtab .any (opsOf Try.f70 13) = ternary_All.T13 := by kernel_rfl
theorem ternary_All.bits13 : waitsOk ternary_All.T13.2 ternary_All.B13 = true := by kernel_rfl
set_option maxHeartbeats 8000000 in
set_option maxRecDepth 100000 in
theorem ternary_All.calls (k : Nat) (a0_0 : Int) (A0_1 : Option Addr) (c0_1 : Nat) (l0_1 : List (S36)) (A0_2 : Option Addr) (c0_2 : Nat) (l0_2 : List (S69)) (A0_3 : Option Addr) (c0_3 : Nat) (l0_3 : List Int) (A0_4 : Option Addr) (c0_4 : Nat) (l0_4 : List Int) (P1_ : Nat → Prop) (A1 : Option Addr) (c1 : Nat) (l1 : List Int) (P2_ : Nat → Prop) (A2 : Option Addr) (c2 : Nat) (l2 : List Int) (r1 : List Int) (r2 : Int) (w : World) (hr0_1 : Kd.C k36 w A0_1 l0_1.length l0_1) (hc0_1 : l0_1.length ≤ c0_1) (hr0_2 : Kd.C k69 w A0_2 l0_2.length l0_2) (hc0_2 : l0_2.length ≤ c0_2) (hr0_3 : Kd.C (Kd.int .i64) w A0_3 l0_3.length l0_3) (hc0_3 : l0_3.length ≤ c0_3) (hr0_4 : Kd.C (Kd.int .i64) w A0_4 l0_4.length l0_4) (hc0_4 : l0_4.length ≤ c0_4) (hs1 : Kd.V (Kd.int .u8) 5 w w.heap.size (fun k_ => P1_ k_) (.slice A1 l1.length c1) l1) (hs2 : Kd.V (Kd.int .u8) 5 w w.heap.size (fun k_ => P2_ k_) (.slice A2 l2.length c2) l2) (h : ternary_All.f k a0_0 l0_1 l0_2 l0_3 l0_4 l1 l2 = some (r1, r2)) :
  Calls Try.prog 70 #[.agg #[.int .i64 a0_0, .slice A0_1 l0_1.length c0_1, .slice A0_2 l0_2.length c0_2, .slice A0_3 l0_3.length c0_3, .slice A0_4 l0_4.length c0_4], .slice A1 l1.length c1, .slice A2 l2.length c2] w fun e w' => ∃ v0_ : Value, e = .returned (.tuple #[v0_, .int .i64 r2]) ∧ Kd.R (Kd.int .u8) 5 w' w.heap.size (fun k_ => (w.heap.size ≤ k_)) v0_ r1 ∧ Below w.heap.size w w' := by
 have hu26 := Try.underlying26
 have hu69 := Try.underlying69
 have HR0_1 := M_ hr0_1
 have HC0_1 := M_ hc0_1
 clear hr0_1 hc0_1
 have HR0_2 := M_ hr0_2
 have HC0_2 := M_ hc0_2
 clear hr0_2 hc0_2
 have HR0_3 := M_ hr0_3
 have HC0_3 := M_ hc0_3
 clear hr0_3 hc0_3
 have HR0_4 := M_ hr0_4
 have HC0_4 := M_ hc0_4
 clear hr0_4 hc0_4
 have HO1 := M_ (show Kd.V (Kd.int .u8) 5 w w.heap.size (fun k_ => ((P1_ k_ ∨ P2_ k_) ∨ w.heap.size ≤ k_)) (.slice A1 l1.length c1) l1 from Kd.V_mono hs1 (fun k_ hk => .inl (.inl hk)))
 have HO2 := M_ (show Kd.V (Kd.int .u8) 5 w w.heap.size (fun k_ => ((P1_ k_ ∨ P2_ k_) ∨ w.heap.size ≤ k_)) (.slice A2 l2.length c2) l2 from Kd.V_mono hs2 (fun k_ hk => .inl (.inr hk)))
 have HB := M_ (Below.refl w.heap.size w)
 have H : ((gates_Check.f a0_0 l0_1 l0_2 l0_3 l0_4).bind fun t118 => (if t118 = 0 then (if (l1.length : Int) = (l0_1.length : Int) then (ternary_All.j0 k l1 l2 ((l2.length : Int) != a0_0) a0_0 l0_1 l0_2 l0_3 l0_4) else (ternary_All.j0 k l1 l2 true a0_0 l0_1 l0_2 l0_3 l0_4)) else (some (([] : List Int), t118)))) = some (r1, r2) := h
 clear h
 replace H := Option.bind_eq_some_iff.mp H
 obtain ⟨t118, A40, H⟩ := H
 replace H : (if t118 = 0 then (if (l1.length : Int) = (l0_1.length : Int) then (ternary_All.j0 k l1 l2 ((l2.length : Int) != a0_0) a0_0 l0_1 l0_2 l0_3 l0_4) else (ternary_All.j0 k l1 l2 true a0_0 l0_1 l0_2 l0_3 l0_4)) else (some (([] : List Int), t118))) = some (r1, r2) := H
 have A4 := M_ A40
 clear A40
 by_cases c5 : t118 = 0
 ·rw [if_pos c5] at H
  have c5b0 : (t118 == 0) = true := beq_iff_eq.mpr c5
  have c5b1 : (t118 != 0) = false := bne_eq_false_iff_eq.mpr c5
  clear c5
  have HC6 := M_ H
  clear H
  go_enter Try.func70, Try.ntmps70
  go_upto_region 4 with (first | ((with_reducible refine gate_dst (N := 3) rfl ?_); (try (refine gate_guard (by rfl) ?_; dsimp only)); refine box_event ?hg (N := 3) ?hd (cs := #[.int .i64 a0_0, .slice A0_1 l0_1.length c0_1, .slice A0_2 l0_2.length c0_2, .slice A0_3 l0_3.length c0_3, .slice A0_4 l0_4.length c0_4]) (t := 26) ?hr ?_; (case hd => rfl); (case hg => rfl); (case hr => first | (go_simp; done) | (go_simp; rfl)); intro gb117 hg w7 hbox hb; have n0_ := M_ (Kd.V_below (Kd.V_elderB (by (with_reducible repeat (first | apply a3_ | apply a4_ | apply a5_)); exact HO1.out) gb117 (Nat.le_of_eq hg.symm)) hb); have n1_ := M_ (Kd.V_below (Kd.V_elderB (by (with_reducible repeat (first | apply a3_ | apply a4_ | apply a5_)); exact HO2.out) gb117 (Nat.le_of_eq hg.symm)) hb); have n3_ := M_ (hbox); have n4_ := M_ ((by rw [hg]; exact (below_size (wl_ HB.out)) : w.heap.size ≤ gb117)); have n5_ := M_ ((by rw [hg]; exact (below_size (wl_ HB.out)) : w.heap.size ≤ gb117)); clear HO1; clear HO2; have HO1 := n0_; have HO2 := n1_; replace HB := wb_ HB hb; have BK117 := n3_; have GW117 := n4_; have GE117 := n5_; have gi117 : Ge _ _ := ⟨GE117.out⟩; clear n0_ n1_ n3_ n4_ n5_; clear hb hbox hg; obtain ⟨hcz8_0, hcz8_1, hcz8_2, hcz8_3, hcz8_4⟩ := cz5_ BK117.out; have hfz8_0 := blk_frozen BK117.out 0; have hfz8_1 := blk_frozen BK117.out 1; have hfz8_2 := blk_frozen BK117.out 2; have hfz8_3 := blk_frozen BK117.out 3; have hfz8_4 := blk_frozen BK117.out 4) | ((with_reducible refine gate_callee (f := 59) rfl ?_); refine goesL_ (some 14) rfl rfl Try.func59 (by kernel_rfl) rfl #[.agg #[.int .i64 a0_0, .slice A0_1 l0_1.length c0_1, .slice A0_2 l0_2.length c0_2, .slice A0_3 l0_3.length c0_3, .slice A0_4 l0_4.length c0_4]] rfl (by (try simp only [List.map_toArray, List.map_cons, List.map_nil]); first | done | rfl) ?_; (with_reducible refine (gates_Check.calls a0_0 _ _ l0_1 _ _ l0_2 _ _ l0_3 _ _ l0_4 t118 _ ?side1 ?side2 ?side3 ?side4 ?side5 ?side6 ?side7 ?side8 A4.out).mono ?_); (case side1 => exact cl_ (Kd.C_below HR0_1.out HB.out)); (case side2 => exact HC0_1.out); (case side3 => exact cl_ (Kd.C_below HR0_2.out HB.out)); (case side4 => exact HC0_2.out); (case side5 => exact cl_ (Kd.C_below HR0_3.out HB.out)); (case side6 => exact HC0_3.out); (case side7 => exact cl_ (Kd.C_below HR0_4.out HB.out)); (case side8 => exact HC0_4.out); rintro e w9 ⟨rfl, hb⟩; refine ⟨_, rfl, ?_⟩; have n0_ := M_ (Kd.V_below (by (with_reducible repeat (first | apply a3_ | apply a4_ | apply a5_)); exact HO1.out) hb); have n1_ := M_ (Kd.V_below (by (with_reducible repeat (first | apply a3_ | apply a4_ | apply a5_)); exact HO2.out) hb); clear HO1; clear HO2; have HO1 := n0_; have HO2 := n1_; replace BK117 := bb_ BK117 hb; replace HB := wb_ HB hb; clear n0_ n1_; (try clear hb); (try clear hb2); (try clear hk); (try clear hi)))
  (try simp only [Act.put, e1_, e2_, e3_])
  go_cut [30] (fun v30 wc => ∃ (kq : Nat) (x30_5 : Bool), v30 = .bool x30_5 ∧ Aside0 (ternary_All.j0 kq l1 l2 x30_5 a0_0 l0_1 l0_2 l0_3 l0_4 = some (r1, r2)) ∧ Aside0 (kq ≤ k) ∧ Aside0 (Kd.V (Kd.int .u8) 5 wc w.heap.size (fun k_ => ((P1_ k_ ∨ P2_ k_) ∨ w.heap.size ≤ k_) ∧ k_ ≠ gb117) (.slice A1 l1.length c1) l1) ∧ Aside0 (Kd.V (Kd.int .u8) 5 wc w.heap.size (fun k_ => ((P1_ k_ ∨ P2_ k_) ∨ w.heap.size ≤ k_) ∧ k_ ≠ gb117) (.slice A2 l2.length c2) l2) ∧ Aside0 (wc.heap[gb117]? = some (.cells #[.int .i64 a0_0, (.slice A0_1 l0_1.length c0_1), (.slice A0_2 l0_2.length c0_2), (.slice A0_3 l0_3.length c0_3), (.slice A0_4 l0_4.length c0_4)] 26 (0, 0))) ∧ Aside0 (Below w.heap.size w wc))
  case first =>
   have H := HC6.out
   clear HC6
   by_cases c10 : (l1.length : Int) = (l0_1.length : Int)
   ·rw [if_pos c10] at H
    have c10b0 : ((l1.length : Int) == (l0_1.length : Int)) = true := beq_iff_eq.mpr c10
    have c10b1 : ((l1.length : Int) != (l0_1.length : Int)) = false := bne_eq_false_iff_eq.mpr c10
    have c10b2 : (l1.length == l0_1.length) = true := by first | simpa using c10 | (simp at c10 ⊢; omega)
    clear c10
    (first | rw [c10b0] | (simp only [i64_w, i32_w]; rw [c10b0]) | skip)
    have H' := M_ H
    clear H
    obtain ⟨hcz11_0, hcz11_1, hcz11_2, hcz11_3, hcz11_4⟩ := cz5_ BK117.out
    obtain ⟨hfz11_0, hfz11_1, hfz11_2, hfz11_3, hfz11_4⟩ := fz5_ BK117.out
    go_wp2
    go_meet
    case rel => exact ⟨_, (((l2.length : Int) != a0_0)), (by first | rfl | (simp; done) | (simp [*]; done)), H', ⟨by first | omega | exact Nat.le_refl _⟩, ⟨by (with_reducible repeat (first | apply a3_ | apply a4_ | apply a5_)); exact HO1.out⟩, ⟨by (with_reducible repeat (first | apply a3_ | apply a4_ | apply a5_)); exact HO2.out⟩, ⟨by (with_reducible repeat (first | refine k0_ ?_ _ | refine k1_ ?_ | refine k2_ ?_ _)); exact BK117.out⟩, ⟨by repeat (first | (with_reducible first | exact HB.out | apply b0_ | apply b1_ | apply b2_ | refine below_set ?_ GE117.out) | exact HB.out)⟩⟩
   ·rw [if_neg c10] at H
    have c10b0 : ((l1.length : Int) == (l0_1.length : Int)) = false := beq_eq_false_iff_ne.mpr c10
    have c10b1 : ((l1.length : Int) != (l0_1.length : Int)) = true := bne_iff_ne.mpr c10
    have c10b2 : (l1.length == l0_1.length) = false := by first | simpa using c10 | (simp at c10 ⊢; omega)
    (first | rw [c10b0] | (simp only [i64_w, i32_w]; rw [c10b0]) | skip)
    have H' := M_ H
    clear H
    obtain ⟨hcz12_0, hcz12_1, hcz12_2, hcz12_3, hcz12_4⟩ := cz5_ BK117.out
    obtain ⟨hfz12_0, hfz12_1, hfz12_2, hfz12_3, hfz12_4⟩ := fz5_ BK117.out
    go_wp2
    go_meet
    case rel => exact ⟨_, (true), (by first | rfl | (simp; done) | (simp [*]; done)), H', ⟨by first | omega | exact Nat.le_refl _⟩, ⟨by (with_reducible repeat (first | apply a3_ | apply a4_ | apply a5_)); exact HO1.out⟩, ⟨by (with_reducible repeat (first | apply a3_ | apply a4_ | apply a5_)); exact HO2.out⟩, ⟨by (with_reducible repeat (first | refine k0_ ?_ _ | refine k1_ ?_ | refine k2_ ?_ _)); exact BK117.out⟩, ⟨by repeat (first | (with_reducible first | exact HB.out | apply b0_ | apply b1_ | apply b2_ | refine below_set ?_ GE117.out) | exact HB.out)⟩⟩
  case rest =>
   clear HC6
   try clear c1; try clear c2; try clear p2; try clear c5; try clear c5b0; try clear c5b1; try clear c7; try clear c10; try clear c10b0; try clear c10b1; try clear c10b2; try clear hcz11_0 hcz11_1 hcz11_2 hcz11_3 hcz11_4; try clear hcz12_0 hcz12_1 hcz12_2 hcz12_3 hcz12_4; try clear hcz8_0 hcz8_1 hcz8_2 hcz8_3 hcz8_4; try clear hfz11_0 hfz11_1 hfz11_2 hfz11_3 hfz11_4; try clear hfz12_0 hfz12_1 hfz12_2 hfz12_3 hfz12_4; try clear hfz8_0 hfz8_1 hfz8_2 hfz8_3 hfz8_4
   obtain ⟨kq, x30_5, rfl, HA, HJ5, HO_1, HO_2, BK117, HB⟩ := hcut
   cases kq with
   | zero => exact absurd HA.out (by simp [ternary_All.j0])
   | succ kj5 =>
    have H := HA.out
    clear HA
    simp only [ternary_All.j0] at H
    by_cases c13 : x30_5 = true
    ·subst c13
     have H1 : (some (([] : List Int), 2)) = some (r1, r2) := by rw [if_pos rfl] at H; exact H
     clear H
     have H := H1
     clear H1
     simp only [Option.some.injEq, Prod.mk.injEq] at H
     obtain ⟨rfl, rfl⟩ := H
     go_wp2
     go_ret2
     exact ⟨_, by first | rfl | (simp [errW_none, errW_some] <;> rfl) | (simp [*, errW_none, errW_some] <;> rfl), by first | exact Kd.R_nil _ _ _ _ _ | exact Kd.N_nil _ _ _ _ _ | exact Kd.V_nil _ _ _ _ _ | exact Kd.Q_nil _ _ _ _ _ | exact Kd.S_nil _ _ _ _ _, by repeat (first | (with_reducible first | exact HB.out | apply b0_ | apply b1_ | apply b2_ | refine below_set ?_ GE117.out) | exact HB.out)⟩
    ·replace c13 := Bool.eq_false_iff.mpr c13
     subst c13
     have H1 : ((slices_Concat_uint8_uint8.f (([(([0] : List Int)), l2, l1] : List (List Int)))).bind fun t125 => ((ternary_check.f t125).bind fun t128 => (if t128 = 0 then (ternary_All.l0 kj5 t125 l0_2 (l0_2.length : Int) 0) else (some (([] : List Int), t128))))) = some (r1, r2) := by rw [if_neg (show ¬ (false = true) by decide)] at H; exact H
     clear H
     have H := H1
     clear H1
     obtain ⟨y119, hy119⟩ : ∃ y_ : List Int, y_ = (([0] : List Int)) := ⟨_, rfl⟩
     replace H : ((slices_Concat_uint8_uint8.f (([y119, l2, l1] : List (List Int)))).bind fun t125 => ((ternary_check.f t125).bind fun t128 => (if t128 = 0 then (ternary_All.l0 kj5 t125 l0_2 (l0_2.length : Int) 0) else (some (([] : List Int), t128))))) = some (r1, r2) := by first | (rw [hy119]; with_reducible exact H) | (have H2_ := (Option.bind_some _ _).symm.trans H; rw [hy119]; with_reducible exact H2_) | (have H2_ := (Option.bind_some _ _).symm.trans H; with_reducible exact H2_) | with_reducible exact H | (rw [hy119]; exact H) | exact H
     have Ny119 := M_ hy119
     clear hy119
     obtain ⟨y122, hy122⟩ : ∃ y_ : List (List Int), y_ = (([y119, l2, l1] : List (List Int))) := ⟨_, rfl⟩
     replace H : ((slices_Concat_uint8_uint8.f y122).bind fun t125 => ((ternary_check.f t125).bind fun t128 => (if t128 = 0 then (ternary_All.l0 kj5 t125 l0_2 (l0_2.length : Int) 0) else (some (([] : List Int), t128))))) = some (r1, r2) := by first | (rw [hy122]; with_reducible exact H) | (have H2_ := (Option.bind_some _ _).symm.trans H; rw [hy122]; with_reducible exact H2_) | (have H2_ := (Option.bind_some _ _).symm.trans H; with_reducible exact H2_) | with_reducible exact H | (rw [hy122]; exact H) | exact H
     have Ny122 := M_ hy122
     clear hy122
     replace H := Option.bind_eq_some_iff.mp H
     obtain ⟨t125, A140, H⟩ := H
     replace H : ((ternary_check.f t125).bind fun t128 => (if t128 = 0 then (ternary_All.l0 kj5 t125 l0_2 (l0_2.length : Int) 0) else (some (([] : List Int), t128)))) = some (r1, r2) := H
     have A14 := M_ A140
     clear A140
     replace H := Option.bind_eq_some_iff.mp H
     obtain ⟨t128, A150, H⟩ := H
     replace H : (if t128 = 0 then (ternary_All.l0 kj5 t125 l0_2 (l0_2.length : Int) 0) else (some (([] : List Int), t128))) = some (r1, r2) := H
     have A15 := M_ A150
     clear A150
     by_cases c16 : t128 = 0
     ·rw [if_pos c16] at H
      have c16b0 : (t128 == 0) = true := beq_iff_eq.mpr c16
      have c16b1 : (t128 != 0) = false := bne_eq_false_iff_eq.mpr c16
      clear c16
      have H' := M_ H
      clear H
      go_wp2_with (first | ((with_reducible refine gate_dst (N := 31) rfl ?_); (try (refine gate_guard (by rfl) ?_; dsimp only)); refine Kd.R_lit (Kd.int .u8) _ 5 ?hg (N := 31) ?hd (xs := ([0] : List Int)) (inner := [.int .u8 0]) (ok := fun _ => True) (okp := fun _ => True) ?hr ?hp (fun _ hk => hk) trivial (Below.refl _ _) (Nat.le_refl _) (by simp) ?_; (case hd => rfl); (case hg => rfl); (case hr => first | (go_simp; done) | (go_simp; rfl)); (case hp => exact (Reps.one (show Kd.M (Kd.int .u8) _ _ _ 0 [.int .u8 0] from rfl) (Reps.none _ _))); intro v120 w17 ho18 hb hg_ hnew_; clear hg_ hnew_; (first | rw [← Ny119.out] at ho18 | (simp only [Int.reduceToNat] at ho18; rw [← Ny119.out] at ho18)); have n0_ := M_ (Kd.V_elder' (by (with_reducible repeat (first | apply a3_ | apply a4_ | apply a5_)); exact HO_1.out) (Kd.R_base ho18) hb); have n1_ := M_ (Kd.V_elder' (by (with_reducible repeat (first | apply a3_ | apply a4_ | apply a5_)); exact HO_2.out) (Kd.R_base ho18) hb); have n2_ := M_ (Kd.R_lower (Kd.R_newM (M := fun k_ => (w.heap.size ≤ k_)) ho18 (below_size (ws_ HB.out)) (fun k_ h_ => h_)) (below_size (ws_ HB.out))); clear HO_1; clear HO_2; have HO_1 := n0_; have HO_2 := n1_; have HO121 := n2_; replace BK117 := bb_ BK117 hb; replace HB := wb_ HB hb; clear n0_ n1_ n2_; clear hb ho18; obtain ⟨Ao19, co19, eo19⟩ := Kd.R_slice HO121.out; subst eo19) | ((with_reducible refine gate_dst (N := 34) rfl ?_); (try (refine gate_guard (by rfl) ?_; dsimp only)); refine Kd.N_lit (Kd.slice 5 (Kd.int .u8)) _ 70 ?hg (N' := 34) ?hd (xs := ([y119, l2, l1] : List (List Int))) (inner := [.slice Ao19 y119.length co19, .slice A2 l2.length c2, .slice A1 l1.length c1]) (ok := (fun k_ => ((P1_ k_ ∨ P2_ k_) ∨ w.heap.size ≤ k_) ∧ k_ ≠ gb117)) (okp := (fun k_ => ((P1_ k_ ∨ P2_ k_) ∨ w.heap.size ≤ k_) ∧ k_ ≠ gb117)) ?hr ?hp (fun _ hk => hk) ((show ∀ k_, w17.heap.size ≤ k_ → (fun k_ => ((P1_ k_ ∨ P2_ k_) ∨ w.heap.size ≤ k_) ∧ k_ ≠ gb117) k_ from fun k_ hk => ⟨(.inr (Nat.le_trans (below_size (ws_ HB.out)) hk)), Kd.freshB (bl_ BK117.out) k_ hk⟩) _ (Nat.le_refl _)) (Below.refl _ _) (Nat.le_refl _) (by simp) ?_; (case hd => rfl); (case hg => rfl); (case hr => first | (go_simp; done) | (go_simp; rfl)); (case hp => exact (Reps.one (show Kd.FK (Kd.slice 5 (Kd.int .u8)) _ _ y119 [.slice Ao19 y119.length co19] from (Kd.FK_slice_mk (Kd.R_reads' (Kd.R_mono (ok' := (fun k_ => ((P1_ k_ ∨ P2_ k_) ∨ w.heap.size ≤ k_) ∧ k_ ≠ gb117)) (Kd.R_types (HO121.out) BK117.out (by decide)) (fun k_ hk => ⟨(.inr (hk.1.1)), hk.2⟩))).2.1 (Kd.R_F (Kd.R_mono (ok' := (fun k_ => ((P1_ k_ ∨ P2_ k_) ∨ w.heap.size ≤ k_) ∧ k_ ≠ gb117)) (Kd.R_types (HO121.out) BK117.out (by decide)) (fun k_ hk => ⟨(.inr (hk.1.1)), hk.2⟩))))) (Reps.one (show Kd.FK (Kd.slice 5 (Kd.int .u8)) _ _ l2 [.slice A2 l2.length c2] from (Kd.FK_slice_mk (Kd.V_reads' (Kd.V_mono (ok' := (fun k_ => ((P1_ k_ ∨ P2_ k_) ∨ w.heap.size ≤ k_) ∧ k_ ≠ gb117)) (HO_2.out) (fun k_ hk => ⟨hk.1.1, hk.1.2⟩))).2.1 (Kd.V_F (Kd.V_mono (ok' := (fun k_ => ((P1_ k_ ∨ P2_ k_) ∨ w.heap.size ≤ k_) ∧ k_ ≠ gb117)) (HO_2.out) (fun k_ hk => ⟨hk.1.1, hk.1.2⟩))))) (Reps.one (show Kd.FK (Kd.slice 5 (Kd.int .u8)) _ _ l1 [.slice A1 l1.length c1] from (Kd.FK_slice_mk (Kd.V_reads' (Kd.V_mono (ok' := (fun k_ => ((P1_ k_ ∨ P2_ k_) ∨ w.heap.size ≤ k_) ∧ k_ ≠ gb117)) (HO_1.out) (fun k_ hk => ⟨hk.1.1, hk.1.2⟩))).2.1 (Kd.V_F (Kd.V_mono (ok' := (fun k_ => ((P1_ k_ ∨ P2_ k_) ∨ w.heap.size ≤ k_) ∧ k_ ≠ gb117)) (HO_1.out) (fun k_ hk => ⟨hk.1.1, hk.1.2⟩))))) (Reps.none _ _))))); intro v123 w20 ho21 hb hg_ hnew_; clear hg_ hnew_; (first | rw [← Ny122.out] at ho21 | (simp only [Int.reduceToNat] at ho21; rw [← Ny122.out] at ho21)); have n0_ := M_ (Kd.V_elder' (by (with_reducible repeat (first | apply a3_ | apply a4_ | apply a5_)); exact HO_1.out) (Kd.N_base ho21) hb); have n1_ := M_ (Kd.V_elder' (by (with_reducible repeat (first | apply a3_ | apply a4_ | apply a5_)); exact HO_2.out) (Kd.N_base ho21) hb); have n2_ := M_ (Kd.N_lower ho21 (below_size (ws_ HB.out))); clear HO_1; clear HO_2; clear HO121; have HO_1 := n0_; have HO_2 := n1_; have HO124 := n2_; replace BK117 := bb_ BK117 hb; replace HB := wb_ HB hb; clear n0_ n1_ n2_; clear hb ho21; obtain ⟨Ao22, co22, eo22⟩ := Kd.N_slice HO124.out; subst eo22) | ((with_reducible refine gate_callee (f := 104) rfl ?_); refine goesL_ (some 35) rfl rfl Try.func104 (by kernel_rfl) rfl #[.slice Ao22 y122.length co22] rfl (by (try simp only [List.map_toArray, List.map_cons, List.map_nil]); first | done | rfl) ?_; (with_reducible refine (slices_Concat_uint8_uint8.calls _ _ y122 t125 _ ?side1 ?side2 A14.out).mono ?_); (case side1 => exact cl_ (Kd.N_reads' HO124.out).2.2); (case side2 => exact (Kd.N_reads' HO124.out).2.1); rintro e w23 ⟨v126, rfl, ho0, hb⟩; refine ⟨_, rfl, ?_⟩; have n0_ := M_ (Kd.V_elder' (by (with_reducible repeat (first | apply a3_ | apply a4_ | apply a5_)); exact HO_1.out) (Kd.R_base ho0) hb); have n1_ := M_ (Kd.V_elder' (by (with_reducible repeat (first | apply a3_ | apply a4_ | apply a5_)); exact HO_2.out) (Kd.R_base ho0) hb); have n2_ := M_ (Kd.N_elder' (by (with_reducible repeat (first | apply a6_ | apply a7_ | apply a8_)); exact HO124.out) (Kd.R_base ho0) hb); have n3_ := M_ (Kd.R_lower (Kd.R_newM (M := fun k_ => (w.heap.size ≤ k_)) ho0 (below_size (ws_ HB.out)) (fun k_ h_ => h_)) (below_size (ws_ HB.out))); clear HO_1; clear HO_2; clear HO124; have HO_1 := n0_; have HO_2 := n1_; have HO124 := n2_; have HO127 := n3_; replace BK117 := bb_ BK117 hb; replace HB := wb_ HB hb; clear n0_ n1_ n2_ n3_; (try clear hb); (try clear hb2); (try clear hk); (try clear hi); (try clear ho0); obtain ⟨Ao24, co24, eo24⟩ := Kd.R_slice HO127.out; subst eo24) | ((with_reducible refine gate_callee (f := 79) rfl ?_); refine goesL_ (some 37) rfl rfl Try.func79 (by kernel_rfl) rfl #[.slice Ao24 t125.length co24] rfl (by (try simp only [List.map_toArray, List.map_cons, List.map_nil]); first | done | rfl) ?_; (with_reducible refine (ternary_check.calls _ _ t125 t128 _ ?side1 ?side2 A15.out).mono ?_); (case side1 => exact cl_ (Kd.R_reads' HO127.out).2.2); (case side2 => exact (Kd.R_reads' HO127.out).2.1); rintro e w' ⟨rfl, ⟨nd, rfl⟩⟩; refine ⟨_, rfl, ?_⟩; obtain ⟨hcz25_0, hcz25_1, hcz25_2, hcz25_3, hcz25_4⟩ := cz5_ BK117.out; have hfz25_0 := blk_frozen BK117.out 0; have hfz25_1 := blk_frozen BK117.out 1; have hfz25_2 := blk_frozen BK117.out 2; have hfz25_3 := blk_frozen BK117.out 3; have hfz25_4 := blk_frozen BK117.out 4))
      go_loopg [9, 44] kj5 (fun kq v9 v44 w' => ∃ (x9_2 : List Int) (x44_2 : Int), v44 = .int .i64 x44_2 ∧ Aside0 (ternary_All.l0 kq x9_2 l0_2 (l0_2.length : Int) x44_2 = some (r1, r2)) ∧ Aside0 (kq ≤ kj5) ∧ Aside0 (Kd.R (Kd.int .u8) 5 w' w.heap.size (fun k_ => (w.heap.size ≤ k_)) v9 x9_2) ∧ Aside0 (w'.heap[gb117]? = some (.cells #[.int .i64 a0_0, (.slice A0_1 l0_1.length c0_1), (.slice A0_2 l0_2.length c0_2), (.slice A0_3 l0_3.length c0_3), (.slice A0_4 l0_4.length c0_4)] 26 (0, 0))) ∧ Aside0 (Below w.heap.size w w'))
      case atStart => exact ⟨(t125), (0), (by first | rfl | (simp; done) | (simp [*]; done)), H', ⟨Nat.le_refl _⟩, ⟨by (with_reducible repeat (first | apply a0_ | apply a1_ | apply a2_)); exact Kd.R_mono HO127.out (fun _ hk => hk.1)⟩, ⟨by (with_reducible repeat (first | refine k0_ ?_ _ | refine k1_ ?_ | refine k2_ ?_ _)); exact BK117.out⟩, ⟨by repeat (first | (with_reducible first | exact HB.out | apply b0_ | apply b1_ | apply b2_ | refine below_set ?_ GE117.out) | exact HB.out)⟩⟩
      case round =>
       clear H'
       try clear c1; try clear c2; try clear p2; try clear c5; try clear c5b0; try clear c5b1; try clear c7; try clear c10; try clear c10b0; try clear c10b1; try clear c10b2; try clear c13; try clear c16; try clear c16b0; try clear c16b1; try clear hcz11_0 hcz11_1 hcz11_2 hcz11_3 hcz11_4; try clear hcz12_0 hcz12_1 hcz12_2 hcz12_3 hcz12_4; try clear hcz25_0 hcz25_1 hcz25_2 hcz25_3 hcz25_4; try clear hcz8_0 hcz8_1 hcz8_2 hcz8_3 hcz8_4; try clear hfz11_0 hfz11_1 hfz11_2 hfz11_3 hfz11_4; try clear hfz12_0 hfz12_1 hfz12_2 hfz12_3 hfz12_4; try clear hfz25_0 hfz25_1 hfz25_2 hfz25_3 hfz25_4; try clear hfz8_0 hfz8_1 hfz8_2 hfz8_3 hfz8_4; try clear p2
       obtain ⟨x9_2, x44_2, rfl, HA, HK2, HO_9, BK117, HB⟩ := hrel
       cases gk with
       | zero => exact absurd HA.out (by simp [ternary_All.l0])
       | succ k2 =>
        have H := HA.out
        clear HA
        simp only [ternary_All.l0] at H
        by_cases c26 : x44_2 < (l0_2.length : Int)
        ·rw [if_pos c26] at H
         have c26b0 : decide (x44_2 < (l0_2.length : Int)) = true := decide_eq_true c26
         clear c26
         by_cases c27 : 0 ≤ x44_2
         ·rw [if_pos c27] at H
          have c27b0 : decide (0 ≤ x44_2) = true := decide_eq_true c27
          clear c27
          by_cases c28 : x44_2 < (l0_2.length : Int)
          ·rw [if_pos c28] at H
           have c28b0 : decide (x44_2 < (l0_2.length : Int)) = true := decide_eq_true c28
           clear c28
           replace H := Option.bind_eq_some_iff.mp H
           obtain ⟨t131, A290, H⟩ := H
           replace H : ((ternary_of.f x9_2 ((rd_T69 l0_2 x44_2).f1)).bind fun t132 => ((ternary_and.f k2 t131 t132).bind fun t133 => (if x9_2.length < 140737488355328 then (ternary_All.l0 k2 (x9_2 ++ [t133]) l0_2 (l0_2.length : Int) (wrap64 (x44_2 + 1))) else (none)))) = some (r1, r2) := H
           have A29 := M_ A290
           clear A290
           replace H := Option.bind_eq_some_iff.mp H
           obtain ⟨t132, A300, H⟩ := H
           replace H : ((ternary_and.f k2 t131 t132).bind fun t133 => (if x9_2.length < 140737488355328 then (ternary_All.l0 k2 (x9_2 ++ [t133]) l0_2 (l0_2.length : Int) (wrap64 (x44_2 + 1))) else (none))) = some (r1, r2) := H
           have A30 := M_ A300
           clear A300
           replace H := Option.bind_eq_some_iff.mp H
           obtain ⟨t133, A310, H⟩ := H
           replace H : (if x9_2.length < 140737488355328 then (ternary_All.l0 k2 (x9_2 ++ [t133]) l0_2 (l0_2.length : Int) (wrap64 (x44_2 + 1))) else (none)) = some (r1, r2) := H
           have A31 := M_ A310
           clear A310
           by_cases c32 : x9_2.length < 140737488355328
           ·rw [if_pos c32] at H
            have LMc32 := M_ c32
            clear c32
            obtain ⟨y134, hy134⟩ : ∃ y_ : List Int, y_ = (x9_2 ++ [t133]) := ⟨_, rfl⟩
            replace H : (ternary_All.l0 k2 y134 l0_2 (l0_2.length : Int) (wrap64 (x44_2 + 1))) = some (r1, r2) := by first | (rw [hy134]; with_reducible exact H) | (have H2_ := (Option.bind_some _ _).symm.trans H; rw [hy134]; with_reducible exact H2_) | (have H2_ := (Option.bind_some _ _).symm.trans H; with_reducible exact H2_) | with_reducible exact H | (rw [hy134]; exact H) | exact H
            have Ny134 := M_ hy134
            clear hy134
            have H' := M_ H
            clear H
            have p129 : 0 ≤ (x44_2 : Int) := of_decide_eq_true (by first | (with_reducible assumption) | assumption)
            have q129 : x44_2 < (l0_2.length : Int) := of_decide_eq_true (by first | (with_reducible assumption) | assumption)
            obtain ⟨ad129, e129, hx129_0, hx129_1⟩ := at_T69 HR0_2.out x44_2 p129 q129
            cases e129
            replace hx129_0 := (HB.out.cell (World.block_lt_of_cell? w _ hx129_0)).trans hx129_0
            replace hx129_1 := (HB.out.cell (World.block_lt_of_cell? w _ hx129_1)).trans hx129_1
            replace p129 := eq_true p129
            replace q129 := eq_true q129
            try go_wp2_with (first | ((with_reducible refine gate_dst (N := 12) rfl ?_); (try (refine gate_guard (by rfl) ?_; dsimp only)); refine box_event ?hg (N := 12) ?hd (cs := #[.int .i64 0, .int .i64 0]) (t := 69) ?hr ?_; (case hd => rfl); (case hg => rfl); (case hr => first | (go_simp; done) | (go_simp; rfl)); intro gb130 hg w33 hbox hb; have n3_ := M_ (hbox); have n4_ := M_ ((by rw [hg]; exact (below_size (ws_ HB.out)) : w.heap.size ≤ gb130)); have n5_ := M_ ((by rw [hg]; exact (below_size (ws_ HB.out)) : w.heap.size ≤ gb130)); have n6_ := M_ ((by rw [hg]; exact Nat.ne_of_lt (blk_lt (bl_ BK117.out)) : gb117 ≠ gb130)); have n7_ := M_ ((by rw [hg]; exact Nat.ne_of_gt (blk_lt (bl_ BK117.out)) : gb130 ≠ gb117)); replace HO_9 := rb_ HO_9 hb; replace BK117 := bb_ BK117 hb; replace HB := wb_ HB hb; have BK130 := n3_; have GW130 := n4_; have GE130 := n5_; have gi130 : Ge _ _ := ⟨GE130.out⟩; have NB117_130 := n6_; have NB130_117 := n7_; clear n3_ n4_ n5_ n6_ n7_; clear hb hbox hg; have hnb34 := NB130_117.out; have hnc34 := NB117_130.out; obtain ⟨hcz35_0, hcz35_1⟩ := cz2_ BK130.out; have hfz35_0 := blk_frozen BK130.out 0; have hfz35_1 := blk_frozen BK130.out 1))
            have n0_ : Aside0 (Kd.R (Kd.int .u8) 5 ((w33.setCell ⟨gb130, 0, none⟩ (.int .i64 ((rd_T69 l0_2 x44_2).f0))).setCell ⟨gb130, 1, none⟩ (.int .i64 ((rd_T69 l0_2 x44_2).f1))) w.heap.size (fun k_ => (w.heap.size ≤ k_)) u9 x9_2) := ⟨by (with_reducible repeat (first | apply a0_ | apply a1_ | apply a2_)); exact Kd.R_mono (Kd.R_far (p := ⟨gb130, 1, none⟩) (Kd.R_far (p := ⟨gb130, 0, none⟩) (Kd.R_types HO_9.out BK130.out (by decide)) (fun _ hk => hk.2) (.int .i64 ((rd_T69 l0_2 x44_2).f0))) (fun _ hk => hk.2) (.int .i64 ((rd_T69 l0_2 x44_2).f1))) (fun _ hk => hk.1)⟩
            have n1_ : Aside0 (((w33.setCell ⟨gb130, 0, none⟩ (.int .i64 ((rd_T69 l0_2 x44_2).f0))).setCell ⟨gb130, 1, none⟩ (.int .i64 ((rd_T69 l0_2 x44_2).f1))).heap[gb117]? = some (.cells #[.int .i64 a0_0, .slice A0_1 l0_1.length c0_1, .slice (some ad129) l0_2.length c0_2, .slice A0_3 l0_3.length c0_3, .slice A0_4 l0_4.length c0_4] 26 (0, 0))) := ⟨by (with_reducible repeat (first | refine k0_ ?_ _ | refine k1_ ?_ | refine k2_ ?_ _)); refine blk_far ?_ NB117_130.out _; (with_reducible repeat (first | refine k0_ ?_ _ | refine k1_ ?_ | refine k2_ ?_ _)); refine blk_far ?_ NB117_130.out _; (with_reducible repeat (first | refine k0_ ?_ _ | refine k1_ ?_ | refine k2_ ?_ _)); exact BK117.out⟩
            have n2_ : Aside0 (((w33.setCell ⟨gb130, 0, none⟩ (.int .i64 ((rd_T69 l0_2 x44_2).f0))).setCell ⟨gb130, 1, none⟩ (.int .i64 ((rd_T69 l0_2 x44_2).f1))).heap[gb130]? = some (.cells #[.int .i64 ((rd_T69 l0_2 x44_2).f0), .int .i64 ((rd_T69 l0_2 x44_2).f1)] 69 (0, 0))) := ⟨by (with_reducible repeat (first | refine k0_ ?_ _ | refine k1_ ?_ | refine k2_ ?_ _)); refine blk_put (cs := #[.int .i64 ((rd_T69 l0_2 x44_2).f0), .int .i64 0]) ?_ 1 _ rfl; (with_reducible repeat (first | refine k0_ ?_ _ | refine k1_ ?_ | refine k2_ ?_ _)); refine blk_put (cs := #[.int .i64 0, .int .i64 0]) ?_ 0 _ rfl; (with_reducible repeat (first | refine k0_ ?_ _ | refine k1_ ?_ | refine k2_ ?_ _)); exact BK130.out⟩
            have n3_ : Aside0 (Below w.heap.size w ((w33.setCell ⟨gb130, 0, none⟩ (.int .i64 ((rd_T69 l0_2 x44_2).f0))).setCell ⟨gb130, 1, none⟩ (.int .i64 ((rd_T69 l0_2 x44_2).f1)))) := ⟨by repeat (first | (with_reducible first | exact HB.out | apply b0_ | apply b1_ | apply b2_ | refine below_set ?_ GE117.out | refine below_set ?_ GE130.out) | exact HB.out)⟩
            (try clear HO_9)
            (try clear BK117)
            (try clear BK130)
            (try clear HB)
            generalize ((w33.setCell ⟨gb130, 0, none⟩ (.int .i64 ((rd_T69 l0_2 x44_2).f0))).setCell ⟨gb130, 1, none⟩ (.int .i64 ((rd_T69 l0_2 x44_2).f1))) = w36 at n0_ n1_ n2_ n3_ ⊢
            have HO_9 := n0_
            have BK117 := n1_
            have BK130 := n2_
            have HB := n3_
            clear n0_ n1_ n2_ n3_
            have n0_ := M_ (Kd.R_drew HO_9.out)
            have n1_ := M_ (blk_drew BK117.out)
            have n2_ := M_ (blk_drew BK130.out)
            have n3_ := M_ (below_drew1 HB.out)
            clear HO_9
            clear BK117
            clear BK130
            clear HB
            have HO_9 := n0_
            have BK117 := n1_
            have BK130 := n2_
            have HB := n3_
            clear n0_ n1_ n2_ n3_
            obtain ⟨Ao38, co38, eo38⟩ := Kd.R_slice HO_9.out
            (first | subst eo38 | (injection eo38 with f1_ f2_ f3_; have f4_ := f1_.symm; have f5_ := f3_.symm; clear f1_ f2_ f3_; subst f4_; subst f5_))
            refine start_ (n := 13) (S := fun w' => w'.cell? ⟨gb130, 0, none⟩ = some (.int .i64 ((rd_T69 l0_2 x44_2).f0)) ∧ w'.cell? ⟨gb130, 1, none⟩ = some (.int .i64 ((rd_T69 l0_2 x44_2).f1))) (ds := []) z0_ (by kernel_rfl) rfl rfl ⟨(blk_cell BK130.out 0).trans rfl, (blk_cell BK130.out 1).trans rfl⟩ (fun hHeld => ?_); refine with_tabW ternary_All.tab13 ternary_All.bits13 (fun HT_ HW_ => ?_)
            generalize w36.drew = w37 at HO_9 BK117 BK130 HB hHeld ⊢
            refine pure_ (i := 0) (N := some 48) (v := ?_) (a' := ?_) z1_ rfl rfl (any_of HT_.out (by kernel_rfl)) (fun _ _ _ h => h) (Or.inl ⟨by rfl, ?_⟩) ?_ ?_
            rotate_left
            ·intro w'
             go_simp
             with_reducible rfl
            rotate_left
            ·simp only [Act.put, e1_, e2_, e3_, i64_w, i32_w]
             rfl
            refine pure_ (i := 1) (N := some 49) (v := ?_) (a' := ?_) z2_ rfl rfl (any_of HT_.out (by kernel_rfl)) (fun _ _ _ h => h) (Or.inl ⟨by rfl, ?_⟩) ?_ ?_
            rotate_left
            ·intro w'
             go_simp
             with_reducible rfl
            rotate_left
            ·simp only [Act.put, e1_, e2_, e3_, i64_w, i32_w]
             rfl
            refine pure_ (i := 2) (N := some 50) (v := ?_) (a' := ?_) z3_ rfl rfl (any_of HT_.out (by kernel_rfl)) (fun _ _ _ h => h) (Or.inl ⟨by rfl, ?_⟩) ?_ ?_
            rotate_left
            ·intro w'
             go_simp
             with_reducible rfl
            rotate_left
            ·simp only [Act.put, e1_, e2_, e3_, i64_w, i32_w]
             rfl
            refine pure_ (i := 5) (N := some 53) (v := ?_) (a' := ?_) z4_ rfl rfl (any_of HT_.out (by kernel_rfl)) (fun _ _ _ h => h) (Or.inl ⟨by rfl, ?_⟩) ?_ ?_
            rotate_left
            ·intro w'
             go_simp
             with_reducible rfl
            rotate_left
            ·simp only [Act.put, e1_, e2_, e3_, i64_w, i32_w]
             rfl
            refine pure_ (i := 6) (N := some 54) (v := ?_) (a' := ?_) z5_ rfl rfl (any_of HT_.out (by kernel_rfl)) (fun _ _ _ h => h) (Or.inl ⟨by rfl, ?_⟩) ?_ ?_
            rotate_left
            ·intro w'
             go_simp
             with_reducible rfl
            rotate_left
            ·simp only [Act.put, e1_, e2_, e3_, i64_w, i32_w]
             rfl
            refine take_ (i := 3) (N := some 51) (v := ?_) (a' := ?_) z6_ rfl rfl (take_ofW HT_.out HW_.out (by kernel_rfl)) (fun _ _ _ h => h) (Or.inl ⟨by rfl, ?_⟩) hHeld ?_ ?_
            rotate_left
            ·rintro w' ⟨s0, s1⟩
             go_simp
             with_reducible rfl
            rotate_left
            ·simp only [Act.put, e1_, e2_, e3_, i64_w, i32_w]
             rfl
            refine take_ (i := 7) (N := some 55) (v := ?_) (a' := ?_) z7_ rfl rfl (take_ofW HT_.out HW_.out (by kernel_rfl)) (fun _ _ _ h => h) (Or.inl ⟨by rfl, ?_⟩) hHeld ?_ ?_
            rotate_left
            ·rintro w' ⟨s0, s1⟩
             go_simp
             with_reducible rfl
            rotate_left
            ·simp only [Act.put, e1_, e2_, e3_, i64_w, i32_w]
             rfl
            refine one_ (i := 4) (N := some 52) z8_ rfl rfl (one_of HT_.out (by kernel_rfl)) (by decide) (fun K hK => ?_)
            refine goes_ Try.func71 (by kernel_rfl) rfl #[.slice Ao38 x9_2.length co38, .int .i64 ((rd_T69 l0_2 x44_2).f0)] (by rfl) rfl rfl (by (try simp only [List.map_toArray, List.map_cons, List.map_nil]); first | done | rfl) ?_
            with_reducible refine (ternary_of.calls _ _ x9_2 ((rd_T69 l0_2 x44_2).f0) t131 _ ?side1 ?side2 A29.out).mono ?_
            (case side1 => exact cl_ (Kd.R_reads' HO_9.out).2.2)
            (case side2 => exact (Kd.R_reads' HO_9.out).2.1)
            rintro e w' ⟨rfl, ⟨nd, rfl⟩⟩
            refine ⟨_, rfl, ?_⟩
            refine hK.out _ _ ⟨(blk_cell BK130.out 0).trans rfl, (blk_cell BK130.out 1).trans rfl⟩ (fun hHeld => ?_)
            clear hK K
            refine norm_ (a' := ?_) ?_ ?_
            rotate_left
            ·show Act.put _ (some 52) _ = _
             simp only [Act.put, e1_, e2_, e3_, i64_w, i32_w]
             rfl
            refine one_ (i := 8) (N := some 56) z9_ rfl rfl (one_of HT_.out (by kernel_rfl)) (by decide) (fun K hK => ?_)
            refine goes_ Try.func71 (by kernel_rfl) rfl #[.slice Ao38 x9_2.length co38, .int .i64 ((rd_T69 l0_2 x44_2).f1)] (by rfl) rfl rfl (by (try simp only [List.map_toArray, List.map_cons, List.map_nil]); first | done | rfl) ?_
            with_reducible refine (ternary_of.calls _ _ x9_2 ((rd_T69 l0_2 x44_2).f1) t132 _ ?side1 ?side2 A30.out).mono ?_
            (case side1 => exact cl_ (Kd.R_reads' HO_9.out).2.2)
            (case side2 => exact (Kd.R_reads' HO_9.out).2.1)
            rintro e w' ⟨rfl, ⟨nd, rfl⟩⟩
            refine ⟨_, rfl, ?_⟩
            refine hK.out _ _ ⟨(blk_cell BK130.out 0).trans rfl, (blk_cell BK130.out 1).trans rfl⟩ (fun hHeld => ?_)
            clear hK K
            refine norm_ (a' := ?_) ?_ ?_
            rotate_left
            ·show Act.put _ (some 56) _ = _
             simp only [Act.put, e1_, e2_, e3_, i64_w, i32_w]
             rfl
            refine one_ (i := 9) (N := some 57) z10_ rfl rfl (one_of HT_.out (by kernel_rfl)) (by decide) (fun K hK => ?_)
            refine goes_ Try.func105 (by kernel_rfl) rfl #[.int .u8 t131, .int .u8 t132] (by rfl) rfl rfl (by (try simp only [List.map_toArray, List.map_cons, List.map_nil]); first | done | rfl) ?_
            with_reducible refine (ternary_and.calls k2 t131 t132 t133 _ A31.out).mono ?_
            rintro e w' ⟨rfl, ⟨nd, rfl⟩⟩
            refine ⟨_, rfl, ?_⟩
            refine hK.out _ _ ⟨(blk_cell BK130.out 0).trans rfl, (blk_cell BK130.out 1).trans rfl⟩ (fun hHeld => ?_)
            clear hK K
            refine norm_ (a' := ?_) ?_ ?_
            rotate_left
            ·show Act.put _ (some 57) _ = _
             simp only [Act.put, e1_, e2_, e3_, i64_w, i32_w]
             rfl
            refine one_ (i := 10) (N := some 58) z11_ rfl rfl (one_of HT_.out (by kernel_rfl)) (by decide) (fun K hK => ?_)
            refine value_ (w1 := ?_) (v := ?_) (by rfl) rfl ?_ ?_
            rotate_left 2
            ·go_simp
             constructor
             ·rfl
             ·rfl
            refine hK.out _ _ ⟨(blk_cell (blk_alloc BK130.out _) 0).trans rfl, (blk_cell (blk_alloc BK130.out _) 1).trans rfl⟩ (fun hHeld => ?_)
            clear hK K
            refine norm_ (a' := ?_) ?_ ?_
            rotate_left
            ·show Act.put _ (some 58) _ = _
             simp only [Act.put, e1_, e2_, e3_, i64_w, i32_w]
             rfl
            refine one_ (i := 11) (N := some 59) z12_ rfl rfl (one_of HT_.out (by kernel_rfl)) (by decide) (fun K hK => ?_)
            refine Kd.R_append_step (Kd.int .u8) (w0 := w) w.heap.size (by rfl) (.tmp 48) (.tmp 58) 70 5 (.int .u8 0) 1 rfl Try.underlying70 info5 rfl (by decide) (by omega) (.slice Ao38 x9_2.length co38) x9_2 t133 [.int .u8 t133] (fun k_ => (w.heap.size ≤ k_)) (fun _ => False) rfl rfl ?aP (fun _ hk => hk.elim) ?aF ?aO ?aB ?aS ?aL ?_
            (case aP => exact rfl)
            (case aB => exact (ws_ HB.out))
            (case aF => exact (fun k_ hk => (Nat.le_trans (below_size (ws_ HB.out)) hk)))
            (case aO => exact (rl_ HO_9.out))
            (case aS => exact (below_size (ws_ HB.out)))
            (case aL => have := LMc32.out; omega)
            intro v135 w39 ho hb hg hat
            rw [← Ny134.out] at ho
            have n0_ := M_ (blk_grown (bl_ BK117.out) hg (Kd.R_ne HO_9.out BK117.out (by decide)))
            have n1_ := M_ (blk_grown (bl_ BK130.out) hg (Kd.R_ne HO_9.out BK130.out (by decide)))
            have n2_ := M_ (hb)
            have n3_ := M_ (ho)
            clear BK117
            clear BK130
            clear HB
            clear HO_9
            have BK117 := n0_
            have BK130 := n1_
            have HB := n2_
            have HO136 := n3_
            clear n0_ n1_ n2_ n3_
            clear ho hb hg hat
            refine hK.out _ _ ⟨(blk_cell BK130.out 0).trans rfl, (blk_cell BK130.out 1).trans rfl⟩ (fun hHeld => ?_)
            clear hK K
            refine norm_ (a' := ?_) ?_ ?_
            rotate_left
            ·show Act.put _ (some 59) _ = _
             simp only [Act.put, e1_, e2_, e3_, i64_w, i32_w]
             rfl
            refine pure_ (i := 12) (N := some 9) (v := ?_) (a' := ?_) z13_ rfl rfl (any_of HT_.out (by kernel_rfl)) (fun _ _ _ h => h) (Or.inl ⟨by rfl, ?_⟩) ?_ ?_
            rotate_left
            ·intro w'
             go_simp
             with_reducible rfl
            rotate_left
            ·simp only [Act.put, e1_, e2_, e3_, i64_w, i32_w]
             rfl
            refine done_ (done_of HT_.out (by kernel_rfl)) ?_
            try go_wp2
            go_roundg k2
            case measure => have := HJ5.out; have := HK2.out; omega
            case rel => exact ⟨(y134), (wrap64 (x44_2 + 1)), (by first | rfl | (simp; done) | (simp [*]; done)), H', ⟨by have := HJ5.out; have := HK2.out; omega⟩, ⟨by (with_reducible repeat (first | apply a0_ | apply a1_ | apply a2_)); exact HO136.out⟩, ⟨by (with_reducible repeat (first | refine k0_ ?_ _ | refine k1_ ?_ | refine k2_ ?_ _)); exact BK117.out⟩, ⟨by repeat (first | (with_reducible first | exact HB.out | apply b0_ | apply b1_ | apply b2_ | refine below_set ?_ GE117.out | refine below_set ?_ GE130.out) | exact HB.out)⟩⟩
           ·rw [if_neg c32] at H
            exact absurd H (by simp)
          ·rw [if_neg c28] at H
           exact absurd H (by simp)
         ·rw [if_neg c27] at H
          exact absurd H (by simp)
        ·rw [if_neg c26] at H
         have c26b0 : decide (x44_2 < (l0_2.length : Int)) = false := decide_eq_false c26
         clear c26
         simp only [Option.some.injEq, Prod.mk.injEq] at H
         obtain ⟨rfl, rfl⟩ := H
         go_wp2
         go_ret2
         exact ⟨_, by first | rfl | (simp [errW_none, errW_some] <;> rfl) | (simp [*, errW_none, errW_some] <;> rfl), by (with_reducible repeat (first | apply a0_ | apply a1_ | apply a2_)); exact HO_9.out, by repeat (first | (with_reducible first | exact HB.out | apply b0_ | apply b1_ | apply b2_ | refine below_set ?_ GE117.out) | exact HB.out)⟩
     ·rw [if_neg c16] at H
      have c16b0 : (t128 == 0) = false := beq_eq_false_iff_ne.mpr c16
      have c16b1 : (t128 != 0) = true := bne_iff_ne.mpr c16
      simp only [Option.some.injEq, Prod.mk.injEq] at H
      obtain ⟨rfl, rfl⟩ := H
      go_wp2_with (first | ((with_reducible refine gate_dst (N := 31) rfl ?_); (try (refine gate_guard (by rfl) ?_; dsimp only)); refine Kd.R_lit (Kd.int .u8) _ 5 ?hg (N := 31) ?hd (xs := ([0] : List Int)) (inner := [.int .u8 0]) (ok := fun _ => True) (okp := fun _ => True) ?hr ?hp (fun _ hk => hk) trivial (Below.refl _ _) (Nat.le_refl _) (by simp) ?_; (case hd => rfl); (case hg => rfl); (case hr => first | (go_simp; done) | (go_simp; rfl)); (case hp => exact (Reps.one (show Kd.M (Kd.int .u8) _ _ _ 0 [.int .u8 0] from rfl) (Reps.none _ _))); intro v120 w40 ho41 hb hg_ hnew_; clear hg_ hnew_; (first | rw [← Ny119.out] at ho41 | (simp only [Int.reduceToNat] at ho41; rw [← Ny119.out] at ho41)); have n0_ := M_ (Kd.V_elder' (by (with_reducible repeat (first | apply a3_ | apply a4_ | apply a5_)); exact HO_1.out) (Kd.R_base ho41) hb); have n1_ := M_ (Kd.V_elder' (by (with_reducible repeat (first | apply a3_ | apply a4_ | apply a5_)); exact HO_2.out) (Kd.R_base ho41) hb); have n2_ := M_ (Kd.R_lower (Kd.R_newM (M := fun k_ => (w.heap.size ≤ k_)) ho41 (below_size (ws_ HB.out)) (fun k_ h_ => h_)) (below_size (ws_ HB.out))); clear HO_1; clear HO_2; have HO_1 := n0_; have HO_2 := n1_; have HO121 := n2_; replace BK117 := bb_ BK117 hb; replace HB := wb_ HB hb; clear n0_ n1_ n2_; clear hb ho41; obtain ⟨Ao42, co42, eo42⟩ := Kd.R_slice HO121.out; subst eo42) | ((with_reducible refine gate_dst (N := 34) rfl ?_); (try (refine gate_guard (by rfl) ?_; dsimp only)); refine Kd.N_lit (Kd.slice 5 (Kd.int .u8)) _ 70 ?hg (N' := 34) ?hd (xs := ([y119, l2, l1] : List (List Int))) (inner := [.slice Ao42 y119.length co42, .slice A2 l2.length c2, .slice A1 l1.length c1]) (ok := (fun k_ => ((P1_ k_ ∨ P2_ k_) ∨ w.heap.size ≤ k_) ∧ k_ ≠ gb117)) (okp := (fun k_ => ((P1_ k_ ∨ P2_ k_) ∨ w.heap.size ≤ k_) ∧ k_ ≠ gb117)) ?hr ?hp (fun _ hk => hk) ((show ∀ k_, w40.heap.size ≤ k_ → (fun k_ => ((P1_ k_ ∨ P2_ k_) ∨ w.heap.size ≤ k_) ∧ k_ ≠ gb117) k_ from fun k_ hk => ⟨(.inr (Nat.le_trans (below_size (ws_ HB.out)) hk)), Kd.freshB (bl_ BK117.out) k_ hk⟩) _ (Nat.le_refl _)) (Below.refl _ _) (Nat.le_refl _) (by simp) ?_; (case hd => rfl); (case hg => rfl); (case hr => first | (go_simp; done) | (go_simp; rfl)); (case hp => exact (Reps.one (show Kd.FK (Kd.slice 5 (Kd.int .u8)) _ _ y119 [.slice Ao42 y119.length co42] from (Kd.FK_slice_mk (Kd.R_reads' (Kd.R_mono (ok' := (fun k_ => ((P1_ k_ ∨ P2_ k_) ∨ w.heap.size ≤ k_) ∧ k_ ≠ gb117)) (Kd.R_types (HO121.out) BK117.out (by decide)) (fun k_ hk => ⟨(.inr (hk.1.1)), hk.2⟩))).2.1 (Kd.R_F (Kd.R_mono (ok' := (fun k_ => ((P1_ k_ ∨ P2_ k_) ∨ w.heap.size ≤ k_) ∧ k_ ≠ gb117)) (Kd.R_types (HO121.out) BK117.out (by decide)) (fun k_ hk => ⟨(.inr (hk.1.1)), hk.2⟩))))) (Reps.one (show Kd.FK (Kd.slice 5 (Kd.int .u8)) _ _ l2 [.slice A2 l2.length c2] from (Kd.FK_slice_mk (Kd.V_reads' (Kd.V_mono (ok' := (fun k_ => ((P1_ k_ ∨ P2_ k_) ∨ w.heap.size ≤ k_) ∧ k_ ≠ gb117)) (HO_2.out) (fun k_ hk => ⟨hk.1.1, hk.1.2⟩))).2.1 (Kd.V_F (Kd.V_mono (ok' := (fun k_ => ((P1_ k_ ∨ P2_ k_) ∨ w.heap.size ≤ k_) ∧ k_ ≠ gb117)) (HO_2.out) (fun k_ hk => ⟨hk.1.1, hk.1.2⟩))))) (Reps.one (show Kd.FK (Kd.slice 5 (Kd.int .u8)) _ _ l1 [.slice A1 l1.length c1] from (Kd.FK_slice_mk (Kd.V_reads' (Kd.V_mono (ok' := (fun k_ => ((P1_ k_ ∨ P2_ k_) ∨ w.heap.size ≤ k_) ∧ k_ ≠ gb117)) (HO_1.out) (fun k_ hk => ⟨hk.1.1, hk.1.2⟩))).2.1 (Kd.V_F (Kd.V_mono (ok' := (fun k_ => ((P1_ k_ ∨ P2_ k_) ∨ w.heap.size ≤ k_) ∧ k_ ≠ gb117)) (HO_1.out) (fun k_ hk => ⟨hk.1.1, hk.1.2⟩))))) (Reps.none _ _))))); intro v123 w43 ho44 hb hg_ hnew_; clear hg_ hnew_; (first | rw [← Ny122.out] at ho44 | (simp only [Int.reduceToNat] at ho44; rw [← Ny122.out] at ho44)); have n0_ := M_ (Kd.V_elder' (by (with_reducible repeat (first | apply a3_ | apply a4_ | apply a5_)); exact HO_1.out) (Kd.N_base ho44) hb); have n1_ := M_ (Kd.V_elder' (by (with_reducible repeat (first | apply a3_ | apply a4_ | apply a5_)); exact HO_2.out) (Kd.N_base ho44) hb); have n2_ := M_ (Kd.N_lower ho44 (below_size (ws_ HB.out))); clear HO_1; clear HO_2; clear HO121; have HO_1 := n0_; have HO_2 := n1_; have HO124 := n2_; replace BK117 := bb_ BK117 hb; replace HB := wb_ HB hb; clear n0_ n1_ n2_; clear hb ho44; obtain ⟨Ao45, co45, eo45⟩ := Kd.N_slice HO124.out; subst eo45) | ((with_reducible refine gate_callee (f := 104) rfl ?_); refine goesL_ (some 35) rfl rfl Try.func104 (by kernel_rfl) rfl #[.slice Ao45 y122.length co45] rfl (by (try simp only [List.map_toArray, List.map_cons, List.map_nil]); first | done | rfl) ?_; (with_reducible refine (slices_Concat_uint8_uint8.calls _ _ y122 t125 _ ?side1 ?side2 A14.out).mono ?_); (case side1 => exact cl_ (Kd.N_reads' HO124.out).2.2); (case side2 => exact (Kd.N_reads' HO124.out).2.1); rintro e w46 ⟨v126, rfl, ho0, hb⟩; refine ⟨_, rfl, ?_⟩; have n0_ := M_ (Kd.V_elder' (by (with_reducible repeat (first | apply a3_ | apply a4_ | apply a5_)); exact HO_1.out) (Kd.R_base ho0) hb); have n1_ := M_ (Kd.V_elder' (by (with_reducible repeat (first | apply a3_ | apply a4_ | apply a5_)); exact HO_2.out) (Kd.R_base ho0) hb); have n2_ := M_ (Kd.N_elder' (by (with_reducible repeat (first | apply a6_ | apply a7_ | apply a8_)); exact HO124.out) (Kd.R_base ho0) hb); have n3_ := M_ (Kd.R_lower (Kd.R_newM (M := fun k_ => (w.heap.size ≤ k_)) ho0 (below_size (ws_ HB.out)) (fun k_ h_ => h_)) (below_size (ws_ HB.out))); clear HO_1; clear HO_2; clear HO124; have HO_1 := n0_; have HO_2 := n1_; have HO124 := n2_; have HO127 := n3_; replace BK117 := bb_ BK117 hb; replace HB := wb_ HB hb; clear n0_ n1_ n2_ n3_; (try clear hb); (try clear hb2); (try clear hk); (try clear hi); (try clear ho0); obtain ⟨Ao47, co47, eo47⟩ := Kd.R_slice HO127.out; subst eo47) | ((with_reducible refine gate_callee (f := 79) rfl ?_); refine goesL_ (some 37) rfl rfl Try.func79 (by kernel_rfl) rfl #[.slice Ao47 t125.length co47] rfl (by (try simp only [List.map_toArray, List.map_cons, List.map_nil]); first | done | rfl) ?_; (with_reducible refine (ternary_check.calls _ _ t125 t128 _ ?side1 ?side2 A15.out).mono ?_); (case side1 => exact cl_ (Kd.R_reads' HO127.out).2.2); (case side2 => exact (Kd.R_reads' HO127.out).2.1); rintro e w' ⟨rfl, ⟨nd, rfl⟩⟩; refine ⟨_, rfl, ?_⟩))
      go_ret2
      exact ⟨_, by first | rfl | (simp [errW_none, errW_some] <;> rfl) | (simp [*, errW_none, errW_some] <;> rfl), by first | exact Kd.R_nil _ _ _ _ _ | exact Kd.N_nil _ _ _ _ _ | exact Kd.V_nil _ _ _ _ _ | exact Kd.Q_nil _ _ _ _ _ | exact Kd.S_nil _ _ _ _ _, by repeat (first | (with_reducible first | exact HB.out | apply b0_ | apply b1_ | apply b2_ | refine below_set ?_ GE117.out) | exact HB.out)⟩
 ·rw [if_neg c5] at H
  have c5b0 : (t118 == 0) = false := beq_eq_false_iff_ne.mpr c5
  have c5b1 : (t118 != 0) = true := bne_iff_ne.mpr c5
  simp only [Option.some.injEq, Prod.mk.injEq] at H
  obtain ⟨rfl, rfl⟩ := H
  go_enter Try.func70, Try.ntmps70
  go_wp2_with (first | ((with_reducible refine gate_dst (N := 3) rfl ?_); (try (refine gate_guard (by rfl) ?_; dsimp only)); refine box_event ?hg (N := 3) ?hd (cs := #[.int .i64 a0_0, .slice A0_1 l0_1.length c0_1, .slice A0_2 l0_2.length c0_2, .slice A0_3 l0_3.length c0_3, .slice A0_4 l0_4.length c0_4]) (t := 26) ?hr ?_; (case hd => rfl); (case hg => rfl); (case hr => first | (go_simp; done) | (go_simp; rfl)); intro gb117 hg w48 hbox hb; have n0_ := M_ (Kd.V_below (Kd.V_elderB (by (with_reducible repeat (first | apply a3_ | apply a4_ | apply a5_)); exact HO1.out) gb117 (Nat.le_of_eq hg.symm)) hb); have n1_ := M_ (Kd.V_below (Kd.V_elderB (by (with_reducible repeat (first | apply a3_ | apply a4_ | apply a5_)); exact HO2.out) gb117 (Nat.le_of_eq hg.symm)) hb); have n3_ := M_ (hbox); have n4_ := M_ ((by rw [hg]; exact (below_size (wl_ HB.out)) : w.heap.size ≤ gb117)); have n5_ := M_ ((by rw [hg]; exact (below_size (wl_ HB.out)) : w.heap.size ≤ gb117)); clear HO1; clear HO2; have HO1 := n0_; have HO2 := n1_; replace HB := wb_ HB hb; have BK117 := n3_; have GW117 := n4_; have GE117 := n5_; have gi117 : Ge _ _ := ⟨GE117.out⟩; clear n0_ n1_ n3_ n4_ n5_; clear hb hbox hg; obtain ⟨hcz49_0, hcz49_1, hcz49_2, hcz49_3, hcz49_4⟩ := cz5_ BK117.out; have hfz49_0 := blk_frozen BK117.out 0; have hfz49_1 := blk_frozen BK117.out 1; have hfz49_2 := blk_frozen BK117.out 2; have hfz49_3 := blk_frozen BK117.out 3; have hfz49_4 := blk_frozen BK117.out 4) | ((with_reducible refine gate_callee (f := 59) rfl ?_); refine goesL_ (some 14) rfl rfl Try.func59 (by kernel_rfl) rfl #[.agg #[.int .i64 a0_0, .slice A0_1 l0_1.length c0_1, .slice A0_2 l0_2.length c0_2, .slice A0_3 l0_3.length c0_3, .slice A0_4 l0_4.length c0_4]] rfl (by (try simp only [List.map_toArray, List.map_cons, List.map_nil]); first | done | rfl) ?_; (with_reducible refine (gates_Check.calls a0_0 _ _ l0_1 _ _ l0_2 _ _ l0_3 _ _ l0_4 t118 _ ?side1 ?side2 ?side3 ?side4 ?side5 ?side6 ?side7 ?side8 A4.out).mono ?_); (case side1 => exact cl_ (Kd.C_below HR0_1.out HB.out)); (case side2 => exact HC0_1.out); (case side3 => exact cl_ (Kd.C_below HR0_2.out HB.out)); (case side4 => exact HC0_2.out); (case side5 => exact cl_ (Kd.C_below HR0_3.out HB.out)); (case side6 => exact HC0_3.out); (case side7 => exact cl_ (Kd.C_below HR0_4.out HB.out)); (case side8 => exact HC0_4.out); rintro e w50 ⟨rfl, hb⟩; refine ⟨_, rfl, ?_⟩; have n0_ := M_ (Kd.V_below (by (with_reducible repeat (first | apply a3_ | apply a4_ | apply a5_)); exact HO1.out) hb); have n1_ := M_ (Kd.V_below (by (with_reducible repeat (first | apply a3_ | apply a4_ | apply a5_)); exact HO2.out) hb); clear HO1; clear HO2; have HO1 := n0_; have HO2 := n1_; replace BK117 := bb_ BK117 hb; replace HB := wb_ HB hb; clear n0_ n1_; (try clear hb); (try clear hb2); (try clear hk); (try clear hi)))
  go_ret2
  exact ⟨_, by first | rfl | (simp [errW_none, errW_some] <;> rfl) | (simp [*, errW_none, errW_some] <;> rfl), by first | exact Kd.R_nil _ _ _ _ _ | exact Kd.N_nil _ _ _ _ _ | exact Kd.V_nil _ _ _ _ _ | exact Kd.Q_nil _ _ _ _ _ | exact Kd.S_nil _ _ _ _ _, by repeat (first | (with_reducible first | exact HB.out | apply b0_ | apply b1_ | apply b2_ | refine below_set ?_ GE117.out) | exact HB.out)⟩

end Go.Proofs.Ytmcdanpecajklaa.QTernsimValues
