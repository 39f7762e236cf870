-- Made by wip/myprint.sh (a patched print): a text of this session's own.
import Derived.Test.YtnicmgakboghpaaQClauseImpliesx0
import Derived.Test.YtnicmgakboghpaaQClauseImpliesx3
namespace Go.Proofs.Ytnicmgakboghpaa.QClauseImplies
open Go.RowKit Go.Proofs.YtnicmgakboghpaaW.PrintWords Go.Proofs.YtnicmgakboghpaaW.PrintLast Go.Proofs.YtnicmgakboghpaaW.PrintMore
attribute [local go_sem] max2_int min2_int max_two min_two max_three min_three max_four min_four   -- for this text's walks alone
set_option linter.unusedVariables false
set_option linter.unusedSimpArgs false

/-! ### slices_Index_int_int: function 46 -/
def slices_Index_int_int.l0 : Nat → List Int → Int → Int → Int → Option (Int)
  | 0, _, _, _, _ => none
  | k + 1, x0, x1, x7, x8 => if x8 < x7 then (if 0 ≤ x8 then (if x8 < (x0.length : Int) then (if x1 = (rd x0 x8) then (some x8) else (slices_Index_int_int.l0 k x0 x1 x7 (wrap64 (x8 + 1)))) else (none)) else (none)) else (some (-1))
def slices_Index_int_int.f (k : Nat) (l0 : List Int) (a1 : Int) : Option (Int) := slices_Index_int_int.l0 k l0 a1 (l0.length : Int) 0
theorem slices_Index_int_int.mono_l : ∀ k, (∀ y0 y1 y2 y3, LeO (slices_Index_int_int.l0 k y0 y1 y2 y3) (slices_Index_int_int.l0 (k + 1) y0 y1 y2 y3))
  | 0 => fun _ _ _ _ r h => by simp [slices_Index_int_int.l0] at h
  | k + 1 => by
    have ih0 := slices_Index_int_int.mono_l k
    · intro y0 y1 y2 y3
      unfold slices_Index_int_int.l0
      repeat' first
      | (with_reducible exact ih0 _ _ _ _)
      | (with_reducible exact LeO.refl _)
      | (with_reducible exact LeO.none _)
      | (with_reducible refine LeO.ite ?_ ?_)
      | (with_reducible refine LeO.bind ?_ (fun _ => ?_))
      | exact ih0 _ _ _ _
      | exact LeO.none _
      | refine LeO.ite ?_ ?_
      | refine LeO.bind ?_ (fun _ => ?_)
theorem slices_Index_int_int.mono : ∀ a0 a1 k, LeO (slices_Index_int_int.f k a0 a1) (slices_Index_int_int.f (k + 1) a0 a1) := by
  intro a0 a1 k
  have ih0 := slices_Index_int_int.mono_l k
  unfold slices_Index_int_int.f
  repeat' first
      | (with_reducible exact ih0 _ _ _ _)
      | (with_reducible exact LeO.refl _)
      | (with_reducible exact LeO.none _)
      | (with_reducible refine LeO.ite ?_ ?_)
      | (with_reducible refine LeO.bind ?_ (fun _ => ?_))
      | exact ih0 _ _ _ _
      | exact LeO.none _
      | refine LeO.ite ?_ ?_
      | refine LeO.bind ?_ (fun _ => ?_)
set_option maxHeartbeats 8000000 in
set_option maxRecDepth 100000 in
theorem slices_Index_int_int.calls (k : Nat) (A0 : Option Addr) (c0 : Nat) (l0 : List Int) (a1 : Int) (r : Int) (w : World) (hr0 : Kd.C (Kd.int .i64) w A0 l0.length l0) (hc0 : l0.length ≤ c0) (h : slices_Index_int_int.f k l0 a1 = some r) :
    Calls Try.prog 46 #[.slice A0 l0.length c0, .int .i64 a1] w fun e w' => e = .returned (.int .i64 r) ∧ Drawn0 w w' := by
  have HR0 := Aside0.mk hr0
  have HC0 := Aside0.mk hc0
  clear hr0 hc0
  have H : (slices_Index_int_int.l0 k l0 a1 (l0.length : Int) 0) = some r := h
  clear h
  have H' := Aside0.mk H
  clear H
  go_enter Try.func46, Try.ntmps46
  go_wp2
  go_loopg [8] k (fun kq v8 w' => ∃ (x8_1 : Int), v8 = .int .i64 x8_1 ∧ Aside0 (slices_Index_int_int.l0 kq l0 a1 (l0.length : Int) x8_1 = some r) ∧ Aside0 (kq ≤ k) ∧ Drawn0 w w')
  case atStart => exact ⟨(0), (by first | rfl | (simp; done) | (simp [*]; done)), H', ⟨Nat.le_refl _⟩, by repeat (first | exact Drawn0.refl _ | apply Drawn0.step)⟩
  case round =>
    clear H'
    try clear p2
    obtain ⟨x8_1, rfl, HA, HK1, ⟨m1, rfl⟩⟩ := hrel
    cases gk with
    | zero => exact absurd HA.out (by simp [slices_Index_int_int.l0])
    | succ k1 =>
      have H := HA.out
      clear HA
      simp only [slices_Index_int_int.l0] at H
      by_cases c3 : x8_1 < (l0.length : Int)
      · rw [if_pos c3] at H
        have c3b0 : decide (x8_1 < (l0.length : Int)) = true := decide_eq_true c3
        clear c3
        by_cases c4 : 0 ≤ x8_1
        · rw [if_pos c4] at H
          have c4b0 : decide (0 ≤ x8_1) = true := decide_eq_true c4
          clear c4
          by_cases c5 : x8_1 < (l0.length : Int)
          · rw [if_pos c5] at H
            have c5b0 : decide (x8_1 < (l0.length : Int)) = true := decide_eq_true c5
            clear c5
            by_cases c6 : a1 = (rd l0 x8_1)
            · rw [if_pos c6] at H
              have c6b0 : (a1 == (rd l0 x8_1)) = true := beq_iff_eq.mpr c6
              have c6b1 : (a1 != (rd l0 x8_1)) = false := bne_eq_false_iff_eq.mpr c6
              clear c6
              obtain rfl := Option.some.inj H
              have p134 : 0 ≤ (x8_1 : Int) := of_decide_eq_true (by first | (with_reducible assumption) | assumption)
              have q134 : x8_1 < (l0.length : Int) := of_decide_eq_true (by first | (with_reducible assumption) | assumption)
              obtain ⟨ad134, e134, hx134_0⟩ := Kd.at_int HR0.out x8_1 p134 q134
              cases e134
              replace p134 := eq_true p134
              replace q134 := eq_true q134
              go_wp2
              go_ret
              exact ⟨by first | rfl | (simp; done) | (simp [*]; done), by repeat (first | exact Drawn0.refl _ | apply Drawn0.step)⟩
            · rw [if_neg c6] at H
              have c6b0 : (a1 == (rd l0 x8_1)) = false := beq_eq_false_iff_ne.mpr c6
              have c6b1 : (a1 != (rd l0 x8_1)) = true := bne_iff_ne.mpr c6
              have H' := Aside0.mk H
              clear H
              have p134 : 0 ≤ (x8_1 : Int) := of_decide_eq_true (by first | (with_reducible assumption) | assumption)
              have q134 : x8_1 < (l0.length : Int) := of_decide_eq_true (by first | (with_reducible assumption) | assumption)
              obtain ⟨ad134, e134, hx134_0⟩ := Kd.at_int HR0.out x8_1 p134 q134
              cases e134
              replace p134 := eq_true p134
              replace q134 := eq_true q134
              go_wp2
              go_roundg k1
              case measure => have := HK1.out; omega
              case rel => exact ⟨(wrap64 (x8_1 + 1)), (by first | rfl | (simp; done) | (simp [*]; done)), H', ⟨by have := HK1.out; omega⟩, by repeat (first | exact Drawn0.refl _ | apply Drawn0.step)⟩
          · rw [if_neg c5] at H
            exact absurd H (by simp)
        · rw [if_neg c4] at H
          exact absurd H (by simp)
      · rw [if_neg c3] at H
        have c3b0 : decide (x8_1 < (l0.length : Int)) = false := decide_eq_false c3
        clear c3
        obtain rfl := Option.some.inj H
        go_wp2
        go_ret
        exact ⟨by first | rfl | (simp; done) | (simp [*]; done), by repeat (first | exact Drawn0.refl _ | apply Drawn0.step)⟩

/-! ### slices_Contains_int_int: function 35 -/
def slices_Contains_int_int.f (k : Nat) (l0 : List Int) (a1 : Int) : Option (Bool) := (slices_Index_int_int.f k l0 a1).bind fun t135 => (some (decide (t135 ≥ 0)))
theorem slices_Contains_int_int.mono : ∀ a0 a1 k, LeO (slices_Contains_int_int.f k a0 a1) (slices_Contains_int_int.f (k + 1) a0 a1) := by
  intro a0 a1 k
  unfold slices_Contains_int_int.f
  repeat' first
      | (with_reducible exact slices_Index_int_int.mono _ _ _)
      | (with_reducible exact LeO.refl _)
      | (with_reducible exact LeO.none _)
      | (with_reducible refine LeO.ite ?_ ?_)
      | (with_reducible refine LeO.bind ?_ (fun _ => ?_))
      | exact slices_Index_int_int.mono _ _ _
      | exact LeO.none _
      | refine LeO.ite ?_ ?_
      | refine LeO.bind ?_ (fun _ => ?_)
set_option maxHeartbeats 8000000 in
set_option maxRecDepth 100000 in
theorem slices_Contains_int_int.calls (k : Nat) (A0 : Option Addr) (c0 : Nat) (l0 : List Int) (a1 : Int) (r : Bool) (w : World) (hr0 : Kd.C (Kd.int .i64) w A0 l0.length l0) (hc0 : l0.length ≤ c0) (h : slices_Contains_int_int.f k l0 a1 = some r) :
    Calls Try.prog 35 #[.slice A0 l0.length c0, .int .i64 a1] w fun e w' => e = .returned (.bool r) ∧ Drawn0 w w' := by
  have HR0 := Aside0.mk hr0
  have HC0 := Aside0.mk hc0
  clear hr0 hc0
  have H : ((slices_Index_int_int.f k l0 a1).bind fun t135 => (some (decide (t135 ≥ 0)))) = some r := h
  clear h
  replace H := Option.bind_eq_some_iff.mp H
  obtain ⟨t135, A30, H⟩ := H
  replace H : (some (decide (t135 ≥ 0))) = some r := H
  have A3 := Aside0.mk A30
  clear A30
  obtain rfl := Option.some.inj H
  go_enter Try.func35, Try.ntmps35
  go_wp2_with (first | ((with_reducible refine gate_callee (f := 46) rfl ?_); refine goesL_ (some 7) rfl rfl Try.func46 (by kernel_rfl) rfl #[.slice A0 l0.length c0, .int .i64 a1] rfl (by (try simp only [List.map_toArray, List.map_cons, List.map_nil]); first | done | rfl | (simp only [List.length_drop, List.length_take]; rfl)) ?_; (with_reducible refine (slices_Index_int_int.calls k _ _ l0 a1 t135 _ ?side1 ?side2 A3.out).mono ?_); (case side1 => repeat (first | exact HR0.out | (with_reducible refine Kd.C_alloc ?_ _) | (with_reducible refine Kd.C_drewN ?_ _) | (with_reducible refine Kd.C_drew ?_))); (case side2 => exact HC0.out); rintro e w' ⟨rfl, ⟨nd, rfl⟩⟩; refine ⟨_, rfl, ?_⟩))
  go_ret
  exact ⟨by first | rfl | (simp; done) | (simp [*]; done), by repeat (first | exact Drawn0.refl _ | apply Drawn0.step)⟩

/-! ### slices_Concat_int_int: function 37, by hand -/
theorem infoIC : (Try.prog.info? 3).map (fun i => (i.zero, i.size, i.bytes)) = some (some (.int .i64 0), 1, 8) := by kernel_rfl
theorem cutZeroI (A : Option Addr) (len c : Nat) (h : len ≤ c) (W : World) : (Instr.slice 22 (.slice A len c) none (some (.int .i64 0)) none).run Try.prog W = .ok (.slice A 0 c) W := by
  obtain ⟨i0, hi, hzz⟩ := Option.map_eq_some_iff.1 infoIC
  simp only [Prod.mk.injEq] at hzz
  have := (print_take_of (Value.int .i64) (0 : Int) 22 3 .i64 Try.underlying22 hi hzz.2.1 A c (List.replicate len (0 : Int)) 0 (by omega) (by simp) (by simpa using h)).1 W
  simpa using this
set_option maxHeartbeats 2000000 in
set_option maxRecDepth 100000 in
theorem growNilI_calls (n : Int) (w : World) (h0 : 0 ≤ n) (h1 : n ≤ 1000000000) :
    Calls Try.prog 48 #[.slice none 0 0, .int .i64 n] w fun e w' => ∃ v, e = .returned v ∧ Kd.R (Kd.int .i64) 3 w' w.heap.size (fun _ => True) v [] ∧ Below w.heap.size w w' := by
  have hu22 := Try.underlying22
  have hu3 := Try.underlying3
  have hn : decide (n < 0) = false := decide_eq_false (by omega)
  by_cases c : 0 < n
  · have cb : decide (0 < n) = true := decide_eq_true c
    go_enter Try.func48, Try.ntmps48
    go_wp2_with (at_builtin; refine Kd.R_append_zeros (Kd.int .i64) (w0 := w) w.heap.size rfl _ _ 22 _ 3 (.int .i64 0) 8 rfl hu22 Try.underlying3 infoIC rfl (by decide) (by decide) (.slice none 0 0) [] 0 n (fun _ => True) rfl rfl rfl (fun _ _ => trivial) (Kd.R_nil _ _ _ _ _) h0 (Below.refl _ _) (Nat.le_refl _) (by simp; omega) ?_; intro v1 w1 HO hb hg hat; clear hg hat; obtain ⟨A1, c1, rfl, hl1, hr1⟩ := Kd.R_reads HO; have HO := Aside0.mk HO; have hcut := cutZeroI A1 _ c1 hl1; clear hr1 hl1; have HB := Aside0.mk hb; clear hb)
    go_ret
    exact ⟨_, rfl, Kd.R_take HO.out (Nat.zero_le _), HB.out⟩
  · have cb : decide (0 < n) = false := decide_eq_false c
    go_enter Try.func48, Try.ntmps48
    go_wp2
    go_ret
    exact ⟨_, rfl, Kd.R_nil _ _ _ _ _, Below.refl _ _⟩
def slices_Concat_int_int.f (l0 : List (List Int)) : Option (List Int) := if l0.flatten.length ≤ 1000000000 then some l0.flatten else none
theorem flatI_take (ll : List (List Int)) (i : Nat) (h : i < ll.length) : (ll.take (i + 1)).flatten = (ll.take i).flatten ++ ll.getD i [] := by
  rw [List.take_succ_eq_append_getElem h, List.flatten_append]
  simp [List.getD, h]
theorem flatI_take_le (ll : List (List Int)) (i : Nat) : (ll.take i).flatten.length ≤ ll.flatten.length := by
  have : ll.flatten = (ll.take i).flatten ++ (ll.drop i).flatten := by rw [← List.flatten_append, List.take_append_drop]
  rw [this, List.length_append]; omega
theorem atI_rows {w : World} {A : Option Addr} {ll : List (List Int)} (h : Kd.C (Kd.slice 3 (Kd.int .i64)) w A ll.length ll) (i : Nat) (hi : i < ll.length) :
    ∃ ad A1 c1, A = some ad ∧ w.cell? (ad.add i) = some (.slice A1 (ll.getD i []).length c1) ∧ (ll.getD i []).length ≤ c1 ∧ Kd.C (Kd.int .i64) w A1 (ll.getD i []).length (ll.getD i []) := by
  obtain ⟨ad, c, e, _, hK, hc0⟩ := Kd.C_get h [] (i : Int) (by omega) (by omega)
  obtain ⟨A1, c1, rfl, hl1, hC1⟩ := hK
  have hx : w.cell? (ad.add (i * 1 + 0)) = some (.slice A1 (ll.getD i []).length c1) := hc0 0 _ rfl
  rw [Nat.mul_one, Nat.add_zero] at hx
  exact ⟨ad, A1, c1, e, hx, hl1, hC1⟩
set_option maxHeartbeats 4000000 in
set_option maxRecDepth 100000 in
theorem slices_Concat_int_int.calls (A0 : Option Addr) (c0 : Nat) (l0 : List (List Int)) (r : List Int) (w : World) (hr0 : Kd.C (Kd.slice 3 (Kd.int .i64)) w A0 l0.length l0) (hc0 : l0.length ≤ c0) (h : slices_Concat_int_int.f l0 = some r) :
    Calls Try.prog 37 #[.slice A0 l0.length c0] w fun e w' => ∃ v1_ : Value, e = .returned (v1_) ∧ Kd.R (Kd.int .i64) 3 w' w.heap.size (fun _ => True) v1_ r ∧ Below w.heap.size w w' := by
  have hu22 := Try.underlying22
  have hu3 := Try.underlying3
  unfold slices_Concat_int_int.f at h
  split at h
  · rename_i hb
    obtain rfl := Option.some.inj h
    have HR := Aside0.mk hr0
    have HN := hr0.2.1
    have HT := Aside0.mk hb
    clear hr0 hb h
    go_enter Try.func37, Try.ntmps37
    go_wp2
    go_loopg [3, 11] (l0.length + 1) (fun kq v3 v11 w' => ∃ (i : Nat) (s : Int), v11 = .int .i64 (i : Int) ∧ v3 = .int .i64 s ∧ Aside0 (i ≤ l0.length ∧ kq + i = l0.length + 1 ∧ s = ((l0.take i).flatten.length : Int)) ∧ Aside0 (Drawn0 w w'))
    case atStart => exact ⟨0, 0, by simp, by simp, ⟨by omega, by omega, by simp⟩, ⟨Drawn0.refl _⟩⟩
    case round =>
      obtain ⟨i, s, rfl, rfl, HI, HD⟩ := hrel
      obtain ⟨⟨n1, rfl⟩⟩ := HD.out
      by_cases c : i < l0.length
      · have cb : decide (i < l0.length) = true := decide_eq_true c
        obtain ⟨ad, A1, c1, rfl, hx, hl1, hC1⟩ := atI_rows HR.out i c
        have hf := flatI_take l0 i c
        have hle := flatI_take_le l0 (i + 1)
        have hT := HT.out
        rw [hf, List.length_append] at hle
        have hs := HI.out.2.2
        have b0 : 0 ≤ s := by omega
        have b1 : s + ((l0.getD i []).length : Int) ≤ 1000000000 := by omega
        have b2 : decide (s + ((l0.getD i []).length : Int) < 0) = false := decide_eq_false (by omega)
        have HS : Aside0 (s + ((l0.getD i []).length : Int) = ((l0.take (i + 1)).flatten.length : Int)) := ⟨by rw [hf, List.length_append]; omega⟩
        have b3 : 0 ≤ s + ((l0.getD i []).length : Int) := by omega
        clear hf hle hT hs hC1 hl1
        generalize (l0.getD i []).length = q at hx b1 b2 HS b3
        go_wp2
        go_roundg (gk - 1)
        case rel => exact ⟨i + 1, s + (q : Int), by go_num, rfl, ⟨by omega, by have := HI.out; omega, HS.out⟩, ⟨⟨⟨_, rfl⟩⟩⟩⟩
        case measure => have := HI.out; omega
      · have cb : decide (i < l0.length) = false := decide_eq_false c
        have hs : s = (l0.flatten.length : Int) := by
          have := HI.out.2.2
          rw [List.take_of_length_le (by omega)] at this
          exact this
        have hT := HT.out
        have b0 : 0 ≤ s := by omega
        have b1 : s ≤ 1000000000 := by omega
        clear hs hT
        go_upto_region 10 with (go_at_call 48; (with_reducible refine (growNilI_calls s _ b0 b1).mono ?_); rintro e w1 ⟨v1, rfl, hR1, hb1⟩; have HV := Aside0.mk hR1; have HB := Aside0.mk (below_step (pw_below_drewN (Below.refl _ w) _) hb1); clear hR1 hb1)
        go_wp2
        go_loopg [6, 27] (l0.length + 1) (fun kq v6 v27 w' => ∃ (i : Nat), v27 = .int .i64 (i : Int) ∧ Aside0 (i ≤ l0.length ∧ kq + i = l0.length + 1) ∧ Aside0 (Kd.R (Kd.int .i64) 3 w' w.heap.size (fun _ => True) v6 (l0.take i).flatten) ∧ Aside0 (Below w.heap.size w w'))
        case atStart => exact ⟨0, by simp, ⟨by omega, by omega⟩, ⟨by simpa using HV.out⟩, HB⟩
        case round =>
          clear HV HB
          obtain ⟨j, rfl, HJ, HV, HB⟩ := hrel
          by_cases d : j < l0.length
          · have db : decide (j < l0.length) = true := decide_eq_true d
            obtain ⟨ad, A1, c1, rfl, hx, hl1, hC1⟩ := atI_rows (Kd.C_below HR.out HB.out) j d
            have HC1 := Aside0.mk hC1
            have HF := Aside0.mk (flatI_take l0 j d)
            have hle := flatI_take_le l0 (j + 1)
            have hT2 := HT.out
            rw [HF.out, List.length_append] at hle
            have HL := Aside0.mk (show ((l0.take j).flatten.length + (l0.getD j []).length) * 8 ≤ 140737488355328 by omega)
            clear hC1 hl1 hle hT2
            generalize l0.getD j [] = ys at hx HC1 HF HL
            go_wp2_with (at_builtin; refine Kd.R_append_row (Value.int .i64) (0 : Int) (w0 := w) w.heap.size rfl _ _ 22 3 (.int .i64 0) 8 rfl hu22 infoIC rfl (by decide) _ (l0.take j).flatten ys _ ys.length c1 (fun _ => True) rfl rfl (fun _ _ => trivial) HV.out HC1.out HB.out HB.out.size HL.out ?_; intro v2 w2 hR2 hb2 hg hat; clear hg hat; rw [← HF.out] at hR2; have HV2 := Aside0.mk hR2; have HB2 := Aside0.mk hb2; clear hR2 hb2)
            go_roundg (gk - 1)
            case rel => exact ⟨j + 1, by go_num, ⟨by omega, by have := HJ.out; omega⟩, HV2, HB2⟩
            case measure => have := HJ.out; omega
          · have db : decide (j < l0.length) = false := decide_eq_false d
            go_wp2
            go_ret
            have hv := HV.out
            rw [List.take_of_length_le (by omega)] at hv
            exact ⟨_, rfl, hv, HB.out⟩
  · simp at h

/-! ### clause_Resolve: function 18, by hand -/
set_option maxHeartbeats 1000000 in
theorem resolve1_calls (x v : Int) (B : Nat) (w : World) (hb : w.cell? ⟨B, 0, none⟩ = some (.int .i64 v)) :
    Calls Try.prog 38 #[.int .i64 x, .pointer (some ⟨B, 0, none⟩)] w fun e w' => e = .returned (.bool (decide (wrap64 (Int.tdiv x 2) = v))) ∧ ∃ q, w' = w.drewN q := by
  go_enter Try.func38, Try.ntmps38
  go_wp2
  go_ret
  exact ⟨rfl, 0, rfl⟩
theorem encs_mapD {α : Type} (enc : α → Value) (l : List α) : encs enc l = l.map enc := by simp [encs]
theorem deleteV_calls (P0 : Nat → Prop) (u : Value) (l0 : List Int) (v : Int) (B : Nat) (w0 w : World) (hB : Below w0.heap.size w0 w) (ho0 : Kd.R (Kd.int .i64) 3 w w0.heap.size P0 u l0) (hl0 : 0 < l0.length) (hl : l0.length ≤ 1000000000) (hlt : B < w.heap.size) (hb : w.cell? ⟨B, 0, none⟩ = some (.int .i64 v)) (hne : ∀ k, P0 k → k ≠ B) :
    Calls Try.prog 36 #[u, .func (.func 38) #[] #[.pointer (some ⟨B, 0, none⟩)]] w fun e w' => ∃ v0_ : Value, e = .returned v0_ ∧ Kd.R (Kd.int .i64) 3 w' w0.heap.size (fun _ => True) v0_ (l0.filter fun x => !decide (wrap64 (Int.tdiv x 2) = v)) ∧ Below w0.heap.size w0 w' := by
  have ho := Kd.own_of_R ho0
  rw [encs_mapD] at ho
  rcases ho.2 with ⟨rfl, hn⟩ | ⟨g, cap, cur, rfl, hg, hh, h1, h2, h3, h4⟩
  · have hn0 : l0.length = 0 := hn
    omega
  · have hlt2 : g < w.heap.size := (Array.getElem?_eq_some_iff.1 hh).1
    have hBg : B ≠ g := fun e => hne g (ho0.1 g rfl) e.symm
    rw [Nat.mul_one] at h4
    have eg : ∀ args w, (callFunc 38 args).run Try.prog w = .ok (.enter 38 args) w := enters_of Try.func38 (by kernel_rfl) rfl
    have hp : PredAt Try.prog 38 #[.pointer (some ⟨B, 0, none⟩)] (Value.int .i64) (fun x => decide (wrap64 (Int.tdiv x 2) = v)) w :=
      fun W x hb' => resolve1_calls x v B W ((hb'.cell (p := ⟨B, 0, none⟩) hlt).trans hb)
    have hpo : PredOver Try.prog 38 #[.pointer (some ⟨B, 0, none⟩)] (Value.int .i64) (fun x => decide (wrap64 (Int.tdiv x 2) = v)) g 0 l0.toArray.size w :=
      fun n os dk x _ => resolve1_calls x v B _ (by
        unfold sortWorld
        rw [Sort.cell?_grow _ _ _ (by show B < (Sort.putRow _ _ _ _ _).heap.size; rw [Sort.size_putRow]; exact hlt), Sort.cell?_putRow_other _ _ g 0 _ _ (Or.inl hBg)]
        exact hb)
    refine (Try.slices_DeleteFunc (Value.int .i64) (fun _ => rfl) (fun x => decide (wrap64 (Int.tdiv x 2) = v)) 38 #[.pointer (some ⟨B, 0, none⟩)] eg 0 Try.zeroValue3 g 0 cap l0.toArray w hp hpo (holds_of_blockI hh h4) (by simp; omega) (by simpa using h1)).mono ?_
    rintro e w' ⟨rfl, q, rfl⟩
    have hk : (l0.filter fun x => !decide (wrap64 (Int.tdiv x 2) = v)).length ≤ l0.length := List.length_filter_le _ _
    have hy : ((l0.filter fun x => !decide (wrap64 (Int.tdiv x 2) = v)) ++ List.replicate (l0.length - (l0.filter fun x => !decide (wrap64 (Int.tdiv x 2) = v)).length) (0 : Int)).length = l0.length := by rw [List.length_append, List.length_replicate]; omega
    have hw := Lib.ownsRow_putRow (q := q) ho hy hk
    rw [List.take_left' rfl] at hw
    have hgr := grownBy_sortedI (w := w) (g := g) (n := q) (os := #[]) ((l0.filter fun x => !decide (wrap64 (Int.tdiv x 2) = v)) ++ List.replicate (l0.length - (l0.filter fun x => !decide (wrap64 (Int.tdiv x 2) = v)).length) (0 : Int)).toArray
    rw [Sort.grow_empty] at hgr
    exact ⟨_, rfl, Kd.R_of_own (by rw [encs_mapD]; exact hw) (fun _ _ => trivial), pw_below_grown hB (some g) hB.size hgr (fun k e => by cases e; exact hg)⟩
theorem rows2 {W : World} {g : Nat} {A1 A2 : Option Addr} {c1 c2 : Nat} {l1 l2 : List Int} (hb : W.heap[g]? = some (.cells #[.slice A1 l1.length c1, .slice A2 l2.length c2] 22 (0, 0))) (h1 : Kd.C (Kd.int .i64) W A1 l1.length l1) (hc1 : l1.length ≤ c1) (h2 : Kd.C (Kd.int .i64) W A2 l2.length l2) (hc2 : l2.length ≤ c2) :
    Kd.C (Kd.slice 3 (Kd.int .i64)) W (some ⟨g, 0, none⟩) ([l1, l2] : List (List Int)).length [l1, l2] := by
  refine ⟨rfl, by simp, fun _ => ⟨_, rfl, ?_⟩⟩
  intro j p hj
  rcases j with _ | _ | j
  · simp at hj
    subst hj
    refine ⟨[.slice A1 l1.length c1], rfl, ⟨A1, c1, rfl, hc1, h1⟩, fun i u hu => ?_⟩
    rcases i with _ | i
    · simp at hu
      subst hu
      exact (blk_cell hb 0).trans rfl
    · simp at hu
  · simp at hj
    subst hj
    refine ⟨[.slice A2 l2.length c2], rfl, ⟨A2, c2, rfl, hc2, h2⟩, fun i u hu => ?_⟩
    rcases i with _ | i
    · simp at hu
      subst hu
      exact (blk_cell hb 1).trans rfl
    · simp at hu
  · simp at hj
theorem concat2_calls {W : World} {g : Nat} {A1 A2 : Option Addr} {c1 c2 : Nat} {l1 l2 : List Int} (hb : W.heap[g]? = some (.cells #[.slice A1 l1.length c1, .slice A2 l2.length c2] 22 (0, 0))) (h1 : Kd.C (Kd.int .i64) W A1 l1.length l1) (hc1 : l1.length ≤ c1) (h2 : Kd.C (Kd.int .i64) W A2 l2.length l2) (hc2 : l2.length ≤ c2) (hl : (l1 ++ l2).length ≤ 1000000000) :
    Calls Try.prog 37 #[.slice (some ⟨g, 0, none⟩) 2 2] W fun e w' => ∃ v1_ : Value, e = .returned (v1_) ∧ Kd.R (Kd.int .i64) 3 w' W.heap.size (fun _ => True) v1_ (l1 ++ l2) ∧ Below W.heap.size W w' := by
  have hf : slices_Concat_int_int.f [l1, l2] = some (l1 ++ l2) := by
    unfold slices_Concat_int_int.f
    rw [show ([l1, l2] : List (List Int)).flatten = l1 ++ l2 by simp, if_pos hl]
  exact slices_Concat_int_int.calls (some ⟨g, 0, none⟩) 2 [l1, l2] (l1 ++ l2) W (rows2 hb h1 hc1 h2 hc2) (by simp) hf
theorem new_at {W : World} {g : Nat} {cs : Array Value} {e : TypeId} (h : W.heap.size = g) : (W.alloc (.cells cs e)).heap[g]? = some (.cells cs e (0, 0)) := h ▸ heap_alloc_new W _
theorem box_cell (w : World) (x : Value) (e : TypeId) : (w.alloc (.cells #[x] e)).cell? ⟨w.heap.size, 0, none⟩ = some x := (blk_cell (heap_alloc_new w _) 0).trans rfl
theorem own_past {e base b g : Nat} {w : World} {v : Value} {xs : List Int} (h : Kd.R (Kd.int .i64) e w b (fun _ => True) v xs) (hb : base ≤ b) (hg : g < b) : Kd.R (Kd.int .i64) e w base (fun k_ => k_ ≠ g) v xs :=
  Kd.R_lower (Kd.R_mono (Kd.R_bound h) (fun k_ hk e_ => by have := hk.2.1; omega)) hb
/-- Both tests of one side. -/
def sideV (k : Nat) (l1 l2 : List Int) (x y : Int) : Option Bool := (slices_Contains_int_int.f k l1 x).bind fun c => if c = true then slices_Contains_int_int.f k l2 y else some false
def clause_Resolve.f (k : Nat) (a0 : Int) (l1 l2 : List Int) (a3 : Int) : Option (List Int × Bool × Int) :=
  (clause_both.f k a0 l1 l2).bind fun e => if e = 0 then (if a3 < 1 then some ([], false, 6) else if a3 > a0 then some ([], false, 6) else
    (sideV k l1 l2 (wrap64 (2 * a3)) (wrap64 (wrap64 (2 * a3) + 1))).bind fun s => (sideV k l1 l2 (wrap64 (wrap64 (2 * a3) + 1)) (wrap64 (2 * a3))).bind fun t =>
      if s = false then (if t = false then some ([], false, 6) else (if 0 < (l1 ++ l2).length then (if (l1 ++ l2).length ≤ 1000000000 then clause_Make.f k a0 ((l1 ++ l2).filter fun x => !decide (wrap64 (Int.tdiv x 2) = a3)) else none) else none))
      else (if 0 < (l1 ++ l2).length then (if (l1 ++ l2).length ≤ 1000000000 then clause_Make.f k a0 ((l1 ++ l2).filter fun x => !decide (wrap64 (Int.tdiv x 2) = a3)) else none) else none)) else some ([], false, e)
theorem sideV.mono (l1 l2 : List Int) (x y : Int) (k : Nat) : LeO (sideV k l1 l2 x y) (sideV (k + 1) l1 l2 x y) := by
  unfold sideV
  refine LeO.bind (slices_Contains_int_int.mono _ _ _) (fun _ => ?_)
  exact LeO.ite (slices_Contains_int_int.mono _ _ _) (LeO.refl _)
theorem clause_Resolve.mono : ∀ a0 l1 l2 a3 k, LeO (clause_Resolve.f k a0 l1 l2 a3) (clause_Resolve.f (k + 1) a0 l1 l2 a3) := by
  intro a0 l1 l2 a3 k
  unfold clause_Resolve.f
  repeat' first
    | (with_reducible exact clause_both.mono _ _ _ _)
    | (with_reducible exact sideV.mono _ _ _ _ _)
    | (with_reducible exact clause_Make.mono _ _ _)
    | (with_reducible exact LeO.refl _)
    | (with_reducible exact LeO.none _)
    | (with_reducible refine LeO.ite ?_ ?_)
    | (with_reducible refine LeO.bind ?_ (fun _ => ?_))
set_option maxHeartbeats 4000000 in
set_option maxRecDepth 100000 in
theorem clause_Resolve.calls (k : Nat) (a0 : Int) (A1 : Option Addr) (c1 : Nat) (l1 : List Int) (A2 : Option Addr) (c2 : Nat) (l2 : List Int) (a3 : Int) (r1 : List Int) (r2 : Bool) (r3 : Int) (w : World) (hr1 : Kd.C (Kd.int .i64) w A1 l1.length l1) (hc1 : l1.length ≤ c1) (hr2 : Kd.C (Kd.int .i64) w A2 l2.length l2) (hc2 : l2.length ≤ c2) (h : clause_Resolve.f k a0 l1 l2 a3 = some (r1, r2, r3)) :
    Calls Try.prog 18 #[.int .i64 a0, .slice A1 l1.length c1, .slice A2 l2.length c2, .int .i64 a3] w fun e w' => ∃ v0_ : Value, e = .returned (.tuple #[v0_, .bool r2, .int .i64 r3]) ∧ Kd.R (Kd.int .i64) 3 w' w.heap.size (fun _ => True) v0_ r1 ∧ Below w.heap.size w w' := by
  have HR1 := Aside0.mk hr1
  have HC1 := Aside0.mk hc1
  have HR2 := Aside0.mk hr2
  have HC2 := Aside0.mk hc2
  clear hr1 hc1 hr2 hc2
  have hu22 := Try.underlying22
  have hu49 := Try.underlying49
  unfold clause_Resolve.f at h
  obtain ⟨e0, he, h⟩ := Option.bind_eq_some_iff.mp h
  have HE := Aside0.mk he
  clear he
  by_cases c : e0 = 0
  · rw [if_pos c] at h
    subst c
    by_cases c : a3 < 1
    · rw [if_pos c] at h
      simp only [Option.some.injEq, Prod.mk.injEq] at h
      obtain ⟨rfl, rfl, rfl⟩ := h
      have b1 : decide (a3 < 1) = true := decide_eq_true c
      clear c
      go_enter Try.func18, Try.ntmps18
      go_wp2_with (go_at_call 34; (with_reducible refine (clause_both.calls k a0 A1 c1 l1 A2 c2 l2 _ _ ?s1 ?s2 ?s3 ?s4 HE.out).mono ?_); (case s1 => exact Kd.C_below HR1.out (below_alloc (Below.refl _ _) _)); (case s2 => exact HC1.out); (case s3 => exact Kd.C_below HR2.out (below_alloc (Below.refl _ _) _)); (case s4 => exact HC2.out); rintro e w' ⟨rfl, ⟨nd, rfl⟩⟩)
      go_ret3
      exact ⟨_, rfl, Kd.R_nil _ _ _ _ _, by repeat (first | (with_reducible first | apply below_alloc | apply pw_below_drewN | apply below_drew1) | exact Below.refl _ _)⟩
    rw [if_neg c] at h
    have b1 : decide (a3 < 1) = false := decide_eq_false c
    clear c
    by_cases c : a3 > a0
    · rw [if_pos c] at h
      simp only [Option.some.injEq, Prod.mk.injEq] at h
      obtain ⟨rfl, rfl, rfl⟩ := h
      have b2 : decide (a0 < a3) = true := decide_eq_true c
      clear c
      go_enter Try.func18, Try.ntmps18
      go_wp2_with (go_at_call 34; (with_reducible refine (clause_both.calls k a0 A1 c1 l1 A2 c2 l2 _ _ ?s1 ?s2 ?s3 ?s4 HE.out).mono ?_); (case s1 => exact Kd.C_below HR1.out (below_alloc (Below.refl _ _) _)); (case s2 => exact HC1.out); (case s3 => exact Kd.C_below HR2.out (below_alloc (Below.refl _ _) _)); (case s4 => exact HC2.out); rintro e w' ⟨rfl, ⟨nd, rfl⟩⟩)
      go_ret3
      exact ⟨_, rfl, Kd.R_nil _ _ _ _ _, by repeat (first | (with_reducible first | apply below_alloc | apply pw_below_drewN | apply below_drew1) | exact Below.refl _ _)⟩
    rw [if_neg c] at h
    have b2 : decide (a0 < a3) = false := decide_eq_false c
    clear c
    obtain ⟨s, hs, h⟩ := Option.bind_eq_some_iff.mp h
    obtain ⟨t, ht, h⟩ := Option.bind_eq_some_iff.mp h
    unfold sideV at hs ht
    obtain ⟨x1, hx1, hs⟩ := Option.bind_eq_some_iff.mp hs
    obtain ⟨y1, hy1, ht⟩ := Option.bind_eq_some_iff.mp ht
    have hS : (x1 = false ∧ s = false) ∨ (x1 = true ∧ s = false ∧ slices_Contains_int_int.f k l2 (wrap64 (wrap64 (2 * a3) + 1)) = some false) ∨ (x1 = true ∧ s = true ∧ slices_Contains_int_int.f k l2 (wrap64 (wrap64 (2 * a3) + 1)) = some true) := by
      cases x1 with
      | false => rw [if_neg (by decide)] at hs; exact .inl ⟨rfl, (Option.some.inj hs).symm⟩
      | true => rw [if_pos rfl] at hs; cases s with
        | false => exact .inr (.inl ⟨rfl, rfl, hs⟩)
        | true => exact .inr (.inr ⟨rfl, rfl, hs⟩)
    have hT : (y1 = false ∧ t = false) ∨ (y1 = true ∧ t = false ∧ slices_Contains_int_int.f k l2 (wrap64 (2 * a3)) = some false) ∨ (y1 = true ∧ t = true ∧ slices_Contains_int_int.f k l2 (wrap64 (2 * a3)) = some true) := by
      cases y1 with
      | false => rw [if_neg (by decide)] at ht; exact .inl ⟨rfl, (Option.some.inj ht).symm⟩
      | true => rw [if_pos rfl] at ht; cases t with
        | false => exact .inr (.inl ⟨rfl, rfl, ht⟩)
        | true => exact .inr (.inr ⟨rfl, rfl, ht⟩)
    have HX1 := Aside0.mk hx1
    have HY1 := Aside0.mk hy1
    clear hx1 hy1 hs ht
    rcases hS with ⟨rfl, rfl⟩ | ⟨rfl, rfl, hS⟩ | ⟨rfl, rfl, hS⟩ <;> rcases hT with ⟨rfl, rfl⟩ | ⟨rfl, rfl, hT⟩ | ⟨rfl, rfl, hT⟩
    · rw [if_pos rfl, if_pos rfl] at h
      simp only [Option.some.injEq, Prod.mk.injEq] at h
      obtain ⟨rfl, rfl, rfl⟩ := h
      go_enter Try.func18, Try.ntmps18
      go_wp2_with (first
          | (go_at_call 34; (with_reducible refine (clause_both.calls k a0 A1 c1 l1 A2 c2 l2 _ _ ?s1 ?s2 ?s3 ?s4 HE.out).mono ?_); (case s1 => exact Kd.C_below HR1.out (below_alloc (Below.refl _ _) _)); (case s2 => exact HC1.out); (case s3 => exact Kd.C_below HR2.out (below_alloc (Below.refl _ _) _)); (case s4 => exact HC2.out); rintro e w' ⟨rfl, ⟨nd, rfl⟩⟩)
          | (go_at_call 35; (with_reducible refine (slices_Contains_int_int.calls k A1 c1 l1 (wrap64 (2 * a3)) _ _ ?s1 ?s2 HX1.out).mono ?_); (case s1 => exact Kd.C_below HR1.out (by repeat (first | (with_reducible first | apply below_alloc | apply pw_below_drewN | apply below_drew1) | exact Below.refl _ _))); (case s2 => exact HC1.out); rintro e w' ⟨rfl, ⟨nd, rfl⟩⟩)
          | (go_at_call 35; (with_reducible refine (slices_Contains_int_int.calls k A1 c1 l1 (wrap64 (wrap64 (2 * a3) + 1)) _ _ ?s1 ?s2 HY1.out).mono ?_); (case s1 => exact Kd.C_below HR1.out (by repeat (first | (with_reducible first | apply below_alloc | apply pw_below_drewN | apply below_drew1) | exact Below.refl _ _))); (case s2 => exact HC1.out); rintro e w' ⟨rfl, ⟨nd, rfl⟩⟩))
      go_ret3
      exact ⟨_, rfl, Kd.R_nil _ _ _ _ _, (by repeat (first | (with_reducible first | apply below_alloc | apply pw_below_drewN | apply below_drew1) | exact Below.refl _ _))⟩
    · have HT := Aside0.mk hT
      clear hT
      rw [if_pos rfl, if_pos rfl] at h
      simp only [Option.some.injEq, Prod.mk.injEq] at h
      obtain ⟨rfl, rfl, rfl⟩ := h
      go_enter Try.func18, Try.ntmps18
      go_wp2_with (first
          | (go_at_call 34; (with_reducible refine (clause_both.calls k a0 A1 c1 l1 A2 c2 l2 _ _ ?s1 ?s2 ?s3 ?s4 HE.out).mono ?_); (case s1 => exact Kd.C_below HR1.out (below_alloc (Below.refl _ _) _)); (case s2 => exact HC1.out); (case s3 => exact Kd.C_below HR2.out (below_alloc (Below.refl _ _) _)); (case s4 => exact HC2.out); rintro e w' ⟨rfl, ⟨nd, rfl⟩⟩)
          | (go_at_call 35; (with_reducible refine (slices_Contains_int_int.calls k A1 c1 l1 (wrap64 (2 * a3)) _ _ ?s1 ?s2 HX1.out).mono ?_); (case s1 => exact Kd.C_below HR1.out (by repeat (first | (with_reducible first | apply below_alloc | apply pw_below_drewN | apply below_drew1) | exact Below.refl _ _))); (case s2 => exact HC1.out); rintro e w' ⟨rfl, ⟨nd, rfl⟩⟩)
          | (go_at_call 35; (with_reducible refine (slices_Contains_int_int.calls k A1 c1 l1 (wrap64 (wrap64 (2 * a3) + 1)) _ _ ?s1 ?s2 HY1.out).mono ?_); (case s1 => exact Kd.C_below HR1.out (by repeat (first | (with_reducible first | apply below_alloc | apply pw_below_drewN | apply below_drew1) | exact Below.refl _ _))); (case s2 => exact HC1.out); rintro e w' ⟨rfl, ⟨nd, rfl⟩⟩)
          | (go_at_call 35; (with_reducible refine (slices_Contains_int_int.calls k A2 c2 l2 (wrap64 (2 * a3)) _ _ ?s1 ?s2 HT.out).mono ?_); (case s1 => exact Kd.C_below HR2.out (by repeat (first | (with_reducible first | apply below_alloc | apply pw_below_drewN | apply below_drew1) | exact Below.refl _ _))); (case s2 => exact HC2.out); rintro e w' ⟨rfl, ⟨nd, rfl⟩⟩))
      go_ret3
      exact ⟨_, rfl, Kd.R_nil _ _ _ _ _, (by repeat (first | (with_reducible first | apply below_alloc | apply pw_below_drewN | apply below_drew1) | exact Below.refl _ _))⟩
    · have HT := Aside0.mk hT
      clear hT
      rw [if_pos rfl, if_neg (by decide)] at h
      by_cases d0 : 0 < (l1 ++ l2).length
      · rw [if_pos d0] at h
        by_cases d1 : (l1 ++ l2).length ≤ 1000000000
        · rw [if_pos d1] at h
          generalize hfl : (l1 ++ l2).filter (fun x => !decide (wrap64 (Int.tdiv x 2) = a3)) = fl at h
          have HFL := Aside0.mk hfl
          have HM := Aside0.mk h
          clear hfl
          have HL0 := Aside0.mk d0
          have HL1 := Aside0.mk d1
          clear h d0 d1
          go_enter Try.func18, Try.ntmps18
          go_wp2_with (first
          | (go_at_call 34; (with_reducible refine (clause_both.calls k a0 A1 c1 l1 A2 c2 l2 _ _ ?s1 ?s2 ?s3 ?s4 HE.out).mono ?_); (case s1 => exact Kd.C_below HR1.out (below_alloc (Below.refl _ _) _)); (case s2 => exact HC1.out); (case s3 => exact Kd.C_below HR2.out (below_alloc (Below.refl _ _) _)); (case s4 => exact HC2.out); rintro e w' ⟨rfl, ⟨nd, rfl⟩⟩)
          | (go_at_call 35; (with_reducible refine (slices_Contains_int_int.calls k A1 c1 l1 (wrap64 (2 * a3)) _ _ ?s1 ?s2 HX1.out).mono ?_); (case s1 => exact Kd.C_below HR1.out (by repeat (first | (with_reducible first | apply below_alloc | apply pw_below_drewN | apply below_drew1) | exact Below.refl _ _))); (case s2 => exact HC1.out); rintro e w' ⟨rfl, ⟨nd, rfl⟩⟩)
          | (go_at_call 35; (with_reducible refine (slices_Contains_int_int.calls k A1 c1 l1 (wrap64 (wrap64 (2 * a3) + 1)) _ _ ?s1 ?s2 HY1.out).mono ?_); (case s1 => exact Kd.C_below HR1.out (by repeat (first | (with_reducible first | apply below_alloc | apply pw_below_drewN | apply below_drew1) | exact Below.refl _ _))); (case s2 => exact HC1.out); rintro e w' ⟨rfl, ⟨nd, rfl⟩⟩)
          | (go_at_call 35; (with_reducible refine (slices_Contains_int_int.calls k A2 c2 l2 (wrap64 (2 * a3)) _ _ ?s1 ?s2 HT.out).mono ?_); (case s1 => exact Kd.C_below HR2.out (by repeat (first | (with_reducible first | apply below_alloc | apply pw_below_drewN | apply below_drew1) | exact Below.refl _ _))); (case s2 => exact HC2.out); rintro e w' ⟨rfl, ⟨nd, rfl⟩⟩)
          | (go_at_call 37; go_loud (refine (concat2_calls (A1 := A1) (A2 := A2) (c1 := c1) (c2 := c2) (l1 := l1) (l2 := l2) (new_at (by simp)) (Kd.C_below HR1.out (by repeat (first | (with_reducible first | apply below_alloc | apply pw_below_drewN | apply below_drew1) | exact Below.refl _ _))) HC1.out (Kd.C_below HR2.out (by repeat (first | (with_reducible first | apply below_alloc | apply pw_below_drewN | apply below_drew1) | exact Below.refl _ _))) HC2.out HL1.out).mono ?_; rintro e w1 ⟨v1, rfl, hR1, hb1⟩; have HBX := Aside0.mk (below_step (by repeat (first | (with_reducible first | apply below_alloc | apply pw_below_drewN | apply below_drew1) | exact Below.refl _ _)) hb1); have HCX := Aside0.mk (pw_cell_below (a := ⟨w.heap.size, 0, none⟩) (v := .int .i64 a3) hb1 (Lib.cell?_alloc_some _ (box_cell w (.int .i64 a3) 3))); have HSX := Aside0.mk (show w.heap.size < w1.heap.size by have := hb1.size; simp at this; omega); have HVX := Aside0.mk (own_past (base := w.heap.size) (g := w.heap.size) hR1 (by simp; omega) (by simp; omega)); clear hR1 hb1))
          | (go_at_call 36; go_loud ((with_reducible refine (deleteV_calls (fun k_ => k_ ≠ w.heap.size) v1 (l1 ++ l2) a3 w.heap.size w w1 ?s1 ?s2 ?s3 ?s4 ?s5 ?s6 ?s7).mono ?_); (case s1 => exact HBX.out); (case s2 => exact HVX.out); (case s3 => exact HL0.out); (case s4 => exact HL1.out); (case s5 => exact HSX.out); (case s6 => exact HCX.out); (case s7 => exact fun _ h_ => h_); rintro e w2 ⟨v2, rfl, hR2, hb2⟩; rw [HFL.out] at hR2; have HBY := Aside0.mk hb2; obtain ⟨A3, c3, rfl, hl3, hr3⟩ := Kd.R_reads hR2; have HL3 := Aside0.mk hl3; have HR3 := Aside0.mk hr3; clear hb2 hR2 hl3 hr3))
          | (go_at_call 10; go_loud ((with_reducible refine (clause_Make.calls k a0 A3 c3 fl r1 r2 r3 _ ?s1 ?s2 HM.out).mono ?_); (case s1 => exact HR3.out); (case s2 => exact HL3.out); rintro e w3 ⟨v3, rfl, hR3, hb3⟩; have HBZ := Aside0.mk (below_step HBY.out hb3); have HVZ := Aside0.mk (Kd.R_lower hR3 HBY.out.size); clear hR3 hb3)))
          go_ret3
          exact ⟨_, rfl, HVZ.out, HBZ.out⟩
        · rw [if_neg d1] at h; simp at h
      · rw [if_neg d0] at h; simp at h
    · have HS := Aside0.mk hS
      clear hS
      rw [if_pos rfl, if_pos rfl] at h
      simp only [Option.some.injEq, Prod.mk.injEq] at h
      obtain ⟨rfl, rfl, rfl⟩ := h
      go_enter Try.func18, Try.ntmps18
      go_wp2_with (first
          | (go_at_call 34; (with_reducible refine (clause_both.calls k a0 A1 c1 l1 A2 c2 l2 _ _ ?s1 ?s2 ?s3 ?s4 HE.out).mono ?_); (case s1 => exact Kd.C_below HR1.out (below_alloc (Below.refl _ _) _)); (case s2 => exact HC1.out); (case s3 => exact Kd.C_below HR2.out (below_alloc (Below.refl _ _) _)); (case s4 => exact HC2.out); rintro e w' ⟨rfl, ⟨nd, rfl⟩⟩)
          | (go_at_call 35; (with_reducible refine (slices_Contains_int_int.calls k A1 c1 l1 (wrap64 (2 * a3)) _ _ ?s1 ?s2 HX1.out).mono ?_); (case s1 => exact Kd.C_below HR1.out (by repeat (first | (with_reducible first | apply below_alloc | apply pw_below_drewN | apply below_drew1) | exact Below.refl _ _))); (case s2 => exact HC1.out); rintro e w' ⟨rfl, ⟨nd, rfl⟩⟩)
          | (go_at_call 35; (with_reducible refine (slices_Contains_int_int.calls k A2 c2 l2 (wrap64 (wrap64 (2 * a3) + 1)) _ _ ?s1 ?s2 HS.out).mono ?_); (case s1 => exact Kd.C_below HR2.out (by repeat (first | (with_reducible first | apply below_alloc | apply pw_below_drewN | apply below_drew1) | exact Below.refl _ _))); (case s2 => exact HC2.out); rintro e w' ⟨rfl, ⟨nd, rfl⟩⟩)
          | (go_at_call 35; (with_reducible refine (slices_Contains_int_int.calls k A1 c1 l1 (wrap64 (wrap64 (2 * a3) + 1)) _ _ ?s1 ?s2 HY1.out).mono ?_); (case s1 => exact Kd.C_below HR1.out (by repeat (first | (with_reducible first | apply below_alloc | apply pw_below_drewN | apply below_drew1) | exact Below.refl _ _))); (case s2 => exact HC1.out); rintro e w' ⟨rfl, ⟨nd, rfl⟩⟩))
      go_ret3
      exact ⟨_, rfl, Kd.R_nil _ _ _ _ _, (by repeat (first | (with_reducible first | apply below_alloc | apply pw_below_drewN | apply below_drew1) | exact Below.refl _ _))⟩
    · have HS := Aside0.mk hS
      clear hS
      have HT := Aside0.mk hT
      clear hT
      rw [if_pos rfl, if_pos rfl] at h
      simp only [Option.some.injEq, Prod.mk.injEq] at h
      obtain ⟨rfl, rfl, rfl⟩ := h
      go_enter Try.func18, Try.ntmps18
      go_wp2_with (first
          | (go_at_call 34; (with_reducible refine (clause_both.calls k a0 A1 c1 l1 A2 c2 l2 _ _ ?s1 ?s2 ?s3 ?s4 HE.out).mono ?_); (case s1 => exact Kd.C_below HR1.out (below_alloc (Below.refl _ _) _)); (case s2 => exact HC1.out); (case s3 => exact Kd.C_below HR2.out (below_alloc (Below.refl _ _) _)); (case s4 => exact HC2.out); rintro e w' ⟨rfl, ⟨nd, rfl⟩⟩)
          | (go_at_call 35; (with_reducible refine (slices_Contains_int_int.calls k A1 c1 l1 (wrap64 (2 * a3)) _ _ ?s1 ?s2 HX1.out).mono ?_); (case s1 => exact Kd.C_below HR1.out (by repeat (first | (with_reducible first | apply below_alloc | apply pw_below_drewN | apply below_drew1) | exact Below.refl _ _))); (case s2 => exact HC1.out); rintro e w' ⟨rfl, ⟨nd, rfl⟩⟩)
          | (go_at_call 35; (with_reducible refine (slices_Contains_int_int.calls k A2 c2 l2 (wrap64 (wrap64 (2 * a3) + 1)) _ _ ?s1 ?s2 HS.out).mono ?_); (case s1 => exact Kd.C_below HR2.out (by repeat (first | (with_reducible first | apply below_alloc | apply pw_below_drewN | apply below_drew1) | exact Below.refl _ _))); (case s2 => exact HC2.out); rintro e w' ⟨rfl, ⟨nd, rfl⟩⟩)
          | (go_at_call 35; (with_reducible refine (slices_Contains_int_int.calls k A1 c1 l1 (wrap64 (wrap64 (2 * a3) + 1)) _ _ ?s1 ?s2 HY1.out).mono ?_); (case s1 => exact Kd.C_below HR1.out (by repeat (first | (with_reducible first | apply below_alloc | apply pw_below_drewN | apply below_drew1) | exact Below.refl _ _))); (case s2 => exact HC1.out); rintro e w' ⟨rfl, ⟨nd, rfl⟩⟩)
          | (go_at_call 35; (with_reducible refine (slices_Contains_int_int.calls k A2 c2 l2 (wrap64 (2 * a3)) _ _ ?s1 ?s2 HT.out).mono ?_); (case s1 => exact Kd.C_below HR2.out (by repeat (first | (with_reducible first | apply below_alloc | apply pw_below_drewN | apply below_drew1) | exact Below.refl _ _))); (case s2 => exact HC2.out); rintro e w' ⟨rfl, ⟨nd, rfl⟩⟩))
      go_ret3
      exact ⟨_, rfl, Kd.R_nil _ _ _ _ _, (by repeat (first | (with_reducible first | apply below_alloc | apply pw_below_drewN | apply below_drew1) | exact Below.refl _ _))⟩
    · have HS := Aside0.mk hS
      clear hS
      have HT := Aside0.mk hT
      clear hT
      rw [if_pos rfl, if_neg (by decide)] at h
      by_cases d0 : 0 < (l1 ++ l2).length
      · rw [if_pos d0] at h
        by_cases d1 : (l1 ++ l2).length ≤ 1000000000
        · rw [if_pos d1] at h
          generalize hfl : (l1 ++ l2).filter (fun x => !decide (wrap64 (Int.tdiv x 2) = a3)) = fl at h
          have HFL := Aside0.mk hfl
          have HM := Aside0.mk h
          clear hfl
          have HL0 := Aside0.mk d0
          have HL1 := Aside0.mk d1
          clear h d0 d1
          go_enter Try.func18, Try.ntmps18
          go_wp2_with (first
          | (go_at_call 34; (with_reducible refine (clause_both.calls k a0 A1 c1 l1 A2 c2 l2 _ _ ?s1 ?s2 ?s3 ?s4 HE.out).mono ?_); (case s1 => exact Kd.C_below HR1.out (below_alloc (Below.refl _ _) _)); (case s2 => exact HC1.out); (case s3 => exact Kd.C_below HR2.out (below_alloc (Below.refl _ _) _)); (case s4 => exact HC2.out); rintro e w' ⟨rfl, ⟨nd, rfl⟩⟩)
          | (go_at_call 35; (with_reducible refine (slices_Contains_int_int.calls k A1 c1 l1 (wrap64 (2 * a3)) _ _ ?s1 ?s2 HX1.out).mono ?_); (case s1 => exact Kd.C_below HR1.out (by repeat (first | (with_reducible first | apply below_alloc | apply pw_below_drewN | apply below_drew1) | exact Below.refl _ _))); (case s2 => exact HC1.out); rintro e w' ⟨rfl, ⟨nd, rfl⟩⟩)
          | (go_at_call 35; (with_reducible refine (slices_Contains_int_int.calls k A2 c2 l2 (wrap64 (wrap64 (2 * a3) + 1)) _ _ ?s1 ?s2 HS.out).mono ?_); (case s1 => exact Kd.C_below HR2.out (by repeat (first | (with_reducible first | apply below_alloc | apply pw_below_drewN | apply below_drew1) | exact Below.refl _ _))); (case s2 => exact HC2.out); rintro e w' ⟨rfl, ⟨nd, rfl⟩⟩)
          | (go_at_call 35; (with_reducible refine (slices_Contains_int_int.calls k A1 c1 l1 (wrap64 (wrap64 (2 * a3) + 1)) _ _ ?s1 ?s2 HY1.out).mono ?_); (case s1 => exact Kd.C_below HR1.out (by repeat (first | (with_reducible first | apply below_alloc | apply pw_below_drewN | apply below_drew1) | exact Below.refl _ _))); (case s2 => exact HC1.out); rintro e w' ⟨rfl, ⟨nd, rfl⟩⟩)
          | (go_at_call 35; (with_reducible refine (slices_Contains_int_int.calls k A2 c2 l2 (wrap64 (2 * a3)) _ _ ?s1 ?s2 HT.out).mono ?_); (case s1 => exact Kd.C_below HR2.out (by repeat (first | (with_reducible first | apply below_alloc | apply pw_below_drewN | apply below_drew1) | exact Below.refl _ _))); (case s2 => exact HC2.out); rintro e w' ⟨rfl, ⟨nd, rfl⟩⟩)
          | (go_at_call 37; go_loud (refine (concat2_calls (A1 := A1) (A2 := A2) (c1 := c1) (c2 := c2) (l1 := l1) (l2 := l2) (new_at (by simp)) (Kd.C_below HR1.out (by repeat (first | (with_reducible first | apply below_alloc | apply pw_below_drewN | apply below_drew1) | exact Below.refl _ _))) HC1.out (Kd.C_below HR2.out (by repeat (first | (with_reducible first | apply below_alloc | apply pw_below_drewN | apply below_drew1) | exact Below.refl _ _))) HC2.out HL1.out).mono ?_; rintro e w1 ⟨v1, rfl, hR1, hb1⟩; have HBX := Aside0.mk (below_step (by repeat (first | (with_reducible first | apply below_alloc | apply pw_below_drewN | apply below_drew1) | exact Below.refl _ _)) hb1); have HCX := Aside0.mk (pw_cell_below (a := ⟨w.heap.size, 0, none⟩) (v := .int .i64 a3) hb1 (Lib.cell?_alloc_some _ (box_cell w (.int .i64 a3) 3))); have HSX := Aside0.mk (show w.heap.size < w1.heap.size by have := hb1.size; simp at this; omega); have HVX := Aside0.mk (own_past (base := w.heap.size) (g := w.heap.size) hR1 (by simp; omega) (by simp; omega)); clear hR1 hb1))
          | (go_at_call 36; go_loud ((with_reducible refine (deleteV_calls (fun k_ => k_ ≠ w.heap.size) v1 (l1 ++ l2) a3 w.heap.size w w1 ?s1 ?s2 ?s3 ?s4 ?s5 ?s6 ?s7).mono ?_); (case s1 => exact HBX.out); (case s2 => exact HVX.out); (case s3 => exact HL0.out); (case s4 => exact HL1.out); (case s5 => exact HSX.out); (case s6 => exact HCX.out); (case s7 => exact fun _ h_ => h_); rintro e w2 ⟨v2, rfl, hR2, hb2⟩; rw [HFL.out] at hR2; have HBY := Aside0.mk hb2; obtain ⟨A3, c3, rfl, hl3, hr3⟩ := Kd.R_reads hR2; have HL3 := Aside0.mk hl3; have HR3 := Aside0.mk hr3; clear hb2 hR2 hl3 hr3))
          | (go_at_call 10; go_loud ((with_reducible refine (clause_Make.calls k a0 A3 c3 fl r1 r2 r3 _ ?s1 ?s2 HM.out).mono ?_); (case s1 => exact HR3.out); (case s2 => exact HL3.out); rintro e w3 ⟨v3, rfl, hR3, hb3⟩; have HBZ := Aside0.mk (below_step HBY.out hb3); have HVZ := Aside0.mk (Kd.R_lower hR3 HBY.out.size); clear hR3 hb3)))
          go_ret3
          exact ⟨_, rfl, HVZ.out, HBZ.out⟩
        · rw [if_neg d1] at h; simp at h
      · rw [if_neg d0] at h; simp at h
    · have HS := Aside0.mk hS
      clear hS
      rw [if_neg (by decide)] at h
      by_cases d0 : 0 < (l1 ++ l2).length
      · rw [if_pos d0] at h
        by_cases d1 : (l1 ++ l2).length ≤ 1000000000
        · rw [if_pos d1] at h
          generalize hfl : (l1 ++ l2).filter (fun x => !decide (wrap64 (Int.tdiv x 2) = a3)) = fl at h
          have HFL := Aside0.mk hfl
          have HM := Aside0.mk h
          clear hfl
          have HL0 := Aside0.mk d0
          have HL1 := Aside0.mk d1
          clear h d0 d1
          go_enter Try.func18, Try.ntmps18
          go_wp2_with (first
          | (go_at_call 34; (with_reducible refine (clause_both.calls k a0 A1 c1 l1 A2 c2 l2 _ _ ?s1 ?s2 ?s3 ?s4 HE.out).mono ?_); (case s1 => exact Kd.C_below HR1.out (below_alloc (Below.refl _ _) _)); (case s2 => exact HC1.out); (case s3 => exact Kd.C_below HR2.out (below_alloc (Below.refl _ _) _)); (case s4 => exact HC2.out); rintro e w' ⟨rfl, ⟨nd, rfl⟩⟩)
          | (go_at_call 35; (with_reducible refine (slices_Contains_int_int.calls k A1 c1 l1 (wrap64 (2 * a3)) _ _ ?s1 ?s2 HX1.out).mono ?_); (case s1 => exact Kd.C_below HR1.out (by repeat (first | (with_reducible first | apply below_alloc | apply pw_below_drewN | apply below_drew1) | exact Below.refl _ _))); (case s2 => exact HC1.out); rintro e w' ⟨rfl, ⟨nd, rfl⟩⟩)
          | (go_at_call 35; (with_reducible refine (slices_Contains_int_int.calls k A2 c2 l2 (wrap64 (wrap64 (2 * a3) + 1)) _ _ ?s1 ?s2 HS.out).mono ?_); (case s1 => exact Kd.C_below HR2.out (by repeat (first | (with_reducible first | apply below_alloc | apply pw_below_drewN | apply below_drew1) | exact Below.refl _ _))); (case s2 => exact HC2.out); rintro e w' ⟨rfl, ⟨nd, rfl⟩⟩)
          | (go_at_call 35; (with_reducible refine (slices_Contains_int_int.calls k A1 c1 l1 (wrap64 (wrap64 (2 * a3) + 1)) _ _ ?s1 ?s2 HY1.out).mono ?_); (case s1 => exact Kd.C_below HR1.out (by repeat (first | (with_reducible first | apply below_alloc | apply pw_below_drewN | apply below_drew1) | exact Below.refl _ _))); (case s2 => exact HC1.out); rintro e w' ⟨rfl, ⟨nd, rfl⟩⟩)
          | (go_at_call 37; go_loud (refine (concat2_calls (A1 := A1) (A2 := A2) (c1 := c1) (c2 := c2) (l1 := l1) (l2 := l2) (new_at (by simp)) (Kd.C_below HR1.out (by repeat (first | (with_reducible first | apply below_alloc | apply pw_below_drewN | apply below_drew1) | exact Below.refl _ _))) HC1.out (Kd.C_below HR2.out (by repeat (first | (with_reducible first | apply below_alloc | apply pw_below_drewN | apply below_drew1) | exact Below.refl _ _))) HC2.out HL1.out).mono ?_; rintro e w1 ⟨v1, rfl, hR1, hb1⟩; have HBX := Aside0.mk (below_step (by repeat (first | (with_reducible first | apply below_alloc | apply pw_below_drewN | apply below_drew1) | exact Below.refl _ _)) hb1); have HCX := Aside0.mk (pw_cell_below (a := ⟨w.heap.size, 0, none⟩) (v := .int .i64 a3) hb1 (Lib.cell?_alloc_some _ (box_cell w (.int .i64 a3) 3))); have HSX := Aside0.mk (show w.heap.size < w1.heap.size by have := hb1.size; simp at this; omega); have HVX := Aside0.mk (own_past (base := w.heap.size) (g := w.heap.size) hR1 (by simp; omega) (by simp; omega)); clear hR1 hb1))
          | (go_at_call 36; go_loud ((with_reducible refine (deleteV_calls (fun k_ => k_ ≠ w.heap.size) v1 (l1 ++ l2) a3 w.heap.size w w1 ?s1 ?s2 ?s3 ?s4 ?s5 ?s6 ?s7).mono ?_); (case s1 => exact HBX.out); (case s2 => exact HVX.out); (case s3 => exact HL0.out); (case s4 => exact HL1.out); (case s5 => exact HSX.out); (case s6 => exact HCX.out); (case s7 => exact fun _ h_ => h_); rintro e w2 ⟨v2, rfl, hR2, hb2⟩; rw [HFL.out] at hR2; have HBY := Aside0.mk hb2; obtain ⟨A3, c3, rfl, hl3, hr3⟩ := Kd.R_reads hR2; have HL3 := Aside0.mk hl3; have HR3 := Aside0.mk hr3; clear hb2 hR2 hl3 hr3))
          | (go_at_call 10; go_loud ((with_reducible refine (clause_Make.calls k a0 A3 c3 fl r1 r2 r3 _ ?s1 ?s2 HM.out).mono ?_); (case s1 => exact HR3.out); (case s2 => exact HL3.out); rintro e w3 ⟨v3, rfl, hR3, hb3⟩; have HBZ := Aside0.mk (below_step HBY.out hb3); have HVZ := Aside0.mk (Kd.R_lower hR3 HBY.out.size); clear hR3 hb3)))
          go_ret3
          exact ⟨_, rfl, HVZ.out, HBZ.out⟩
        · rw [if_neg d1] at h; simp at h
      · rw [if_neg d0] at h; simp at h
    · have HS := Aside0.mk hS
      clear hS
      have HT := Aside0.mk hT
      clear hT
      rw [if_neg (by decide)] at h
      by_cases d0 : 0 < (l1 ++ l2).length
      · rw [if_pos d0] at h
        by_cases d1 : (l1 ++ l2).length ≤ 1000000000
        · rw [if_pos d1] at h
          generalize hfl : (l1 ++ l2).filter (fun x => !decide (wrap64 (Int.tdiv x 2) = a3)) = fl at h
          have HFL := Aside0.mk hfl
          have HM := Aside0.mk h
          clear hfl
          have HL0 := Aside0.mk d0
          have HL1 := Aside0.mk d1
          clear h d0 d1
          go_enter Try.func18, Try.ntmps18
          go_wp2_with (first
          | (go_at_call 34; (with_reducible refine (clause_both.calls k a0 A1 c1 l1 A2 c2 l2 _ _ ?s1 ?s2 ?s3 ?s4 HE.out).mono ?_); (case s1 => exact Kd.C_below HR1.out (below_alloc (Below.refl _ _) _)); (case s2 => exact HC1.out); (case s3 => exact Kd.C_below HR2.out (below_alloc (Below.refl _ _) _)); (case s4 => exact HC2.out); rintro e w' ⟨rfl, ⟨nd, rfl⟩⟩)
          | (go_at_call 35; (with_reducible refine (slices_Contains_int_int.calls k A1 c1 l1 (wrap64 (2 * a3)) _ _ ?s1 ?s2 HX1.out).mono ?_); (case s1 => exact Kd.C_below HR1.out (by repeat (first | (with_reducible first | apply below_alloc | apply pw_below_drewN | apply below_drew1) | exact Below.refl _ _))); (case s2 => exact HC1.out); rintro e w' ⟨rfl, ⟨nd, rfl⟩⟩)
          | (go_at_call 35; (with_reducible refine (slices_Contains_int_int.calls k A2 c2 l2 (wrap64 (wrap64 (2 * a3) + 1)) _ _ ?s1 ?s2 HS.out).mono ?_); (case s1 => exact Kd.C_below HR2.out (by repeat (first | (with_reducible first | apply below_alloc | apply pw_below_drewN | apply below_drew1) | exact Below.refl _ _))); (case s2 => exact HC2.out); rintro e w' ⟨rfl, ⟨nd, rfl⟩⟩)
          | (go_at_call 35; (with_reducible refine (slices_Contains_int_int.calls k A1 c1 l1 (wrap64 (wrap64 (2 * a3) + 1)) _ _ ?s1 ?s2 HY1.out).mono ?_); (case s1 => exact Kd.C_below HR1.out (by repeat (first | (with_reducible first | apply below_alloc | apply pw_below_drewN | apply below_drew1) | exact Below.refl _ _))); (case s2 => exact HC1.out); rintro e w' ⟨rfl, ⟨nd, rfl⟩⟩)
          | (go_at_call 35; (with_reducible refine (slices_Contains_int_int.calls k A2 c2 l2 (wrap64 (2 * a3)) _ _ ?s1 ?s2 HT.out).mono ?_); (case s1 => exact Kd.C_below HR2.out (by repeat (first | (with_reducible first | apply below_alloc | apply pw_below_drewN | apply below_drew1) | exact Below.refl _ _))); (case s2 => exact HC2.out); rintro e w' ⟨rfl, ⟨nd, rfl⟩⟩)
          | (go_at_call 37; go_loud (refine (concat2_calls (A1 := A1) (A2 := A2) (c1 := c1) (c2 := c2) (l1 := l1) (l2 := l2) (new_at (by simp)) (Kd.C_below HR1.out (by repeat (first | (with_reducible first | apply below_alloc | apply pw_below_drewN | apply below_drew1) | exact Below.refl _ _))) HC1.out (Kd.C_below HR2.out (by repeat (first | (with_reducible first | apply below_alloc | apply pw_below_drewN | apply below_drew1) | exact Below.refl _ _))) HC2.out HL1.out).mono ?_; rintro e w1 ⟨v1, rfl, hR1, hb1⟩; have HBX := Aside0.mk (below_step (by repeat (first | (with_reducible first | apply below_alloc | apply pw_below_drewN | apply below_drew1) | exact Below.refl _ _)) hb1); have HCX := Aside0.mk (pw_cell_below (a := ⟨w.heap.size, 0, none⟩) (v := .int .i64 a3) hb1 (Lib.cell?_alloc_some _ (box_cell w (.int .i64 a3) 3))); have HSX := Aside0.mk (show w.heap.size < w1.heap.size by have := hb1.size; simp at this; omega); have HVX := Aside0.mk (own_past (base := w.heap.size) (g := w.heap.size) hR1 (by simp; omega) (by simp; omega)); clear hR1 hb1))
          | (go_at_call 36; go_loud ((with_reducible refine (deleteV_calls (fun k_ => k_ ≠ w.heap.size) v1 (l1 ++ l2) a3 w.heap.size w w1 ?s1 ?s2 ?s3 ?s4 ?s5 ?s6 ?s7).mono ?_); (case s1 => exact HBX.out); (case s2 => exact HVX.out); (case s3 => exact HL0.out); (case s4 => exact HL1.out); (case s5 => exact HSX.out); (case s6 => exact HCX.out); (case s7 => exact fun _ h_ => h_); rintro e w2 ⟨v2, rfl, hR2, hb2⟩; rw [HFL.out] at hR2; have HBY := Aside0.mk hb2; obtain ⟨A3, c3, rfl, hl3, hr3⟩ := Kd.R_reads hR2; have HL3 := Aside0.mk hl3; have HR3 := Aside0.mk hr3; clear hb2 hR2 hl3 hr3))
          | (go_at_call 10; go_loud ((with_reducible refine (clause_Make.calls k a0 A3 c3 fl r1 r2 r3 _ ?s1 ?s2 HM.out).mono ?_); (case s1 => exact HR3.out); (case s2 => exact HL3.out); rintro e w3 ⟨v3, rfl, hR3, hb3⟩; have HBZ := Aside0.mk (below_step HBY.out hb3); have HVZ := Aside0.mk (Kd.R_lower hR3 HBY.out.size); clear hR3 hb3)))
          go_ret3
          exact ⟨_, rfl, HVZ.out, HBZ.out⟩
        · rw [if_neg d1] at h; simp at h
      · rw [if_neg d0] at h; simp at h
    · have HS := Aside0.mk hS
      clear hS
      have HT := Aside0.mk hT
      clear hT
      rw [if_neg (by decide)] at h
      by_cases d0 : 0 < (l1 ++ l2).length
      · rw [if_pos d0] at h
        by_cases d1 : (l1 ++ l2).length ≤ 1000000000
        · rw [if_pos d1] at h
          generalize hfl : (l1 ++ l2).filter (fun x => !decide (wrap64 (Int.tdiv x 2) = a3)) = fl at h
          have HFL := Aside0.mk hfl
          have HM := Aside0.mk h
          clear hfl
          have HL0 := Aside0.mk d0
          have HL1 := Aside0.mk d1
          clear h d0 d1
          go_enter Try.func18, Try.ntmps18
          go_wp2_with (first
          | (go_at_call 34; (with_reducible refine (clause_both.calls k a0 A1 c1 l1 A2 c2 l2 _ _ ?s1 ?s2 ?s3 ?s4 HE.out).mono ?_); (case s1 => exact Kd.C_below HR1.out (below_alloc (Below.refl _ _) _)); (case s2 => exact HC1.out); (case s3 => exact Kd.C_below HR2.out (below_alloc (Below.refl _ _) _)); (case s4 => exact HC2.out); rintro e w' ⟨rfl, ⟨nd, rfl⟩⟩)
          | (go_at_call 35; (with_reducible refine (slices_Contains_int_int.calls k A1 c1 l1 (wrap64 (2 * a3)) _ _ ?s1 ?s2 HX1.out).mono ?_); (case s1 => exact Kd.C_below HR1.out (by repeat (first | (with_reducible first | apply below_alloc | apply pw_below_drewN | apply below_drew1) | exact Below.refl _ _))); (case s2 => exact HC1.out); rintro e w' ⟨rfl, ⟨nd, rfl⟩⟩)
          | (go_at_call 35; (with_reducible refine (slices_Contains_int_int.calls k A2 c2 l2 (wrap64 (wrap64 (2 * a3) + 1)) _ _ ?s1 ?s2 HS.out).mono ?_); (case s1 => exact Kd.C_below HR2.out (by repeat (first | (with_reducible first | apply below_alloc | apply pw_below_drewN | apply below_drew1) | exact Below.refl _ _))); (case s2 => exact HC2.out); rintro e w' ⟨rfl, ⟨nd, rfl⟩⟩)
          | (go_at_call 35; (with_reducible refine (slices_Contains_int_int.calls k A1 c1 l1 (wrap64 (wrap64 (2 * a3) + 1)) _ _ ?s1 ?s2 HY1.out).mono ?_); (case s1 => exact Kd.C_below HR1.out (by repeat (first | (with_reducible first | apply below_alloc | apply pw_below_drewN | apply below_drew1) | exact Below.refl _ _))); (case s2 => exact HC1.out); rintro e w' ⟨rfl, ⟨nd, rfl⟩⟩)
          | (go_at_call 35; (with_reducible refine (slices_Contains_int_int.calls k A2 c2 l2 (wrap64 (2 * a3)) _ _ ?s1 ?s2 HT.out).mono ?_); (case s1 => exact Kd.C_below HR2.out (by repeat (first | (with_reducible first | apply below_alloc | apply pw_below_drewN | apply below_drew1) | exact Below.refl _ _))); (case s2 => exact HC2.out); rintro e w' ⟨rfl, ⟨nd, rfl⟩⟩)
          | (go_at_call 37; go_loud (refine (concat2_calls (A1 := A1) (A2 := A2) (c1 := c1) (c2 := c2) (l1 := l1) (l2 := l2) (new_at (by simp)) (Kd.C_below HR1.out (by repeat (first | (with_reducible first | apply below_alloc | apply pw_below_drewN | apply below_drew1) | exact Below.refl _ _))) HC1.out (Kd.C_below HR2.out (by repeat (first | (with_reducible first | apply below_alloc | apply pw_below_drewN | apply below_drew1) | exact Below.refl _ _))) HC2.out HL1.out).mono ?_; rintro e w1 ⟨v1, rfl, hR1, hb1⟩; have HBX := Aside0.mk (below_step (by repeat (first | (with_reducible first | apply below_alloc | apply pw_below_drewN | apply below_drew1) | exact Below.refl _ _)) hb1); have HCX := Aside0.mk (pw_cell_below (a := ⟨w.heap.size, 0, none⟩) (v := .int .i64 a3) hb1 (Lib.cell?_alloc_some _ (box_cell w (.int .i64 a3) 3))); have HSX := Aside0.mk (show w.heap.size < w1.heap.size by have := hb1.size; simp at this; omega); have HVX := Aside0.mk (own_past (base := w.heap.size) (g := w.heap.size) hR1 (by simp; omega) (by simp; omega)); clear hR1 hb1))
          | (go_at_call 36; go_loud ((with_reducible refine (deleteV_calls (fun k_ => k_ ≠ w.heap.size) v1 (l1 ++ l2) a3 w.heap.size w w1 ?s1 ?s2 ?s3 ?s4 ?s5 ?s6 ?s7).mono ?_); (case s1 => exact HBX.out); (case s2 => exact HVX.out); (case s3 => exact HL0.out); (case s4 => exact HL1.out); (case s5 => exact HSX.out); (case s6 => exact HCX.out); (case s7 => exact fun _ h_ => h_); rintro e w2 ⟨v2, rfl, hR2, hb2⟩; rw [HFL.out] at hR2; have HBY := Aside0.mk hb2; obtain ⟨A3, c3, rfl, hl3, hr3⟩ := Kd.R_reads hR2; have HL3 := Aside0.mk hl3; have HR3 := Aside0.mk hr3; clear hb2 hR2 hl3 hr3))
          | (go_at_call 10; go_loud ((with_reducible refine (clause_Make.calls k a0 A3 c3 fl r1 r2 r3 _ ?s1 ?s2 HM.out).mono ?_); (case s1 => exact HR3.out); (case s2 => exact HL3.out); rintro e w3 ⟨v3, rfl, hR3, hb3⟩; have HBZ := Aside0.mk (below_step HBY.out hb3); have HVZ := Aside0.mk (Kd.R_lower hR3 HBY.out.size); clear hR3 hb3)))
          go_ret3
          exact ⟨_, rfl, HVZ.out, HBZ.out⟩
        · rw [if_neg d1] at h; simp at h
      · rw [if_neg d0] at h; simp at h
  · rw [if_neg c] at h
    simp only [Option.some.injEq, Prod.mk.injEq] at h
    obtain ⟨rfl, rfl, rfl⟩ := h
    have b : (e0 != 0) = true := bne_iff_ne.mpr c
    clear c
    go_enter Try.func18, Try.ntmps18
    go_wp2_with (go_at_call 34; (with_reducible refine (clause_both.calls k a0 A1 c1 l1 A2 c2 l2 _ _ ?s1 ?s2 ?s3 ?s4 HE.out).mono ?_); (case s1 => exact Kd.C_below HR1.out (below_alloc (Below.refl _ _) _)); (case s2 => exact HC1.out); (case s3 => exact Kd.C_below HR2.out (below_alloc (Below.refl _ _) _)); (case s4 => exact HC2.out); rintro e w' ⟨rfl, ⟨nd, rfl⟩⟩)
    go_ret3
    exact ⟨_, rfl, Kd.R_nil _ _ _ _ _, by repeat (first | (with_reducible first | apply below_alloc | apply pw_below_drewN | apply below_drew1) | exact Below.refl _ _)⟩

/-! ### spiritlevellaw13_alive_t: function 17 -/
def spiritlevellaw13_alive_t.f (k : Nat)  : Option (Bool) := (clause_Make.f k 5 (([7, 2, 7, 4] : List Int))).bind fun bt139 => ((clause_Make.f k 5 (([5, 4] : List Int))).bind fun bt147 => ((clause_Resolve.f k 5 (([2, 4] : List Int)) (([3, 6] : List Int)) 1).bind fun bt158 => ((clause_Resolve.f k 5 (([2, 4] : List Int)) (([3, 5] : List Int)) 1).bind fun bt169 => (if bt139.2.2 = 0 then (if bt139.2.1 = true then (some false) else ((spiritlevelref13_Same.f k bt139.1 (([2, 4, 7] : List Int))).bind fun t177 => (if t177 = true then (if bt147.2.2 = 0 then (if bt147.2.1 = true then (if bt158.2.2 = 0 then (if bt158.2.1 = true then (some false) else ((spiritlevelref13_Same.f k bt158.1 (([4, 6] : List Int))).bind fun t181 => (if t181 = true then (if bt169.2.2 = 0 then (some bt169.2.1) else (some false)) else (some false)))) else (some false)) else (some false)) else (some false)) else (some false)))) else (some false)))))
theorem spiritlevellaw13_alive_t.mono : ∀ k, LeO (spiritlevellaw13_alive_t.f k ) (spiritlevellaw13_alive_t.f (k + 1) ) := by
  intro  k
  unfold spiritlevellaw13_alive_t.f
  repeat' first
      | (with_reducible exact clause_Make.mono _ _ _)
      | (with_reducible exact clause_Resolve.mono _ _ _ _ _)
      | (with_reducible exact spiritlevelref13_Same.mono _ _ _)
      | (with_reducible exact LeO.refl _)
      | (with_reducible exact LeO.none _)
      | (with_reducible refine LeO.ite ?_ ?_)
      | (with_reducible refine LeO.bind ?_ (fun _ => ?_))
      | exact clause_Make.mono _ _ _
      | exact clause_Resolve.mono _ _ _ _ _
      | exact spiritlevelref13_Same.mono _ _ _
      | exact LeO.none _
      | refine LeO.ite ?_ ?_
      | refine LeO.bind ?_ (fun _ => ?_)
set_option maxHeartbeats 8000000 in
set_option maxRecDepth 100000 in
theorem spiritlevellaw13_alive_t.calls (k : Nat)  (r : Bool) (w : World) (ht_ : r = true) (h : spiritlevellaw13_alive_t.f k  = some r) :
    Calls Try.prog 17 #[] w fun e w' => e = .returned (.bool r) ∧ Below w.heap.size w w' := by
  have HT_ := Aside0.mk ht_
  clear ht_
  have HB := Aside0.mk (Below.refl w.heap.size w)
  have H : ((clause_Make.f k 5 (([7, 2, 7, 4] : List Int))).bind fun bt139 => ((clause_Make.f k 5 (([5, 4] : List Int))).bind fun bt147 => ((clause_Resolve.f k 5 (([2, 4] : List Int)) (([3, 6] : List Int)) 1).bind fun bt158 => ((clause_Resolve.f k 5 (([2, 4] : List Int)) (([3, 5] : List Int)) 1).bind fun bt169 => (if bt139.2.2 = 0 then (if bt139.2.1 = true then (some false) else ((spiritlevelref13_Same.f k bt139.1 (([2, 4, 7] : List Int))).bind fun t177 => (if t177 = true then (if bt147.2.2 = 0 then (if bt147.2.1 = true then (if bt158.2.2 = 0 then (if bt158.2.1 = true then (some false) else ((spiritlevelref13_Same.f k bt158.1 (([4, 6] : List Int))).bind fun t181 => (if t181 = true then (if bt169.2.2 = 0 then (some bt169.2.1) else (some false)) else (some false)))) else (some false)) else (some false)) else (some false)) else (some false)))) else (some false)))))) = some r := h
  clear h
  obtain ⟨y136, hy136⟩ : ∃ y_ : List Int, y_ = (([7, 2, 7, 4] : List Int)) := ⟨_, rfl⟩
  replace H : ((clause_Make.f k 5 y136).bind fun bt139 => ((clause_Make.f k 5 (([5, 4] : List Int))).bind fun bt147 => ((clause_Resolve.f k 5 (([2, 4] : List Int)) (([3, 6] : List Int)) 1).bind fun bt158 => ((clause_Resolve.f k 5 (([2, 4] : List Int)) (([3, 5] : List Int)) 1).bind fun bt169 => (if bt139.2.2 = 0 then (if bt139.2.1 = true then (some false) else ((spiritlevelref13_Same.f k bt139.1 (([2, 4, 7] : List Int))).bind fun t177 => (if t177 = true then (if bt147.2.2 = 0 then (if bt147.2.1 = true then (if bt158.2.2 = 0 then (if bt158.2.1 = true then (some false) else ((spiritlevelref13_Same.f k bt158.1 (([4, 6] : List Int))).bind fun t181 => (if t181 = true then (if bt169.2.2 = 0 then (some bt169.2.1) else (some false)) else (some false)))) else (some false)) else (some false)) else (some false)) else (some false)))) else (some false)))))) = some r := by first | (rw [hy136]; with_reducible exact H) | (have H2_ := (Option.bind_some _ _).symm.trans H; rw [hy136]; with_reducible exact H2_) | (have H2_ := (Option.bind_some _ _).symm.trans H; with_reducible exact H2_) | with_reducible exact H | (rw [hy136]; exact H) | exact H
  have Ny136 := Aside0.mk hy136
  clear hy136
  replace H := Option.bind_eq_some_iff.mp H
  obtain ⟨⟨t139, t140, t141⟩, A10, H⟩ := H
  replace H : ((clause_Make.f k 5 (([5, 4] : List Int))).bind fun bt147 => ((clause_Resolve.f k 5 (([2, 4] : List Int)) (([3, 6] : List Int)) 1).bind fun bt158 => ((clause_Resolve.f k 5 (([2, 4] : List Int)) (([3, 5] : List Int)) 1).bind fun bt169 => (if t141 = 0 then (if t140 = true then (some false) else ((spiritlevelref13_Same.f k t139 (([2, 4, 7] : List Int))).bind fun t177 => (if t177 = true then (if bt147.2.2 = 0 then (if bt147.2.1 = true then (if bt158.2.2 = 0 then (if bt158.2.1 = true then (some false) else ((spiritlevelref13_Same.f k bt158.1 (([4, 6] : List Int))).bind fun t181 => (if t181 = true then (if bt169.2.2 = 0 then (some bt169.2.1) else (some false)) else (some false)))) else (some false)) else (some false)) else (some false)) else (some false)))) else (some false))))) = some r := H
  have A1 := Aside0.mk A10
  clear A10
  obtain ⟨y144, hy144⟩ : ∃ y_ : List Int, y_ = (([5, 4] : List Int)) := ⟨_, rfl⟩
  replace H : ((clause_Make.f k 5 y144).bind fun bt147 => ((clause_Resolve.f k 5 (([2, 4] : List Int)) (([3, 6] : List Int)) 1).bind fun bt158 => ((clause_Resolve.f k 5 (([2, 4] : List Int)) (([3, 5] : List Int)) 1).bind fun bt169 => (if t141 = 0 then (if t140 = true then (some false) else ((spiritlevelref13_Same.f k t139 (([2, 4, 7] : List Int))).bind fun t177 => (if t177 = true then (if bt147.2.2 = 0 then (if bt147.2.1 = true then (if bt158.2.2 = 0 then (if bt158.2.1 = true then (some false) else ((spiritlevelref13_Same.f k bt158.1 (([4, 6] : List Int))).bind fun t181 => (if t181 = true then (if bt169.2.2 = 0 then (some bt169.2.1) else (some false)) else (some false)))) else (some false)) else (some false)) else (some false)) else (some false)))) else (some false))))) = some r := by first | (rw [hy144]; with_reducible exact H) | (have H2_ := (Option.bind_some _ _).symm.trans H; rw [hy144]; with_reducible exact H2_) | (have H2_ := (Option.bind_some _ _).symm.trans H; with_reducible exact H2_) | with_reducible exact H | (rw [hy144]; exact H) | exact H
  have Ny144 := Aside0.mk hy144
  clear hy144
  replace H := Option.bind_eq_some_iff.mp H
  obtain ⟨⟨t147, t148, t149⟩, A20, H⟩ := H
  replace H : ((clause_Resolve.f k 5 (([2, 4] : List Int)) (([3, 6] : List Int)) 1).bind fun bt158 => ((clause_Resolve.f k 5 (([2, 4] : List Int)) (([3, 5] : List Int)) 1).bind fun bt169 => (if t141 = 0 then (if t140 = true then (some false) else ((spiritlevelref13_Same.f k t139 (([2, 4, 7] : List Int))).bind fun t177 => (if t177 = true then (if t149 = 0 then (if t148 = true then (if bt158.2.2 = 0 then (if bt158.2.1 = true then (some false) else ((spiritlevelref13_Same.f k bt158.1 (([4, 6] : List Int))).bind fun t181 => (if t181 = true then (if bt169.2.2 = 0 then (some bt169.2.1) else (some false)) else (some false)))) else (some false)) else (some false)) else (some false)) else (some false)))) else (some false)))) = some r := H
  have A2 := Aside0.mk A20
  clear A20
  obtain ⟨y152, hy152⟩ : ∃ y_ : List Int, y_ = (([2, 4] : List Int)) := ⟨_, rfl⟩
  replace H : ((clause_Resolve.f k 5 y152 (([3, 6] : List Int)) 1).bind fun bt158 => ((clause_Resolve.f k 5 (([2, 4] : List Int)) (([3, 5] : List Int)) 1).bind fun bt169 => (if t141 = 0 then (if t140 = true then (some false) else ((spiritlevelref13_Same.f k t139 (([2, 4, 7] : List Int))).bind fun t177 => (if t177 = true then (if t149 = 0 then (if t148 = true then (if bt158.2.2 = 0 then (if bt158.2.1 = true then (some false) else ((spiritlevelref13_Same.f k bt158.1 (([4, 6] : List Int))).bind fun t181 => (if t181 = true then (if bt169.2.2 = 0 then (some bt169.2.1) else (some false)) else (some false)))) else (some false)) else (some false)) else (some false)) else (some false)))) else (some false)))) = some r := by first | (rw [hy152]; with_reducible exact H) | (have H2_ := (Option.bind_some _ _).symm.trans H; rw [hy152]; with_reducible exact H2_) | (have H2_ := (Option.bind_some _ _).symm.trans H; with_reducible exact H2_) | with_reducible exact H | (rw [hy152]; exact H) | exact H
  have Ny152 := Aside0.mk hy152
  clear hy152
  obtain ⟨y155, hy155⟩ : ∃ y_ : List Int, y_ = (([3, 6] : List Int)) := ⟨_, rfl⟩
  replace H : ((clause_Resolve.f k 5 y152 y155 1).bind fun bt158 => ((clause_Resolve.f k 5 (([2, 4] : List Int)) (([3, 5] : List Int)) 1).bind fun bt169 => (if t141 = 0 then (if t140 = true then (some false) else ((spiritlevelref13_Same.f k t139 (([2, 4, 7] : List Int))).bind fun t177 => (if t177 = true then (if t149 = 0 then (if t148 = true then (if bt158.2.2 = 0 then (if bt158.2.1 = true then (some false) else ((spiritlevelref13_Same.f k bt158.1 (([4, 6] : List Int))).bind fun t181 => (if t181 = true then (if bt169.2.2 = 0 then (some bt169.2.1) else (some false)) else (some false)))) else (some false)) else (some false)) else (some false)) else (some false)))) else (some false)))) = some r := by first | (rw [hy155]; with_reducible exact H) | (have H2_ := (Option.bind_some _ _).symm.trans H; rw [hy155]; with_reducible exact H2_) | (have H2_ := (Option.bind_some _ _).symm.trans H; with_reducible exact H2_) | with_reducible exact H | (rw [hy155]; exact H) | exact H
  have Ny155 := Aside0.mk hy155
  clear hy155
  replace H := Option.bind_eq_some_iff.mp H
  obtain ⟨⟨t158, t159, t160⟩, A30, H⟩ := H
  replace H : ((clause_Resolve.f k 5 (([2, 4] : List Int)) (([3, 5] : List Int)) 1).bind fun bt169 => (if t141 = 0 then (if t140 = true then (some false) else ((spiritlevelref13_Same.f k t139 (([2, 4, 7] : List Int))).bind fun t177 => (if t177 = true then (if t149 = 0 then (if t148 = true then (if t160 = 0 then (if t159 = true then (some false) else ((spiritlevelref13_Same.f k t158 (([4, 6] : List Int))).bind fun t181 => (if t181 = true then (if bt169.2.2 = 0 then (some bt169.2.1) else (some false)) else (some false)))) else (some false)) else (some false)) else (some false)) else (some false)))) else (some false))) = some r := H
  have A3 := Aside0.mk A30
  clear A30
  obtain ⟨y163, hy163⟩ : ∃ y_ : List Int, y_ = (([2, 4] : List Int)) := ⟨_, rfl⟩
  replace H : ((clause_Resolve.f k 5 y163 (([3, 5] : List Int)) 1).bind fun bt169 => (if t141 = 0 then (if t140 = true then (some false) else ((spiritlevelref13_Same.f k t139 (([2, 4, 7] : List Int))).bind fun t177 => (if t177 = true then (if t149 = 0 then (if t148 = true then (if t160 = 0 then (if t159 = true then (some false) else ((spiritlevelref13_Same.f k t158 (([4, 6] : List Int))).bind fun t181 => (if t181 = true then (if bt169.2.2 = 0 then (some bt169.2.1) else (some false)) else (some false)))) else (some false)) else (some false)) else (some false)) else (some false)))) else (some false))) = some r := by first | (rw [hy163]; with_reducible exact H) | (have H2_ := (Option.bind_some _ _).symm.trans H; rw [hy163]; with_reducible exact H2_) | (have H2_ := (Option.bind_some _ _).symm.trans H; with_reducible exact H2_) | with_reducible exact H | (rw [hy163]; exact H) | exact H
  have Ny163 := Aside0.mk hy163
  clear hy163
  obtain ⟨y166, hy166⟩ : ∃ y_ : List Int, y_ = (([3, 5] : List Int)) := ⟨_, rfl⟩
  replace H : ((clause_Resolve.f k 5 y163 y166 1).bind fun bt169 => (if t141 = 0 then (if t140 = true then (some false) else ((spiritlevelref13_Same.f k t139 (([2, 4, 7] : List Int))).bind fun t177 => (if t177 = true then (if t149 = 0 then (if t148 = true then (if t160 = 0 then (if t159 = true then (some false) else ((spiritlevelref13_Same.f k t158 (([4, 6] : List Int))).bind fun t181 => (if t181 = true then (if bt169.2.2 = 0 then (some bt169.2.1) else (some false)) else (some false)))) else (some false)) else (some false)) else (some false)) else (some false)))) else (some false))) = some r := by first | (rw [hy166]; with_reducible exact H) | (have H2_ := (Option.bind_some _ _).symm.trans H; rw [hy166]; with_reducible exact H2_) | (have H2_ := (Option.bind_some _ _).symm.trans H; with_reducible exact H2_) | with_reducible exact H | (rw [hy166]; exact H) | exact H
  have Ny166 := Aside0.mk hy166
  clear hy166
  replace H := Option.bind_eq_some_iff.mp H
  obtain ⟨⟨t169, t170, t171⟩, A40, H⟩ := H
  replace H : (if t141 = 0 then (if t140 = true then (some false) else ((spiritlevelref13_Same.f k t139 (([2, 4, 7] : List Int))).bind fun t177 => (if t177 = true then (if t149 = 0 then (if t148 = true then (if t160 = 0 then (if t159 = true then (some false) else ((spiritlevelref13_Same.f k t158 (([4, 6] : List Int))).bind fun t181 => (if t181 = true then (if t171 = 0 then (some t170) else (some false)) else (some false)))) else (some false)) else (some false)) else (some false)) else (some false)))) else (some false)) = some r := H
  have A4 := Aside0.mk A40
  clear A40
  by_cases c5 : t141 = 0
  · rw [if_pos c5] at H
    have c5b0 : (t141 == 0) = true := beq_iff_eq.mpr c5
    have c5b1 : (t141 != 0) = false := bne_eq_false_iff_eq.mpr c5
    clear c5
    by_cases c6 : t140 = true
    · subst c6
      have H1 : (some false) = some r := by rw [if_pos rfl] at H; exact H
      clear H
      have H := H1
      clear H1
      exact absurd ((Option.some.inj H).trans HT_.out) (by decide)
    · replace c6 := Bool.eq_false_iff.mpr c6
      subst c6
      have H1 : ((spiritlevelref13_Same.f k t139 (([2, 4, 7] : List Int))).bind fun t177 => (if t177 = true then (if t149 = 0 then (if t148 = true then (if t160 = 0 then (if t159 = true then (some false) else ((spiritlevelref13_Same.f k t158 (([4, 6] : List Int))).bind fun t181 => (if t181 = true then (if t171 = 0 then (some t170) else (some false)) else (some false)))) else (some false)) else (some false)) else (some false)) else (some false))) = some r := by rw [if_neg (show ¬ (false = true) by decide)] at H; exact H
      clear H
      have H := H1
      clear H1
      obtain ⟨y174, hy174⟩ : ∃ y_ : List Int, y_ = (([2, 4, 7] : List Int)) := ⟨_, rfl⟩
      replace H : ((spiritlevelref13_Same.f k t139 y174).bind fun t177 => (if t177 = true then (if t149 = 0 then (if t148 = true then (if t160 = 0 then (if t159 = true then (some false) else ((spiritlevelref13_Same.f k t158 (([4, 6] : List Int))).bind fun t181 => (if t181 = true then (if t171 = 0 then (some t170) else (some false)) else (some false)))) else (some false)) else (some false)) else (some false)) else (some false))) = some r := by first | (rw [hy174]; with_reducible exact H) | (have H2_ := (Option.bind_some _ _).symm.trans H; rw [hy174]; with_reducible exact H2_) | (have H2_ := (Option.bind_some _ _).symm.trans H; with_reducible exact H2_) | with_reducible exact H | (rw [hy174]; exact H) | exact H
      have Ny174 := Aside0.mk hy174
      clear hy174
      replace H := Option.bind_eq_some_iff.mp H
      obtain ⟨t177, A70, H⟩ := H
      replace H : (if t177 = true then (if t149 = 0 then (if t148 = true then (if t160 = 0 then (if t159 = true then (some false) else ((spiritlevelref13_Same.f k t158 (([4, 6] : List Int))).bind fun t181 => (if t181 = true then (if t171 = 0 then (some t170) else (some false)) else (some false)))) else (some false)) else (some false)) else (some false)) else (some false)) = some r := H
      have A7 := Aside0.mk A70
      clear A70
      by_cases c8 : t177 = true
      · subst c8
        have H1 : (if t149 = 0 then (if t148 = true then (if t160 = 0 then (if t159 = true then (some false) else ((spiritlevelref13_Same.f k t158 (([4, 6] : List Int))).bind fun t181 => (if t181 = true then (if t171 = 0 then (some t170) else (some false)) else (some false)))) else (some false)) else (some false)) else (some false)) = some r := by rw [if_pos rfl] at H; exact H
        clear H
        have H := H1
        clear H1
        by_cases c9 : t149 = 0
        · rw [if_pos c9] at H
          have c9b0 : (t149 == 0) = true := beq_iff_eq.mpr c9
          have c9b1 : (t149 != 0) = false := bne_eq_false_iff_eq.mpr c9
          clear c9
          by_cases c10 : t148 = true
          · subst c10
            have H1 : (if t160 = 0 then (if t159 = true then (some false) else ((spiritlevelref13_Same.f k t158 (([4, 6] : List Int))).bind fun t181 => (if t181 = true then (if t171 = 0 then (some t170) else (some false)) else (some false)))) else (some false)) = some r := by rw [if_pos rfl] at H; exact H
            clear H
            have H := H1
            clear H1
            by_cases c11 : t160 = 0
            · rw [if_pos c11] at H
              have c11b0 : (t160 == 0) = true := beq_iff_eq.mpr c11
              have c11b1 : (t160 != 0) = false := bne_eq_false_iff_eq.mpr c11
              clear c11
              by_cases c12 : t159 = true
              · subst c12
                have H1 : (some false) = some r := by rw [if_pos rfl] at H; exact H
                clear H
                have H := H1
                clear H1
                exact absurd ((Option.some.inj H).trans HT_.out) (by decide)
              · replace c12 := Bool.eq_false_iff.mpr c12
                subst c12
                have H1 : ((spiritlevelref13_Same.f k t158 (([4, 6] : List Int))).bind fun t181 => (if t181 = true then (if t171 = 0 then (some t170) else (some false)) else (some false))) = some r := by rw [if_neg (show ¬ (false = true) by decide)] at H; exact H
                clear H
                have H := H1
                clear H1
                obtain ⟨y178, hy178⟩ : ∃ y_ : List Int, y_ = (([4, 6] : List Int)) := ⟨_, rfl⟩
                replace H : ((spiritlevelref13_Same.f k t158 y178).bind fun t181 => (if t181 = true then (if t171 = 0 then (some t170) else (some false)) else (some false))) = some r := by first | (rw [hy178]; with_reducible exact H) | (have H2_ := (Option.bind_some _ _).symm.trans H; rw [hy178]; with_reducible exact H2_) | (have H2_ := (Option.bind_some _ _).symm.trans H; with_reducible exact H2_) | with_reducible exact H | (rw [hy178]; exact H) | exact H
                have Ny178 := Aside0.mk hy178
                clear hy178
                replace H := Option.bind_eq_some_iff.mp H
                obtain ⟨t181, A130, H⟩ := H
                replace H : (if t181 = true then (if t171 = 0 then (some t170) else (some false)) else (some false)) = some r := H
                have A13 := Aside0.mk A130
                clear A130
                by_cases c14 : t181 = true
                · subst c14
                  have H1 : (if t171 = 0 then (some t170) else (some false)) = some r := by rw [if_pos rfl] at H; exact H
                  clear H
                  have H := H1
                  clear H1
                  by_cases c15 : t171 = 0
                  · rw [if_pos c15] at H
                    have c15b0 : (t171 == 0) = true := beq_iff_eq.mpr c15
                    have c15b1 : (t171 != 0) = false := bne_eq_false_iff_eq.mpr c15
                    clear c15
                    obtain rfl := Option.some.inj H
                    go_enter Try.func17, Try.ntmps17
                    go_wp2_with (first | ((with_reducible refine gate_dst (N := 14) rfl ?_); (try (refine gate_guard (by rfl) ?_; dsimp only)); refine Kd.R_lit (Kd.int .i64) _ 3 ?hg (N := 14) ?hd (xs := ([7, 2, 7, 4] : List Int)) (inner := [.int .i64 7, .int .i64 2, .int .i64 7, .int .i64 4]) (ok := fun _ => True) (okp := fun _ => True) ?hr ?hp (fun _ hk => hk) trivial (Below.refl _ _) (Nat.le_refl _) (by simp) ?_; (case hd => rfl); (case hg => rfl); (case hr => first | (go_simp; done) | (go_simp; rfl)); (case hp => exact (Reps.one (show Kd.M (Kd.int .i64) _ _ _ 7 [.int .i64 7] from rfl) (Reps.one (show Kd.M (Kd.int .i64) _ _ _ 2 [.int .i64 2] from rfl) (Reps.one (show Kd.M (Kd.int .i64) _ _ _ 7 [.int .i64 7] from rfl) (Reps.one (show Kd.M (Kd.int .i64) _ _ _ 4 [.int .i64 4] from rfl) (Reps.none _ _)))))); intro v137 w16 ho17 hb hg_ hnew_; clear hg_ hnew_; (first | rw [← Ny136.out] at ho17 | (simp only [Int.reduceToNat] at ho17; rw [← Ny136.out] at ho17)); have n0_ := Aside0.mk (Kd.R_lower ho17 (below_size (by repeat (first | (with_reducible first | exact HB.out | apply below_alloc | apply pw_below_drewN | apply below_drew1) | exact HB.out)))); have n1_ := Aside0.mk (below_step (by repeat (first | (with_reducible first | exact HB.out | apply below_alloc | apply pw_below_drewN | apply below_drew1) | exact HB.out)) hb); clear HB; have HO138 := n0_; have HB := n1_; clear n0_ n1_; clear hb ho17; obtain ⟨Ao18, co18, eo18⟩ := Kd.R_slice HO138.out; subst eo18) | ((with_reducible refine gate_callee (f := 10) rfl ?_); refine goesL_ (some 15) rfl rfl Try.func10 (by kernel_rfl) rfl #[.int .i64 5, .slice Ao18 y136.length co18] rfl (by (try simp only [List.map_toArray, List.map_cons, List.map_nil]); first | done | rfl | (simp only [List.length_drop, List.length_take]; rfl)) ?_; (with_reducible refine (clause_Make.calls k 5 _ _ y136 t139 false t141 _ ?side1 ?side2 A1.out).mono ?_); (case side1 => repeat (first | exact (Kd.R_reads' HO138.out).2.2 | (with_reducible refine Kd.C_alloc ?_ _) | (with_reducible refine Kd.C_drewN ?_ _) | (with_reducible refine Kd.C_drew ?_))); (case side2 => exact (Kd.R_reads' HO138.out).2.1); rintro e w19 ⟨v142, rfl, ho0, hb⟩; refine ⟨_, rfl, ?_⟩; have n0_ := Aside0.mk (Kd.R_elder' (by (with_reducible repeat (first | apply Kd.R_alloc | apply Kd.R_drewN | apply Kd.R_drew)); exact HO138.out) (Kd.R_base ho0) hb); have n1_ := Aside0.mk (Kd.R_lower (Kd.R_new' ho0 (Kd.R_lt (by (with_reducible repeat (first | apply Kd.R_alloc | apply Kd.R_drewN | apply Kd.R_drew)); exact HO138.out))) (below_size (by repeat (first | (with_reducible first | exact HB.out | apply below_alloc | apply pw_below_drewN | apply below_drew1) | exact HB.out)))); have n2_ := Aside0.mk (below_step (by repeat (first | (with_reducible first | exact HB.out | apply below_alloc | apply pw_below_drewN | apply below_drew1) | exact HB.out)) hb); clear HO138; clear HB; have HO138 := n0_; have HO143 := n1_; have HB := n2_; clear n0_ n1_ n2_; (try clear hb); (try clear hb2); (try clear hk); (try clear hi); (try clear ho0)) | ((with_reducible refine gate_dst (N := 20) rfl ?_); (try (refine gate_guard (by rfl) ?_; dsimp only)); refine Kd.R_lit (Kd.int .i64) _ 3 ?hg (N := 20) ?hd (xs := ([5, 4] : List Int)) (inner := [.int .i64 5, .int .i64 4]) (ok := fun _ => True) (okp := fun _ => True) ?hr ?hp (fun _ hk => hk) trivial (Below.refl _ _) (Nat.le_refl _) (by simp) ?_; (case hd => rfl); (case hg => rfl); (case hr => first | (go_simp; done) | (go_simp; rfl)); (case hp => exact (Reps.one (show Kd.M (Kd.int .i64) _ _ _ 5 [.int .i64 5] from rfl) (Reps.one (show Kd.M (Kd.int .i64) _ _ _ 4 [.int .i64 4] from rfl) (Reps.none _ _)))); intro v145 w20 ho21 hb hg_ hnew_; clear hg_ hnew_; (first | rw [← Ny144.out] at ho21 | (simp only [Int.reduceToNat] at ho21; rw [← Ny144.out] at ho21)); have n0_ := Aside0.mk (Kd.R_elder' (by (with_reducible repeat (first | apply Kd.R_alloc | apply Kd.R_drewN | apply Kd.R_drew)); exact HO138.out) (Kd.R_base ho21) hb); have n1_ := Aside0.mk (Kd.R_elder' (by (with_reducible repeat (first | apply Kd.R_alloc | apply Kd.R_drewN | apply Kd.R_drew)); exact HO143.out) (Kd.R_base ho21) hb); have n2_ := Aside0.mk (Kd.R_lower (Kd.R_new' (Kd.R_new' ho21 (Kd.R_lt (by (with_reducible repeat (first | apply Kd.R_alloc | apply Kd.R_drewN | apply Kd.R_drew)); exact HO138.out))) (Kd.R_lt (by (with_reducible repeat (first | apply Kd.R_alloc | apply Kd.R_drewN | apply Kd.R_drew)); exact HO143.out))) (below_size (by repeat (first | (with_reducible first | exact HB.out | apply below_alloc | apply pw_below_drewN | apply below_drew1) | exact HB.out)))); have n3_ := Aside0.mk (below_step (by repeat (first | (with_reducible first | exact HB.out | apply below_alloc | apply pw_below_drewN | apply below_drew1) | exact HB.out)) hb); clear HO138; clear HO143; clear HB; have HO138 := n0_; have HO143 := n1_; have HO146 := n2_; have HB := n3_; clear n0_ n1_ n2_ n3_; clear hb ho21; obtain ⟨Ao22, co22, eo22⟩ := Kd.R_slice HO146.out; subst eo22) | ((with_reducible refine gate_callee (f := 10) rfl ?_); refine goesL_ (some 21) rfl rfl Try.func10 (by kernel_rfl) rfl #[.int .i64 5, .slice Ao22 y144.length co22] rfl (by (try simp only [List.map_toArray, List.map_cons, List.map_nil]); first | done | rfl | (simp only [List.length_drop, List.length_take]; rfl)) ?_; (with_reducible refine (clause_Make.calls k 5 _ _ y144 t147 true t149 _ ?side1 ?side2 A2.out).mono ?_); (case side1 => repeat (first | exact (Kd.R_reads' HO146.out).2.2 | (with_reducible refine Kd.C_alloc ?_ _) | (with_reducible refine Kd.C_drewN ?_ _) | (with_reducible refine Kd.C_drew ?_))); (case side2 => exact (Kd.R_reads' HO146.out).2.1); rintro e w23 ⟨v150, rfl, ho0, hb⟩; refine ⟨_, rfl, ?_⟩; have n0_ := Aside0.mk (Kd.R_elder' (by (with_reducible repeat (first | apply Kd.R_alloc | apply Kd.R_drewN | apply Kd.R_drew)); exact HO138.out) (Kd.R_base ho0) hb); have n1_ := Aside0.mk (Kd.R_elder' (by (with_reducible repeat (first | apply Kd.R_alloc | apply Kd.R_drewN | apply Kd.R_drew)); exact HO143.out) (Kd.R_base ho0) hb); have n2_ := Aside0.mk (Kd.R_elder' (by (with_reducible repeat (first | apply Kd.R_alloc | apply Kd.R_drewN | apply Kd.R_drew)); exact HO146.out) (Kd.R_base ho0) hb); have n3_ := Aside0.mk (Kd.R_lower (Kd.R_new' (Kd.R_new' (Kd.R_new' ho0 (Kd.R_lt (by (with_reducible repeat (first | apply Kd.R_alloc | apply Kd.R_drewN | apply Kd.R_drew)); exact HO138.out))) (Kd.R_lt (by (with_reducible repeat (first | apply Kd.R_alloc | apply Kd.R_drewN | apply Kd.R_drew)); exact HO143.out))) (Kd.R_lt (by (with_reducible repeat (first | apply Kd.R_alloc | apply Kd.R_drewN | apply Kd.R_drew)); exact HO146.out))) (below_size (by repeat (first | (with_reducible first | exact HB.out | apply below_alloc | apply pw_below_drewN | apply below_drew1) | exact HB.out)))); have n4_ := Aside0.mk (below_step (by repeat (first | (with_reducible first | exact HB.out | apply below_alloc | apply pw_below_drewN | apply below_drew1) | exact HB.out)) hb); clear HO138; clear HO143; clear HO146; clear HB; have HO138 := n0_; have HO143 := n1_; have HO146 := n2_; have HO151 := n3_; have HB := n4_; clear n0_ n1_ n2_ n3_ n4_; (try clear hb); (try clear hb2); (try clear hk); (try clear hi); (try clear ho0)) | ((with_reducible refine gate_dst (N := 26) rfl ?_); (try (refine gate_guard (by rfl) ?_; dsimp only)); refine Kd.R_lit (Kd.int .i64) _ 3 ?hg (N := 26) ?hd (xs := ([2, 4] : List Int)) (inner := [.int .i64 2, .int .i64 4]) (ok := fun _ => True) (okp := fun _ => True) ?hr ?hp (fun _ hk => hk) trivial (Below.refl _ _) (Nat.le_refl _) (by simp) ?_; (case hd => rfl); (case hg => rfl); (case hr => first | (go_simp; done) | (go_simp; rfl)); (case hp => exact (Reps.one (show Kd.M (Kd.int .i64) _ _ _ 2 [.int .i64 2] from rfl) (Reps.one (show Kd.M (Kd.int .i64) _ _ _ 4 [.int .i64 4] from rfl) (Reps.none _ _)))); intro v153 w24 ho25 hb hg_ hnew_; clear hg_ hnew_; (first | rw [← Ny152.out] at ho25 | (simp only [Int.reduceToNat] at ho25; rw [← Ny152.out] at ho25)); have n0_ := Aside0.mk (Kd.R_elder' (by (with_reducible repeat (first | apply Kd.R_alloc | apply Kd.R_drewN | apply Kd.R_drew)); exact HO138.out) (Kd.R_base ho25) hb); have n1_ := Aside0.mk (Kd.R_elder' (by (with_reducible repeat (first | apply Kd.R_alloc | apply Kd.R_drewN | apply Kd.R_drew)); exact HO143.out) (Kd.R_base ho25) hb); have n2_ := Aside0.mk (Kd.R_elder' (by (with_reducible repeat (first | apply Kd.R_alloc | apply Kd.R_drewN | apply Kd.R_drew)); exact HO146.out) (Kd.R_base ho25) hb); have n3_ := Aside0.mk (Kd.R_elder' (by (with_reducible repeat (first | apply Kd.R_alloc | apply Kd.R_drewN | apply Kd.R_drew)); exact HO151.out) (Kd.R_base ho25) hb); have n4_ := Aside0.mk (Kd.R_lower (Kd.R_new' (Kd.R_new' (Kd.R_new' (Kd.R_new' ho25 (Kd.R_lt (by (with_reducible repeat (first | apply Kd.R_alloc | apply Kd.R_drewN | apply Kd.R_drew)); exact HO138.out))) (Kd.R_lt (by (with_reducible repeat (first | apply Kd.R_alloc | apply Kd.R_drewN | apply Kd.R_drew)); exact HO143.out))) (Kd.R_lt (by (with_reducible repeat (first | apply Kd.R_alloc | apply Kd.R_drewN | apply Kd.R_drew)); exact HO146.out))) (Kd.R_lt (by (with_reducible repeat (first | apply Kd.R_alloc | apply Kd.R_drewN | apply Kd.R_drew)); exact HO151.out))) (below_size (by repeat (first | (with_reducible first | exact HB.out | apply below_alloc | apply pw_below_drewN | apply below_drew1) | exact HB.out)))); have n5_ := Aside0.mk (below_step (by repeat (first | (with_reducible first | exact HB.out | apply below_alloc | apply pw_below_drewN | apply below_drew1) | exact HB.out)) hb); clear HO138; clear HO143; clear HO146; clear HO151; clear HB; have HO138 := n0_; have HO143 := n1_; have HO146 := n2_; have HO151 := n3_; have HO154 := n4_; have HB := n5_; clear n0_ n1_ n2_ n3_ n4_ n5_; clear hb ho25) | ((with_reducible refine gate_dst (N := 27) rfl ?_); (try (refine gate_guard (by rfl) ?_; dsimp only)); refine Kd.R_lit (Kd.int .i64) _ 3 ?hg (N := 27) ?hd (xs := ([3, 6] : List Int)) (inner := [.int .i64 3, .int .i64 6]) (ok := fun _ => True) (okp := fun _ => True) ?hr ?hp (fun _ hk => hk) trivial (Below.refl _ _) (Nat.le_refl _) (by simp) ?_; (case hd => rfl); (case hg => rfl); (case hr => first | (go_simp; done) | (go_simp; rfl)); (case hp => exact (Reps.one (show Kd.M (Kd.int .i64) _ _ _ 3 [.int .i64 3] from rfl) (Reps.one (show Kd.M (Kd.int .i64) _ _ _ 6 [.int .i64 6] from rfl) (Reps.none _ _)))); intro v156 w26 ho27 hb hg_ hnew_; clear hg_ hnew_; (first | rw [← Ny155.out] at ho27 | (simp only [Int.reduceToNat] at ho27; rw [← Ny155.out] at ho27)); have n0_ := Aside0.mk (Kd.R_elder' (by (with_reducible repeat (first | apply Kd.R_alloc | apply Kd.R_drewN | apply Kd.R_drew)); exact HO138.out) (Kd.R_base ho27) hb); have n1_ := Aside0.mk (Kd.R_elder' (by (with_reducible repeat (first | apply Kd.R_alloc | apply Kd.R_drewN | apply Kd.R_drew)); exact HO143.out) (Kd.R_base ho27) hb); have n2_ := Aside0.mk (Kd.R_elder' (by (with_reducible repeat (first | apply Kd.R_alloc | apply Kd.R_drewN | apply Kd.R_drew)); exact HO146.out) (Kd.R_base ho27) hb); have n3_ := Aside0.mk (Kd.R_elder' (by (with_reducible repeat (first | apply Kd.R_alloc | apply Kd.R_drewN | apply Kd.R_drew)); exact HO151.out) (Kd.R_base ho27) hb); have n4_ := Aside0.mk (Kd.R_elder' (by (with_reducible repeat (first | apply Kd.R_alloc | apply Kd.R_drewN | apply Kd.R_drew)); exact HO154.out) (Kd.R_base ho27) hb); have n5_ := Aside0.mk (Kd.R_lower (Kd.R_new' (Kd.R_new' (Kd.R_new' (Kd.R_new' (Kd.R_new' ho27 (Kd.R_lt (by (with_reducible repeat (first | apply Kd.R_alloc | apply Kd.R_drewN | apply Kd.R_drew)); exact HO138.out))) (Kd.R_lt (by (with_reducible repeat (first | apply Kd.R_alloc | apply Kd.R_drewN | apply Kd.R_drew)); exact HO143.out))) (Kd.R_lt (by (with_reducible repeat (first | apply Kd.R_alloc | apply Kd.R_drewN | apply Kd.R_drew)); exact HO146.out))) (Kd.R_lt (by (with_reducible repeat (first | apply Kd.R_alloc | apply Kd.R_drewN | apply Kd.R_drew)); exact HO151.out))) (Kd.R_lt (by (with_reducible repeat (first | apply Kd.R_alloc | apply Kd.R_drewN | apply Kd.R_drew)); exact HO154.out))) (below_size (by repeat (first | (with_reducible first | exact HB.out | apply below_alloc | apply pw_below_drewN | apply below_drew1) | exact HB.out)))); have n6_ := Aside0.mk (below_step (by repeat (first | (with_reducible first | exact HB.out | apply below_alloc | apply pw_below_drewN | apply below_drew1) | exact HB.out)) hb); clear HO138; clear HO143; clear HO146; clear HO151; clear HO154; clear HB; have HO138 := n0_; have HO143 := n1_; have HO146 := n2_; have HO151 := n3_; have HO154 := n4_; have HO157 := n5_; have HB := n6_; clear n0_ n1_ n2_ n3_ n4_ n5_ n6_; clear hb ho27; obtain ⟨Ao28, co28, eo28⟩ := Kd.R_slice HO154.out; subst eo28; obtain ⟨Ao29, co29, eo29⟩ := Kd.R_slice HO157.out; subst eo29) | ((with_reducible refine gate_callee (f := 18) rfl ?_); refine goesL_ (some 28) rfl rfl Try.func18 (by kernel_rfl) rfl #[.int .i64 5, .slice Ao28 y152.length co28, .slice Ao29 y155.length co29, .int .i64 1] rfl (by (try simp only [List.map_toArray, List.map_cons, List.map_nil]); first | done | rfl | (simp only [List.length_drop, List.length_take]; rfl)) ?_; (with_reducible refine (clause_Resolve.calls k 5 _ _ y152 _ _ y155 1 t158 false t160 _ ?side1 ?side2 ?side3 ?side4 A3.out).mono ?_); (case side1 => repeat (first | exact (Kd.R_reads' HO154.out).2.2 | (with_reducible refine Kd.C_alloc ?_ _) | (with_reducible refine Kd.C_drewN ?_ _) | (with_reducible refine Kd.C_drew ?_))); (case side2 => exact (Kd.R_reads' HO154.out).2.1); (case side3 => repeat (first | exact (Kd.R_reads' HO157.out).2.2 | (with_reducible refine Kd.C_alloc ?_ _) | (with_reducible refine Kd.C_drewN ?_ _) | (with_reducible refine Kd.C_drew ?_))); (case side4 => exact (Kd.R_reads' HO157.out).2.1); rintro e w30 ⟨v161, rfl, ho0, hb⟩; refine ⟨_, rfl, ?_⟩; have n0_ := Aside0.mk (Kd.R_elder' (by (with_reducible repeat (first | apply Kd.R_alloc | apply Kd.R_drewN | apply Kd.R_drew)); exact HO138.out) (Kd.R_base ho0) hb); have n1_ := Aside0.mk (Kd.R_elder' (by (with_reducible repeat (first | apply Kd.R_alloc | apply Kd.R_drewN | apply Kd.R_drew)); exact HO143.out) (Kd.R_base ho0) hb); have n2_ := Aside0.mk (Kd.R_elder' (by (with_reducible repeat (first | apply Kd.R_alloc | apply Kd.R_drewN | apply Kd.R_drew)); exact HO146.out) (Kd.R_base ho0) hb); have n3_ := Aside0.mk (Kd.R_elder' (by (with_reducible repeat (first | apply Kd.R_alloc | apply Kd.R_drewN | apply Kd.R_drew)); exact HO151.out) (Kd.R_base ho0) hb); have n4_ := Aside0.mk (Kd.R_elder' (by (with_reducible repeat (first | apply Kd.R_alloc | apply Kd.R_drewN | apply Kd.R_drew)); exact HO154.out) (Kd.R_base ho0) hb); have n5_ := Aside0.mk (Kd.R_elder' (by (with_reducible repeat (first | apply Kd.R_alloc | apply Kd.R_drewN | apply Kd.R_drew)); exact HO157.out) (Kd.R_base ho0) hb); have n6_ := Aside0.mk (Kd.R_lower (Kd.R_new' (Kd.R_new' (Kd.R_new' (Kd.R_new' (Kd.R_new' (Kd.R_new' ho0 (Kd.R_lt (by (with_reducible repeat (first | apply Kd.R_alloc | apply Kd.R_drewN | apply Kd.R_drew)); exact HO138.out))) (Kd.R_lt (by (with_reducible repeat (first | apply Kd.R_alloc | apply Kd.R_drewN | apply Kd.R_drew)); exact HO143.out))) (Kd.R_lt (by (with_reducible repeat (first | apply Kd.R_alloc | apply Kd.R_drewN | apply Kd.R_drew)); exact HO146.out))) (Kd.R_lt (by (with_reducible repeat (first | apply Kd.R_alloc | apply Kd.R_drewN | apply Kd.R_drew)); exact HO151.out))) (Kd.R_lt (by (with_reducible repeat (first | apply Kd.R_alloc | apply Kd.R_drewN | apply Kd.R_drew)); exact HO154.out))) (Kd.R_lt (by (with_reducible repeat (first | apply Kd.R_alloc | apply Kd.R_drewN | apply Kd.R_drew)); exact HO157.out))) (below_size (by repeat (first | (with_reducible first | exact HB.out | apply below_alloc | apply pw_below_drewN | apply below_drew1) | exact HB.out)))); have n7_ := Aside0.mk (below_step (by repeat (first | (with_reducible first | exact HB.out | apply below_alloc | apply pw_below_drewN | apply below_drew1) | exact HB.out)) hb); clear HO138; clear HO143; clear HO146; clear HO151; clear HO154; clear HO157; clear HB; have HO138 := n0_; have HO143 := n1_; have HO146 := n2_; have HO151 := n3_; have HO154 := n4_; have HO157 := n5_; have HO162 := n6_; have HB := n7_; clear n0_ n1_ n2_ n3_ n4_ n5_ n6_ n7_; (try clear hb); (try clear hb2); (try clear hk); (try clear hi); (try clear ho0)) | ((with_reducible refine gate_dst (N := 33) rfl ?_); (try (refine gate_guard (by rfl) ?_; dsimp only)); refine Kd.R_lit (Kd.int .i64) _ 3 ?hg (N := 33) ?hd (xs := ([2, 4] : List Int)) (inner := [.int .i64 2, .int .i64 4]) (ok := fun _ => True) (okp := fun _ => True) ?hr ?hp (fun _ hk => hk) trivial (Below.refl _ _) (Nat.le_refl _) (by simp) ?_; (case hd => rfl); (case hg => rfl); (case hr => first | (go_simp; done) | (go_simp; rfl)); (case hp => exact (Reps.one (show Kd.M (Kd.int .i64) _ _ _ 2 [.int .i64 2] from rfl) (Reps.one (show Kd.M (Kd.int .i64) _ _ _ 4 [.int .i64 4] from rfl) (Reps.none _ _)))); intro v164 w31 ho32 hb hg_ hnew_; clear hg_ hnew_; (first | rw [← Ny163.out] at ho32 | (simp only [Int.reduceToNat] at ho32; rw [← Ny163.out] at ho32)); have n0_ := Aside0.mk (Kd.R_elder' (by (with_reducible repeat (first | apply Kd.R_alloc | apply Kd.R_drewN | apply Kd.R_drew)); exact HO138.out) (Kd.R_base ho32) hb); have n1_ := Aside0.mk (Kd.R_elder' (by (with_reducible repeat (first | apply Kd.R_alloc | apply Kd.R_drewN | apply Kd.R_drew)); exact HO143.out) (Kd.R_base ho32) hb); have n2_ := Aside0.mk (Kd.R_elder' (by (with_reducible repeat (first | apply Kd.R_alloc | apply Kd.R_drewN | apply Kd.R_drew)); exact HO146.out) (Kd.R_base ho32) hb); have n3_ := Aside0.mk (Kd.R_elder' (by (with_reducible repeat (first | apply Kd.R_alloc | apply Kd.R_drewN | apply Kd.R_drew)); exact HO151.out) (Kd.R_base ho32) hb); have n4_ := Aside0.mk (Kd.R_elder' (by (with_reducible repeat (first | apply Kd.R_alloc | apply Kd.R_drewN | apply Kd.R_drew)); exact HO154.out) (Kd.R_base ho32) hb); have n5_ := Aside0.mk (Kd.R_elder' (by (with_reducible repeat (first | apply Kd.R_alloc | apply Kd.R_drewN | apply Kd.R_drew)); exact HO157.out) (Kd.R_base ho32) hb); have n6_ := Aside0.mk (Kd.R_elder' (by (with_reducible repeat (first | apply Kd.R_alloc | apply Kd.R_drewN | apply Kd.R_drew)); exact HO162.out) (Kd.R_base ho32) hb); have n7_ := Aside0.mk (Kd.R_lower (Kd.R_new' (Kd.R_new' (Kd.R_new' (Kd.R_new' (Kd.R_new' (Kd.R_new' (Kd.R_new' ho32 (Kd.R_lt (by (with_reducible repeat (first | apply Kd.R_alloc | apply Kd.R_drewN | apply Kd.R_drew)); exact HO138.out))) (Kd.R_lt (by (with_reducible repeat (first | apply Kd.R_alloc | apply Kd.R_drewN | apply Kd.R_drew)); exact HO143.out))) (Kd.R_lt (by (with_reducible repeat (first | apply Kd.R_alloc | apply Kd.R_drewN | apply Kd.R_drew)); exact HO146.out))) (Kd.R_lt (by (with_reducible repeat (first | apply Kd.R_alloc | apply Kd.R_drewN | apply Kd.R_drew)); exact HO151.out))) (Kd.R_lt (by (with_reducible repeat (first | apply Kd.R_alloc | apply Kd.R_drewN | apply Kd.R_drew)); exact HO154.out))) (Kd.R_lt (by (with_reducible repeat (first | apply Kd.R_alloc | apply Kd.R_drewN | apply Kd.R_drew)); exact HO157.out))) (Kd.R_lt (by (with_reducible repeat (first | apply Kd.R_alloc | apply Kd.R_drewN | apply Kd.R_drew)); exact HO162.out))) (below_size (by repeat (first | (with_reducible first | exact HB.out | apply below_alloc | apply pw_below_drewN | apply below_drew1) | exact HB.out)))); have n8_ := Aside0.mk (below_step (by repeat (first | (with_reducible first | exact HB.out | apply below_alloc | apply pw_below_drewN | apply below_drew1) | exact HB.out)) hb); clear HO138; clear HO143; clear HO146; clear HO151; clear HO154; clear HO157; clear HO162; clear HB; have HO138 := n0_; have HO143 := n1_; have HO146 := n2_; have HO151 := n3_; have HO154 := n4_; have HO157 := n5_; have HO162 := n6_; have HO165 := n7_; have HB := n8_; clear n0_ n1_ n2_ n3_ n4_ n5_ n6_ n7_ n8_; clear hb ho32) | ((with_reducible refine gate_dst (N := 34) rfl ?_); (try (refine gate_guard (by rfl) ?_; dsimp only)); refine Kd.R_lit (Kd.int .i64) _ 3 ?hg (N := 34) ?hd (xs := ([3, 5] : List Int)) (inner := [.int .i64 3, .int .i64 5]) (ok := fun _ => True) (okp := fun _ => True) ?hr ?hp (fun _ hk => hk) trivial (Below.refl _ _) (Nat.le_refl _) (by simp) ?_; (case hd => rfl); (case hg => rfl); (case hr => first | (go_simp; done) | (go_simp; rfl)); (case hp => exact (Reps.one (show Kd.M (Kd.int .i64) _ _ _ 3 [.int .i64 3] from rfl) (Reps.one (show Kd.M (Kd.int .i64) _ _ _ 5 [.int .i64 5] from rfl) (Reps.none _ _)))); intro v167 w33 ho34 hb hg_ hnew_; clear hg_ hnew_; (first | rw [← Ny166.out] at ho34 | (simp only [Int.reduceToNat] at ho34; rw [← Ny166.out] at ho34)); have n0_ := Aside0.mk (Kd.R_elder' (by (with_reducible repeat (first | apply Kd.R_alloc | apply Kd.R_drewN | apply Kd.R_drew)); exact HO138.out) (Kd.R_base ho34) hb); have n1_ := Aside0.mk (Kd.R_elder' (by (with_reducible repeat (first | apply Kd.R_alloc | apply Kd.R_drewN | apply Kd.R_drew)); exact HO143.out) (Kd.R_base ho34) hb); have n2_ := Aside0.mk (Kd.R_elder' (by (with_reducible repeat (first | apply Kd.R_alloc | apply Kd.R_drewN | apply Kd.R_drew)); exact HO146.out) (Kd.R_base ho34) hb); have n3_ := Aside0.mk (Kd.R_elder' (by (with_reducible repeat (first | apply Kd.R_alloc | apply Kd.R_drewN | apply Kd.R_drew)); exact HO151.out) (Kd.R_base ho34) hb); have n4_ := Aside0.mk (Kd.R_elder' (by (with_reducible repeat (first | apply Kd.R_alloc | apply Kd.R_drewN | apply Kd.R_drew)); exact HO154.out) (Kd.R_base ho34) hb); have n5_ := Aside0.mk (Kd.R_elder' (by (with_reducible repeat (first | apply Kd.R_alloc | apply Kd.R_drewN | apply Kd.R_drew)); exact HO157.out) (Kd.R_base ho34) hb); have n6_ := Aside0.mk (Kd.R_elder' (by (with_reducible repeat (first | apply Kd.R_alloc | apply Kd.R_drewN | apply Kd.R_drew)); exact HO162.out) (Kd.R_base ho34) hb); have n7_ := Aside0.mk (Kd.R_elder' (by (with_reducible repeat (first | apply Kd.R_alloc | apply Kd.R_drewN | apply Kd.R_drew)); exact HO165.out) (Kd.R_base ho34) hb); have n8_ := Aside0.mk (Kd.R_lower (Kd.R_new' (Kd.R_new' (Kd.R_new' (Kd.R_new' (Kd.R_new' (Kd.R_new' (Kd.R_new' (Kd.R_new' ho34 (Kd.R_lt (by (with_reducible repeat (first | apply Kd.R_alloc | apply Kd.R_drewN | apply Kd.R_drew)); exact HO138.out))) (Kd.R_lt (by (with_reducible repeat (first | apply Kd.R_alloc | apply Kd.R_drewN | apply Kd.R_drew)); exact HO143.out))) (Kd.R_lt (by (with_reducible repeat (first | apply Kd.R_alloc | apply Kd.R_drewN | apply Kd.R_drew)); exact HO146.out))) (Kd.R_lt (by (with_reducible repeat (first | apply Kd.R_alloc | apply Kd.R_drewN | apply Kd.R_drew)); exact HO151.out))) (Kd.R_lt (by (with_reducible repeat (first | apply Kd.R_alloc | apply Kd.R_drewN | apply Kd.R_drew)); exact HO154.out))) (Kd.R_lt (by (with_reducible repeat (first | apply Kd.R_alloc | apply Kd.R_drewN | apply Kd.R_drew)); exact HO157.out))) (Kd.R_lt (by (with_reducible repeat (first | apply Kd.R_alloc | apply Kd.R_drewN | apply Kd.R_drew)); exact HO162.out))) (Kd.R_lt (by (with_reducible repeat (first | apply Kd.R_alloc | apply Kd.R_drewN | apply Kd.R_drew)); exact HO165.out))) (below_size (by repeat (first | (with_reducible first | exact HB.out | apply below_alloc | apply pw_below_drewN | apply below_drew1) | exact HB.out)))); have n9_ := Aside0.mk (below_step (by repeat (first | (with_reducible first | exact HB.out | apply below_alloc | apply pw_below_drewN | apply below_drew1) | exact HB.out)) hb); clear HO138; clear HO143; clear HO146; clear HO151; clear HO154; clear HO157; clear HO162; clear HO165; clear HB; have HO138 := n0_; have HO143 := n1_; have HO146 := n2_; have HO151 := n3_; have HO154 := n4_; have HO157 := n5_; have HO162 := n6_; have HO165 := n7_; have HO168 := n8_; have HB := n9_; clear n0_ n1_ n2_ n3_ n4_ n5_ n6_ n7_ n8_ n9_; clear hb ho34; obtain ⟨Ao35, co35, eo35⟩ := Kd.R_slice HO165.out; subst eo35; obtain ⟨Ao36, co36, eo36⟩ := Kd.R_slice HO168.out; subst eo36) | ((with_reducible refine gate_callee (f := 18) rfl ?_); refine goesL_ (some 35) rfl rfl Try.func18 (by kernel_rfl) rfl #[.int .i64 5, .slice Ao35 y163.length co35, .slice Ao36 y166.length co36, .int .i64 1] rfl (by (try simp only [List.map_toArray, List.map_cons, List.map_nil]); first | done | rfl | (simp only [List.length_drop, List.length_take]; rfl)) ?_; (with_reducible refine (clause_Resolve.calls k 5 _ _ y163 _ _ y166 1 t169 t170 t171 _ ?side1 ?side2 ?side3 ?side4 A4.out).mono ?_); (case side1 => repeat (first | exact (Kd.R_reads' HO165.out).2.2 | (with_reducible refine Kd.C_alloc ?_ _) | (with_reducible refine Kd.C_drewN ?_ _) | (with_reducible refine Kd.C_drew ?_))); (case side2 => exact (Kd.R_reads' HO165.out).2.1); (case side3 => repeat (first | exact (Kd.R_reads' HO168.out).2.2 | (with_reducible refine Kd.C_alloc ?_ _) | (with_reducible refine Kd.C_drewN ?_ _) | (with_reducible refine Kd.C_drew ?_))); (case side4 => exact (Kd.R_reads' HO168.out).2.1); rintro e w37 ⟨v172, rfl, ho0, hb⟩; refine ⟨_, rfl, ?_⟩; have n0_ := Aside0.mk (Kd.R_elder' (by (with_reducible repeat (first | apply Kd.R_alloc | apply Kd.R_drewN | apply Kd.R_drew)); exact HO138.out) (Kd.R_base ho0) hb); have n1_ := Aside0.mk (Kd.R_elder' (by (with_reducible repeat (first | apply Kd.R_alloc | apply Kd.R_drewN | apply Kd.R_drew)); exact HO143.out) (Kd.R_base ho0) hb); have n2_ := Aside0.mk (Kd.R_elder' (by (with_reducible repeat (first | apply Kd.R_alloc | apply Kd.R_drewN | apply Kd.R_drew)); exact HO146.out) (Kd.R_base ho0) hb); have n3_ := Aside0.mk (Kd.R_elder' (by (with_reducible repeat (first | apply Kd.R_alloc | apply Kd.R_drewN | apply Kd.R_drew)); exact HO151.out) (Kd.R_base ho0) hb); have n4_ := Aside0.mk (Kd.R_elder' (by (with_reducible repeat (first | apply Kd.R_alloc | apply Kd.R_drewN | apply Kd.R_drew)); exact HO154.out) (Kd.R_base ho0) hb); have n5_ := Aside0.mk (Kd.R_elder' (by (with_reducible repeat (first | apply Kd.R_alloc | apply Kd.R_drewN | apply Kd.R_drew)); exact HO157.out) (Kd.R_base ho0) hb); have n6_ := Aside0.mk (Kd.R_elder' (by (with_reducible repeat (first | apply Kd.R_alloc | apply Kd.R_drewN | apply Kd.R_drew)); exact HO162.out) (Kd.R_base ho0) hb); have n7_ := Aside0.mk (Kd.R_elder' (by (with_reducible repeat (first | apply Kd.R_alloc | apply Kd.R_drewN | apply Kd.R_drew)); exact HO165.out) (Kd.R_base ho0) hb); have n8_ := Aside0.mk (Kd.R_elder' (by (with_reducible repeat (first | apply Kd.R_alloc | apply Kd.R_drewN | apply Kd.R_drew)); exact HO168.out) (Kd.R_base ho0) hb); have n9_ := Aside0.mk (Kd.R_lower (Kd.R_new' (Kd.R_new' (Kd.R_new' (Kd.R_new' (Kd.R_new' (Kd.R_new' (Kd.R_new' (Kd.R_new' (Kd.R_new' ho0 (Kd.R_lt (by (with_reducible repeat (first | apply Kd.R_alloc | apply Kd.R_drewN | apply Kd.R_drew)); exact HO138.out))) (Kd.R_lt (by (with_reducible repeat (first | apply Kd.R_alloc | apply Kd.R_drewN | apply Kd.R_drew)); exact HO143.out))) (Kd.R_lt (by (with_reducible repeat (first | apply Kd.R_alloc | apply Kd.R_drewN | apply Kd.R_drew)); exact HO146.out))) (Kd.R_lt (by (with_reducible repeat (first | apply Kd.R_alloc | apply Kd.R_drewN | apply Kd.R_drew)); exact HO151.out))) (Kd.R_lt (by (with_reducible repeat (first | apply Kd.R_alloc | apply Kd.R_drewN | apply Kd.R_drew)); exact HO154.out))) (Kd.R_lt (by (with_reducible repeat (first | apply Kd.R_alloc | apply Kd.R_drewN | apply Kd.R_drew)); exact HO157.out))) (Kd.R_lt (by (with_reducible repeat (first | apply Kd.R_alloc | apply Kd.R_drewN | apply Kd.R_drew)); exact HO162.out))) (Kd.R_lt (by (with_reducible repeat (first | apply Kd.R_alloc | apply Kd.R_drewN | apply Kd.R_drew)); exact HO165.out))) (Kd.R_lt (by (with_reducible repeat (first | apply Kd.R_alloc | apply Kd.R_drewN | apply Kd.R_drew)); exact HO168.out))) (below_size (by repeat (first | (with_reducible first | exact HB.out | apply below_alloc | apply pw_below_drewN | apply below_drew1) | exact HB.out)))); have n10_ := Aside0.mk (below_step (by repeat (first | (with_reducible first | exact HB.out | apply below_alloc | apply pw_below_drewN | apply below_drew1) | exact HB.out)) hb); clear HO138; clear HO143; clear HO146; clear HO151; clear HO154; clear HO157; clear HO162; clear HO165; clear HO168; clear HB; have HO138 := n0_; have HO143 := n1_; have HO146 := n2_; have HO151 := n3_; have HO154 := n4_; have HO157 := n5_; have HO162 := n6_; have HO165 := n7_; have HO168 := n8_; have HO173 := n9_; have HB := n10_; clear n0_ n1_ n2_ n3_ n4_ n5_ n6_ n7_ n8_ n9_ n10_; (try clear hb); (try clear hb2); (try clear hk); (try clear hi); (try clear ho0)) | ((with_reducible refine gate_dst (N := 47) rfl ?_); (try (refine gate_guard (by rfl) ?_; dsimp only)); refine Kd.R_lit (Kd.int .i64) _ 3 ?hg (N := 47) ?hd (xs := ([2, 4, 7] : List Int)) (inner := [.int .i64 2, .int .i64 4, .int .i64 7]) (ok := fun _ => True) (okp := fun _ => True) ?hr ?hp (fun _ hk => hk) trivial (Below.refl _ _) (Nat.le_refl _) (by simp) ?_; (case hd => rfl); (case hg => rfl); (case hr => first | (go_simp; done) | (go_simp; rfl)); (case hp => exact (Reps.one (show Kd.M (Kd.int .i64) _ _ _ 2 [.int .i64 2] from rfl) (Reps.one (show Kd.M (Kd.int .i64) _ _ _ 4 [.int .i64 4] from rfl) (Reps.one (show Kd.M (Kd.int .i64) _ _ _ 7 [.int .i64 7] from rfl) (Reps.none _ _))))); intro v175 w38 ho39 hb hg_ hnew_; clear hg_ hnew_; (first | rw [← Ny174.out] at ho39 | (simp only [Int.reduceToNat] at ho39; rw [← Ny174.out] at ho39)); have n0_ := Aside0.mk (Kd.R_elder' (by (with_reducible repeat (first | apply Kd.R_alloc | apply Kd.R_drewN | apply Kd.R_drew)); exact HO138.out) (Kd.R_base ho39) hb); have n1_ := Aside0.mk (Kd.R_elder' (by (with_reducible repeat (first | apply Kd.R_alloc | apply Kd.R_drewN | apply Kd.R_drew)); exact HO143.out) (Kd.R_base ho39) hb); have n2_ := Aside0.mk (Kd.R_elder' (by (with_reducible repeat (first | apply Kd.R_alloc | apply Kd.R_drewN | apply Kd.R_drew)); exact HO146.out) (Kd.R_base ho39) hb); have n3_ := Aside0.mk (Kd.R_elder' (by (with_reducible repeat (first | apply Kd.R_alloc | apply Kd.R_drewN | apply Kd.R_drew)); exact HO151.out) (Kd.R_base ho39) hb); have n4_ := Aside0.mk (Kd.R_elder' (by (with_reducible repeat (first | apply Kd.R_alloc | apply Kd.R_drewN | apply Kd.R_drew)); exact HO154.out) (Kd.R_base ho39) hb); have n5_ := Aside0.mk (Kd.R_elder' (by (with_reducible repeat (first | apply Kd.R_alloc | apply Kd.R_drewN | apply Kd.R_drew)); exact HO157.out) (Kd.R_base ho39) hb); have n6_ := Aside0.mk (Kd.R_elder' (by (with_reducible repeat (first | apply Kd.R_alloc | apply Kd.R_drewN | apply Kd.R_drew)); exact HO162.out) (Kd.R_base ho39) hb); have n7_ := Aside0.mk (Kd.R_elder' (by (with_reducible repeat (first | apply Kd.R_alloc | apply Kd.R_drewN | apply Kd.R_drew)); exact HO165.out) (Kd.R_base ho39) hb); have n8_ := Aside0.mk (Kd.R_elder' (by (with_reducible repeat (first | apply Kd.R_alloc | apply Kd.R_drewN | apply Kd.R_drew)); exact HO168.out) (Kd.R_base ho39) hb); have n9_ := Aside0.mk (Kd.R_elder' (by (with_reducible repeat (first | apply Kd.R_alloc | apply Kd.R_drewN | apply Kd.R_drew)); exact HO173.out) (Kd.R_base ho39) hb); have n10_ := Aside0.mk (Kd.R_lower (Kd.R_new' (Kd.R_new' (Kd.R_new' (Kd.R_new' (Kd.R_new' (Kd.R_new' (Kd.R_new' (Kd.R_new' (Kd.R_new' (Kd.R_new' ho39 (Kd.R_lt (by (with_reducible repeat (first | apply Kd.R_alloc | apply Kd.R_drewN | apply Kd.R_drew)); exact HO138.out))) (Kd.R_lt (by (with_reducible repeat (first | apply Kd.R_alloc | apply Kd.R_drewN | apply Kd.R_drew)); exact HO143.out))) (Kd.R_lt (by (with_reducible repeat (first | apply Kd.R_alloc | apply Kd.R_drewN | apply Kd.R_drew)); exact HO146.out))) (Kd.R_lt (by (with_reducible repeat (first | apply Kd.R_alloc | apply Kd.R_drewN | apply Kd.R_drew)); exact HO151.out))) (Kd.R_lt (by (with_reducible repeat (first | apply Kd.R_alloc | apply Kd.R_drewN | apply Kd.R_drew)); exact HO154.out))) (Kd.R_lt (by (with_reducible repeat (first | apply Kd.R_alloc | apply Kd.R_drewN | apply Kd.R_drew)); exact HO157.out))) (Kd.R_lt (by (with_reducible repeat (first | apply Kd.R_alloc | apply Kd.R_drewN | apply Kd.R_drew)); exact HO162.out))) (Kd.R_lt (by (with_reducible repeat (first | apply Kd.R_alloc | apply Kd.R_drewN | apply Kd.R_drew)); exact HO165.out))) (Kd.R_lt (by (with_reducible repeat (first | apply Kd.R_alloc | apply Kd.R_drewN | apply Kd.R_drew)); exact HO168.out))) (Kd.R_lt (by (with_reducible repeat (first | apply Kd.R_alloc | apply Kd.R_drewN | apply Kd.R_drew)); exact HO173.out))) (below_size (by repeat (first | (with_reducible first | exact HB.out | apply below_alloc | apply pw_below_drewN | apply below_drew1) | exact HB.out)))); have n11_ := Aside0.mk (below_step (by repeat (first | (with_reducible first | exact HB.out | apply below_alloc | apply pw_below_drewN | apply below_drew1) | exact HB.out)) hb); clear HO138; clear HO143; clear HO146; clear HO151; clear HO154; clear HO157; clear HO162; clear HO165; clear HO168; clear HO173; clear HB; have HO138 := n0_; have HO143 := n1_; have HO146 := n2_; have HO151 := n3_; have HO154 := n4_; have HO157 := n5_; have HO162 := n6_; have HO165 := n7_; have HO168 := n8_; have HO173 := n9_; have HO176 := n10_; have HB := n11_; clear n0_ n1_ n2_ n3_ n4_ n5_ n6_ n7_ n8_ n9_ n10_ n11_; clear hb ho39; obtain ⟨Ao40, co40, eo40⟩ := Kd.R_slice HO143.out; subst eo40; obtain ⟨Ao41, co41, eo41⟩ := Kd.R_slice HO176.out; subst eo41) | (go_at_call 14; (with_reducible refine (spiritlevelref13_Same.calls k _ _ t139 _ _ y174 true _ ?side1 ?side2 ?side3 ?side4 A7.out).mono ?_); (case side1 => repeat (first | exact (Kd.R_reads' HO143.out).2.2 | (with_reducible refine Kd.C_alloc ?_ _) | (with_reducible refine Kd.C_drewN ?_ _) | (with_reducible refine Kd.C_drew ?_))); (case side2 => exact (Kd.R_reads' HO143.out).2.1); (case side3 => repeat (first | exact (Kd.R_reads' HO176.out).2.2 | (with_reducible refine Kd.C_alloc ?_ _) | (with_reducible refine Kd.C_drewN ?_ _) | (with_reducible refine Kd.C_drew ?_))); (case side4 => exact (Kd.R_reads' HO176.out).2.1); rintro e w' ⟨rfl, ⟨nd, rfl⟩⟩) | ((with_reducible refine gate_dst (N := 67) rfl ?_); (try (refine gate_guard (by rfl) ?_; dsimp only)); refine Kd.R_lit (Kd.int .i64) _ 3 ?hg (N := 67) ?hd (xs := ([4, 6] : List Int)) (inner := [.int .i64 4, .int .i64 6]) (ok := fun _ => True) (okp := fun _ => True) ?hr ?hp (fun _ hk => hk) trivial (Below.refl _ _) (Nat.le_refl _) (by simp) ?_; (case hd => rfl); (case hg => rfl); (case hr => first | (go_simp; done) | (go_simp; rfl)); (case hp => exact (Reps.one (show Kd.M (Kd.int .i64) _ _ _ 4 [.int .i64 4] from rfl) (Reps.one (show Kd.M (Kd.int .i64) _ _ _ 6 [.int .i64 6] from rfl) (Reps.none _ _)))); intro v179 w42 ho43 hb hg_ hnew_; clear hg_ hnew_; (first | rw [← Ny178.out] at ho43 | (simp only [Int.reduceToNat] at ho43; rw [← Ny178.out] at ho43)); have n0_ := Aside0.mk (Kd.R_elder' (by (with_reducible repeat (first | apply Kd.R_alloc | apply Kd.R_drewN | apply Kd.R_drew)); exact HO138.out) (Kd.R_base ho43) hb); have n1_ := Aside0.mk (Kd.R_elder' (by (with_reducible repeat (first | apply Kd.R_alloc | apply Kd.R_drewN | apply Kd.R_drew)); exact HO143.out) (Kd.R_base ho43) hb); have n2_ := Aside0.mk (Kd.R_elder' (by (with_reducible repeat (first | apply Kd.R_alloc | apply Kd.R_drewN | apply Kd.R_drew)); exact HO146.out) (Kd.R_base ho43) hb); have n3_ := Aside0.mk (Kd.R_elder' (by (with_reducible repeat (first | apply Kd.R_alloc | apply Kd.R_drewN | apply Kd.R_drew)); exact HO151.out) (Kd.R_base ho43) hb); have n4_ := Aside0.mk (Kd.R_elder' (by (with_reducible repeat (first | apply Kd.R_alloc | apply Kd.R_drewN | apply Kd.R_drew)); exact HO154.out) (Kd.R_base ho43) hb); have n5_ := Aside0.mk (Kd.R_elder' (by (with_reducible repeat (first | apply Kd.R_alloc | apply Kd.R_drewN | apply Kd.R_drew)); exact HO157.out) (Kd.R_base ho43) hb); have n6_ := Aside0.mk (Kd.R_elder' (by (with_reducible repeat (first | apply Kd.R_alloc | apply Kd.R_drewN | apply Kd.R_drew)); exact HO162.out) (Kd.R_base ho43) hb); have n7_ := Aside0.mk (Kd.R_elder' (by (with_reducible repeat (first | apply Kd.R_alloc | apply Kd.R_drewN | apply Kd.R_drew)); exact HO165.out) (Kd.R_base ho43) hb); have n8_ := Aside0.mk (Kd.R_elder' (by (with_reducible repeat (first | apply Kd.R_alloc | apply Kd.R_drewN | apply Kd.R_drew)); exact HO168.out) (Kd.R_base ho43) hb); have n9_ := Aside0.mk (Kd.R_elder' (by (with_reducible repeat (first | apply Kd.R_alloc | apply Kd.R_drewN | apply Kd.R_drew)); exact HO173.out) (Kd.R_base ho43) hb); have n10_ := Aside0.mk (Kd.R_elder' (by (with_reducible repeat (first | apply Kd.R_alloc | apply Kd.R_drewN | apply Kd.R_drew)); exact HO176.out) (Kd.R_base ho43) hb); have n11_ := Aside0.mk (Kd.R_lower (Kd.R_new' (Kd.R_new' (Kd.R_new' (Kd.R_new' (Kd.R_new' (Kd.R_new' (Kd.R_new' (Kd.R_new' (Kd.R_new' (Kd.R_new' (Kd.R_new' ho43 (Kd.R_lt (by (with_reducible repeat (first | apply Kd.R_alloc | apply Kd.R_drewN | apply Kd.R_drew)); exact HO138.out))) (Kd.R_lt (by (with_reducible repeat (first | apply Kd.R_alloc | apply Kd.R_drewN | apply Kd.R_drew)); exact HO143.out))) (Kd.R_lt (by (with_reducible repeat (first | apply Kd.R_alloc | apply Kd.R_drewN | apply Kd.R_drew)); exact HO146.out))) (Kd.R_lt (by (with_reducible repeat (first | apply Kd.R_alloc | apply Kd.R_drewN | apply Kd.R_drew)); exact HO151.out))) (Kd.R_lt (by (with_reducible repeat (first | apply Kd.R_alloc | apply Kd.R_drewN | apply Kd.R_drew)); exact HO154.out))) (Kd.R_lt (by (with_reducible repeat (first | apply Kd.R_alloc | apply Kd.R_drewN | apply Kd.R_drew)); exact HO157.out))) (Kd.R_lt (by (with_reducible repeat (first | apply Kd.R_alloc | apply Kd.R_drewN | apply Kd.R_drew)); exact HO162.out))) (Kd.R_lt (by (with_reducible repeat (first | apply Kd.R_alloc | apply Kd.R_drewN | apply Kd.R_drew)); exact HO165.out))) (Kd.R_lt (by (with_reducible repeat (first | apply Kd.R_alloc | apply Kd.R_drewN | apply Kd.R_drew)); exact HO168.out))) (Kd.R_lt (by (with_reducible repeat (first | apply Kd.R_alloc | apply Kd.R_drewN | apply Kd.R_drew)); exact HO173.out))) (Kd.R_lt (by (with_reducible repeat (first | apply Kd.R_alloc | apply Kd.R_drewN | apply Kd.R_drew)); exact HO176.out))) (below_size (by repeat (first | (with_reducible first | exact HB.out | apply below_alloc | apply pw_below_drewN | apply below_drew1) | exact HB.out)))); have n12_ := Aside0.mk (below_step (by repeat (first | (with_reducible first | exact HB.out | apply below_alloc | apply pw_below_drewN | apply below_drew1) | exact HB.out)) hb); clear HO138; clear HO143; clear HO146; clear HO151; clear HO154; clear HO157; clear HO162; clear HO165; clear HO168; clear HO173; clear HO176; clear HB; have HO138 := n0_; have HO143 := n1_; have HO146 := n2_; have HO151 := n3_; have HO154 := n4_; have HO157 := n5_; have HO162 := n6_; have HO165 := n7_; have HO168 := n8_; have HO173 := n9_; have HO176 := n10_; have HO180 := n11_; have HB := n12_; clear n0_ n1_ n2_ n3_ n4_ n5_ n6_ n7_ n8_ n9_ n10_ n11_ n12_; clear hb ho43; obtain ⟨Ao44, co44, eo44⟩ := Kd.R_slice HO162.out; subst eo44; obtain ⟨Ao45, co45, eo45⟩ := Kd.R_slice HO180.out; subst eo45) | (go_at_call 14; (with_reducible refine (spiritlevelref13_Same.calls k _ _ t158 _ _ y178 true _ ?side1 ?side2 ?side3 ?side4 A13.out).mono ?_); (case side1 => repeat (first | exact (Kd.R_reads' HO162.out).2.2 | (with_reducible refine Kd.C_alloc ?_ _) | (with_reducible refine Kd.C_drewN ?_ _) | (with_reducible refine Kd.C_drew ?_))); (case side2 => exact (Kd.R_reads' HO162.out).2.1); (case side3 => repeat (first | exact (Kd.R_reads' HO180.out).2.2 | (with_reducible refine Kd.C_alloc ?_ _) | (with_reducible refine Kd.C_drewN ?_ _) | (with_reducible refine Kd.C_drew ?_))); (case side4 => exact (Kd.R_reads' HO180.out).2.1); rintro e w' ⟨rfl, ⟨nd, rfl⟩⟩))
                    go_ret
                    exact ⟨by first | rfl | (simp [errW_none, errW_some] <;> rfl) | (simp [*, errW_none, errW_some] <;> rfl), by repeat (first | (with_reducible first | exact HB.out | apply below_alloc | apply pw_below_drewN | apply below_drew1) | exact HB.out)⟩
                  · rw [if_neg c15] at H
                    have c15b0 : (t171 == 0) = false := beq_eq_false_iff_ne.mpr c15
                    have c15b1 : (t171 != 0) = true := bne_iff_ne.mpr c15
                    exact absurd ((Option.some.inj H).trans HT_.out) (by decide)
                · replace c14 := Bool.eq_false_iff.mpr c14
                  subst c14
                  have H1 : (some false) = some r := by rw [if_neg (show ¬ (false = true) by decide)] at H; exact H
                  clear H
                  have H := H1
                  clear H1
                  exact absurd ((Option.some.inj H).trans HT_.out) (by decide)
            · rw [if_neg c11] at H
              have c11b0 : (t160 == 0) = false := beq_eq_false_iff_ne.mpr c11
              have c11b1 : (t160 != 0) = true := bne_iff_ne.mpr c11
              exact absurd ((Option.some.inj H).trans HT_.out) (by decide)
          · replace c10 := Bool.eq_false_iff.mpr c10
            subst c10
            have H1 : (some false) = some r := by rw [if_neg (show ¬ (false = true) by decide)] at H; exact H
            clear H
            have H := H1
            clear H1
            exact absurd ((Option.some.inj H).trans HT_.out) (by decide)
        · rw [if_neg c9] at H
          have c9b0 : (t149 == 0) = false := beq_eq_false_iff_ne.mpr c9
          have c9b1 : (t149 != 0) = true := bne_iff_ne.mpr c9
          exact absurd ((Option.some.inj H).trans HT_.out) (by decide)
      · replace c8 := Bool.eq_false_iff.mpr c8
        subst c8
        have H1 : (some false) = some r := by rw [if_neg (show ¬ (false = true) by decide)] at H; exact H
        clear H
        have H := H1
        clear H1
        exact absurd ((Option.some.inj H).trans HT_.out) (by decide)
  · rw [if_neg c5] at H
    have c5b0 : (t141 == 0) = false := beq_eq_false_iff_ne.mpr c5
    have c5b1 : (t141 != 0) = true := bne_iff_ne.mpr c5
    exact absurd ((Option.some.inj H).trans HT_.out) (by decide)

def spiritlevellaw13_alive.f (k : Nat) : Option (Bool) := (spiritlevellaw13_alive_t.f k).bind fun b => if b = true then some true else none
theorem spiritlevellaw13_alive.mono : ∀ k, LeO (spiritlevellaw13_alive.f k) (spiritlevellaw13_alive.f (k + 1)) := fun k => LeO.bind (spiritlevellaw13_alive_t.mono k) (fun _ => LeO.refl _)
theorem spiritlevellaw13_alive.calls (k : Nat)  (r : Bool) (w : World) (h : spiritlevellaw13_alive.f k  = some r) :
    Calls Try.prog 17 #[] w fun e w' => e = .returned (.bool r) ∧ Below w.heap.size w w' := by
  unfold spiritlevellaw13_alive.f at h
  obtain ⟨b, hb, h⟩ := Option.bind_eq_some_iff.mp h
  cases b with
  | false => simp at h
  | true =>
    rw [if_pos rfl] at h
    obtain rfl := Option.some.inj h
    exact spiritlevellaw13_alive_t.calls k true w rfl hb

end Go.Proofs.Ytnicmgakboghpaa.QClauseImplies
