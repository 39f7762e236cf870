-- Made by wip/myprint.sh (a patched print): a text of this session's own.
import Derived.Test.YtmcdanpecajklaaQTernsimStatesx0
namespace Go.Proofs.Ytmcdanpecajklaa.QTernsimStates
open Go.RowKit Go.Proofs.YtmcdanpecajklaaW.PrintWords Go.Proofs.YtmcdanpecajklaaW.PrintLast Go.Proofs.YtmcdanpecajklaaW.PrintMore
attribute [local go_sem] max2_int min2_int max_two min_two max_three min_three max_four min_four   -- for this text's walks alone
set_option linter.unusedVariables false
set_option linter.unusedSimpArgs false

/-! ### ternary_check: function 79, by hand -/
def teOut (x : Int) : Bool := decide (2 < x)
set_option maxHeartbeats 1000000 in
set_option maxRecDepth 100000 in
theorem teOut_calls (x : Int) (w : World) : Calls Try.prog 111 #[.int .u8 x] w fun e w' => e = .returned (.bool (teOut x)) ∧ Drawn0 w w' := by
 unfold teOut
 go_enter Try.func111, Try.ntmps111
 go_wp2
 go_ret
 exact ⟨rfl, Drawn0.refl _⟩
def idxT {α : Type} (p : α → Bool) (l : List α) : Int := match l.findIdx? p with
 | some i => (i : Int)
 | none => -1
theorem idxT_any {α : Type} (p : α → Bool) (l : List α) : decide (0 ≤ idxT p l) = l.any p := by
 unfold idxT
 cases h : l.findIdx? p with
 | none =>
  rw [List.findIdx?_eq_none_iff] at h
  have : l.any p = false := List.any_eq_false.2 (fun x hx => by simp [h x hx])
  rw [this]; rfl
 | some i =>
  obtain ⟨hi, hp, _⟩ := List.findIdx?_eq_some_iff_getElem.1 h
  have : l.any p = true := List.any_eq_true.2 ⟨_, List.getElem_mem hi, hp⟩
  rw [this]; simp
theorem idxT_none {α : Type} (p : α → Bool) (l : List α) (h : l.any p = false) : idxT p l = -1 := by
 have := idxT_any p l
 rw [h] at this
 unfold idxT at this ⊢
 split
 ·rename_i i hi; rw [hi] at this; simp at this
 ·rfl
theorem idxT_some {α : Type} (p : α → Bool) (l : List α) (d : α) (i : Nat) (hi : i < l.length) (h : (l.take i).any p = false) (hp : p (l.getD i d) = true) : idxT p l = i := by
 have hd : l.getD i d = l[i] := by simp [List.getD, hi]
 have : l.findIdx? p = some i := by
  rw [List.findIdx?_eq_some_iff_getElem]
  refine ⟨hi, by rw [← hd]; exact hp, fun j hj => ?_⟩
  have := List.any_eq_false.1 h l[j] (List.mem_take_iff_getElem.2 ⟨j, by omega, rfl⟩)
  simpa using this
 unfold idxT
 rw [this]
theorem any_takeT_succ {α : Type} (p : α → Bool) (l : List α) (d : α) (i : Nat) (hi : i < l.length) (h : (l.take i).any p = false) (hp : p (l.getD i d) = false) : (l.take (i + 1)).any p = false := by
 have hd : l.getD i d = l[i] := by simp [List.getD, hi]
 have he : p l[i] = false := by rw [← hd]; exact hp
 rw [List.take_succ_eq_append_getElem hi, List.any_append, h]
 simp [he]
set_option maxHeartbeats 2000000 in
set_option maxRecDepth 100000 in
theorem indexBytes_calls (A0 : Option Addr) (c0 : Nat) (l0 : List Int) (w : World) (hr : Kd.C (Kd.int .u8) w A0 l0.length l0) :
  Calls Try.prog 121 #[.slice A0 l0.length c0, .func (.func 111) #[] #[]] w fun e w' => e = .returned (.int .i64 (idxT teOut l0)) ∧ Drawn0 w w' := by
 have HR := M_ hr
 have HN := M_ hr.2.1
 clear hr
 go_enter Try.func121, Try.ntmps121
 go_wp2
 go_loopg [8] (l0.length + 1) (fun kq v8 w' => ∃ (i : Nat), v8 = .int .i64 (i : Int) ∧ Aside0 (i ≤ l0.length ∧ kq + i = l0.length + 1 ∧ (l0.take i).any teOut = false) ∧ Aside0 (Drawn0 w w'))
 case atStart => exact ⟨0, by simp, ⟨by omega, by omega, by simp⟩, ⟨Drawn0.refl _⟩⟩
 case round =>
  obtain ⟨i, rfl, HI, HD⟩ := hrel
  by_cases c : i < l0.length
  ·have cb : decide (i < l0.length) = true := decide_eq_true c
   have p0 : (0 : Int) ≤ (i : Int) := by omega
   have q0 : (i : Int) < (l0.length : Int) := by omega
   obtain ⟨⟨n1, rfl⟩⟩ := HD.out
   obtain ⟨ad, rfl, hx⟩ := Kd.at_int HR.out (i : Int) p0 q0
   have hx' : w.cell? (ad.add i) = some (.int .u8 (rd l0 i)) := hx
   clear hx
   have HL := HN.out
   generalize hv : teOut (rd l0 i) = b
   have HV := M_ hv
   clear hv
   cases b with
   | true =>
    go_wp2_with (go_at_call 111; (with_reducible refine (teOut_calls (rd l0 i) _).mono ?_); rw [HV.out]; rintro e w' ⟨rfl, ⟨nd, rfl⟩⟩)
    go_ret
    exact ⟨by simp [idxT_some teOut l0 0 i c HI.out.2.2 HV.out], ⟨⟨_, rfl⟩⟩⟩
   | false =>
    go_wp2_with (go_at_call 111; (with_reducible refine (teOut_calls (rd l0 i) _).mono ?_); rw [HV.out]; rintro e w' ⟨rfl, ⟨nd, rfl⟩⟩)
    go_roundg (gk - 1)
    case rel => exact ⟨i + 1, by go_num, ⟨by omega, by have := HI.out; omega, any_takeT_succ teOut l0 0 i c HI.out.2.2 HV.out⟩, ⟨⟨⟨_, rfl⟩⟩⟩⟩
    case measure => have := HI.out; omega
  ·have cb : decide (i < l0.length) = false := decide_eq_false c
   obtain ⟨⟨n1, rfl⟩⟩ := HD.out
   go_wp2
   go_ret
   have hz : (l0.take i).any teOut = false := HI.out.2.2
   rw [List.take_of_length_le (by omega)] at hz
   exact ⟨by simp [idxT_none teOut l0 hz], ⟨⟨_, rfl⟩⟩⟩
set_option maxHeartbeats 1000000 in
set_option maxRecDepth 100000 in
theorem containsBytes_calls (A0 : Option Addr) (c0 : Nat) (l0 : List Int) (w : World) (hr : Kd.C (Kd.int .u8) w A0 l0.length l0) :
  Calls Try.prog 110 #[.slice A0 l0.length c0, .func (.func 111) #[] #[]] w fun e w' => e = .returned (.bool (l0.any teOut)) ∧ Drawn0 w w' := by
 have HR := M_ hr
 have HA := M_ (idxT_any teOut l0)
 clear hr
 go_enter Try.func110, Try.ntmps110
 go_wp2_with (go_at_call 121; (with_reducible refine (indexBytes_calls A0 c0 l0 w HR.out).mono ?_); rintro e w' ⟨rfl, ⟨nd, rfl⟩⟩)
 go_ret
 exact ⟨by simp [HA.out], ⟨⟨_, rfl⟩⟩⟩
def ternary_check.f (l0 : List Int) : Option Int := some (if l0.any teOut = true then 8 else 0)
set_option maxHeartbeats 1000000 in
set_option maxRecDepth 100000 in
theorem ternary_check.calls (A0 : Option Addr) (c0 : Nat) (l0 : List Int) (r : Int) (w : World) (hr0 : Kd.C (Kd.int .u8) w A0 l0.length l0) (hc0 : l0.length ≤ c0) (h : ternary_check.f l0 = some r) :
  Calls Try.prog 79 #[.slice A0 l0.length c0] w fun e w' => e = .returned (.int .i64 r) ∧ Drawn0 w w' := by
 have HR := M_ hr0
 replace h := Option.some.inj h
 clear hr0 hc0
 generalize hb : l0.any teOut = b at h
 have HV := M_ hb
 have H := M_ h
 clear hb h
 cases b with
 | true =>
  go_enter Try.func79, Try.ntmps79
  go_wp2_with (go_at_call 110; (with_reducible refine (containsBytes_calls A0 c0 l0 w HR.out).mono ?_); rw [HV.out]; rintro e w' ⟨rfl, ⟨nd, rfl⟩⟩)
  go_ret
  exact ⟨by simp [← H.out], ⟨⟨_, rfl⟩⟩⟩
 | false =>
  go_enter Try.func79, Try.ntmps79
  go_wp2_with (go_at_call 110; (with_reducible refine (containsBytes_calls A0 c0 l0 w HR.out).mono ?_); rw [HV.out]; rintro e w' ⟨rfl, ⟨nd, rfl⟩⟩)
  go_ret
  exact ⟨by simp [← H.out], ⟨⟨_, rfl⟩⟩⟩

/-! ### slices_Concat_uint8_uint8: function 104, by hand -/
theorem infoU8 : (Try.prog.info? 5).map (fun i => (i.zero, i.size, i.bytes)) = some (some (.int .u8 0), 1, 1) := by kernel_rfl
theorem cutZero (A : Option Addr) (len c : Nat) (h : len ≤ c) (W : World) : (Instr.slice 70 (.slice A len c) none (some (.int .i64 0)) none).run Try.prog W = .ok (.slice A 0 c) W := by
 obtain ⟨i0, hi, hzz⟩ := Option.map_eq_some_iff.1 infoU8
 simp only [Prod.mk.injEq] at hzz
 have := (print_take_of (Value.int .u8) (0 : Int) 70 5 .i64 Try.underlying70 hi hzz.2.1 A c (List.replicate len (0 : Int)) 0 (by omega) (by simp) (by simpa using h)).1 W
 simpa using this
set_option maxHeartbeats 2000000 in
set_option maxRecDepth 100000 in
theorem growNil_calls (n : Int) (w : World) (h0 : 0 ≤ n) (h1 : n ≤ 140737488355328) :
  Calls Try.prog 120 #[.slice none 0 0, .int .i64 n] w fun e w' => ∃ v, e = .returned v ∧ Kd.R (Kd.int .u8) 5 w' w.heap.size (fun _ => True) v [] ∧ Below w.heap.size w w' := by
 have hu70 := Try.underlying70
 have hu5 := Try.underlying5
 have hn : decide (n < 0) = false := decide_eq_false (by omega)
 by_cases c : 0 < n
 ·have cb : decide (0 < n) = true := decide_eq_true c
  go_enter Try.func120, Try.ntmps120
  go_wp2_with (at_builtin; refine Kd.R_append_zeros (Kd.int .u8) (w0 := w) w.heap.size rfl _ _ 70 _ 5 (.int .u8 0) 1 rfl hu70 Try.underlying3 infoU8 rfl (by decide) (by decide) (.slice none 0 0) [] 0 n (fun _ => True) rfl rfl rfl (fun _ _ => trivial) (Kd.R_nil _ _ _ _ _) h0 (Below.refl _ _) (Nat.le_refl _) (by simp; omega) ?_; intro v1 w1 HO hb hg hat; clear hg hat; obtain ⟨A1, c1, rfl, hl1, hr1⟩ := Kd.R_reads HO; have HO := M_ HO; have hcut := cutZero A1 _ c1 hl1; clear hr1 hl1; have HB := M_ hb; clear hb)
  go_ret
  exact ⟨_, rfl, Kd.R_take HO.out (Nat.zero_le _), HB.out⟩
 ·have cb : decide (0 < n) = false := decide_eq_false c
  go_enter Try.func120, Try.ntmps120
  go_wp2
  go_ret
  exact ⟨_, rfl, Kd.R_nil _ _ _ _ _, Below.refl _ _⟩
def slices_Concat_uint8_uint8.f (l0 : List (List Int)) : Option (List Int) := if l0.flatten.length ≤ 140737488355328 then some l0.flatten else none
theorem flat_take (ll : List (List Int)) (i : Nat) (h : i < ll.length) : (ll.take (i + 1)).flatten = (ll.take i).flatten ++ ll.getD i [] := by
 rw [List.take_succ_eq_append_getElem h, List.flatten_append]
 simp [List.getD, h]
theorem flat_take_le (ll : List (List Int)) (i : Nat) : (ll.take i).flatten.length ≤ ll.flatten.length := by
 have : ll.flatten = (ll.take i).flatten ++ (ll.drop i).flatten := by rw [← List.flatten_append, List.take_append_drop]
 rw [this, List.length_append]; omega
theorem at_rows {w : World} {A : Option Addr} {ll : List (List Int)} (h : Kd.C (Kd.slice 5 (Kd.int .u8)) w A ll.length ll) (i : Nat) (hi : i < ll.length) :
  ∃ ad A1 c1, A = some ad ∧ w.cell? (ad.add i) = some (.slice A1 (ll.getD i []).length c1) ∧ (ll.getD i []).length ≤ c1 ∧ Kd.C (Kd.int .u8) w A1 (ll.getD i []).length (ll.getD i []) := by
 obtain ⟨ad, c, e, _, hK, hc0⟩ := Kd.C_get h [] (i : Int) (by omega) (by omega)
 obtain ⟨A1, c1, rfl, hl1, hC1⟩ := hK
 have hx : w.cell? (ad.add (i * 1 + 0)) = some (.slice A1 (ll.getD i []).length c1) := hc0 0 _ rfl
 rw [Nat.mul_one, Nat.add_zero] at hx
 exact ⟨ad, A1, c1, e, hx, hl1, hC1⟩
set_option maxHeartbeats 4000000 in
set_option maxRecDepth 100000 in
theorem slices_Concat_uint8_uint8.calls (A0 : Option Addr) (c0 : Nat) (l0 : List (List Int)) (r : List Int) (w : World) (hr0 : Kd.C (Kd.slice 5 (Kd.int .u8)) w A0 l0.length l0) (hc0 : l0.length ≤ c0) (h : slices_Concat_uint8_uint8.f l0 = some r) :
  Calls Try.prog 104 #[.slice A0 l0.length c0] w fun e w' => ∃ v1_ : Value, e = .returned (v1_) ∧ Kd.R (Kd.int .u8) 5 w' w.heap.size (fun _ => True) v1_ r ∧ Below w.heap.size w w' := by
 have hu70 := Try.underlying70
 have hu5 := Try.underlying5
 unfold slices_Concat_uint8_uint8.f at h
 split at h
 ·rename_i hb
  obtain rfl := Option.some.inj h
  have HR := M_ hr0
  have HN := hr0.2.1
  have HT := M_ hb
  clear hr0 hb h
  go_enter Try.func104, Try.ntmps104
  go_wp2
  go_loopg [3, 11] (l0.length + 1) (fun kq v3 v11 w' => ∃ (i : Nat) (s : Int), v11 = .int .i64 (i : Int) ∧ v3 = .int .i64 s ∧ Aside0 (i ≤ l0.length ∧ kq + i = l0.length + 1 ∧ s = ((l0.take i).flatten.length : Int)) ∧ Aside0 (Drawn0 w w'))
  case atStart => exact ⟨0, 0, by simp, by simp, ⟨by omega, by omega, by simp⟩, ⟨Drawn0.refl _⟩⟩
  case round =>
   obtain ⟨i, s, rfl, rfl, HI, HD⟩ := hrel
   obtain ⟨⟨n1, rfl⟩⟩ := HD.out
   by_cases c : i < l0.length
   ·have cb : decide (i < l0.length) = true := decide_eq_true c
    obtain ⟨ad, A1, c1, rfl, hx, hl1, hC1⟩ := at_rows HR.out i c
    have hf := flat_take l0 i c
    have hle := flat_take_le l0 (i + 1)
    have hT := HT.out
    rw [hf, List.length_append] at hle
    have hs := HI.out.2.2
    have b0 : 0 ≤ s := by omega
    have b1 : s + ((l0.getD i []).length : Int) ≤ 140737488355328 := by omega
    have b2 : decide (s + ((l0.getD i []).length : Int) < 0) = false := decide_eq_false (by omega)
    have HS : Aside0 (s + ((l0.getD i []).length : Int) = ((l0.take (i + 1)).flatten.length : Int)) := ⟨by rw [hf, List.length_append]; omega⟩
    have b3 : 0 ≤ s + ((l0.getD i []).length : Int) := by omega
    clear hf hle hT hs hC1 hl1
    generalize (l0.getD i []).length = q at hx b1 b2 HS b3
    go_wp2
    go_roundg (gk - 1)
    case rel => exact ⟨i + 1, s + (q : Int), by go_num, rfl, ⟨by omega, by have := HI.out; omega, HS.out⟩, ⟨⟨⟨_, rfl⟩⟩⟩⟩
    case measure => have := HI.out; omega
   ·have cb : decide (i < l0.length) = false := decide_eq_false c
    have hs : s = (l0.flatten.length : Int) := by
     have := HI.out.2.2
     rw [List.take_of_length_le (by omega)] at this
     exact this
    have hT := HT.out
    have b0 : 0 ≤ s := by omega
    have b1 : s ≤ 140737488355328 := by omega
    clear hs hT
    go_upto_region 10 with (go_at_call 120; (with_reducible refine (growNil_calls s _ b0 b1).mono ?_); rintro e w1 ⟨v1, rfl, hR1, hb1⟩; have HV := M_ hR1; have HB := M_ (below_step (pw_below_drewN (Below.refl _ w) _) hb1); clear hR1 hb1)
    go_wp2
    go_loopg [6, 27] (l0.length + 1) (fun kq v6 v27 w' => ∃ (i : Nat), v27 = .int .i64 (i : Int) ∧ Aside0 (i ≤ l0.length ∧ kq + i = l0.length + 1) ∧ Aside0 (Kd.R (Kd.int .u8) 5 w' w.heap.size (fun _ => True) v6 (l0.take i).flatten) ∧ Aside0 (Below w.heap.size w w'))
    case atStart => exact ⟨0, by simp, ⟨by omega, by omega⟩, ⟨by simpa using HV.out⟩, HB⟩
    case round =>
     clear HV HB
     obtain ⟨j, rfl, HJ, HV, HB⟩ := hrel
     by_cases d : j < l0.length
     ·have db : decide (j < l0.length) = true := decide_eq_true d
      obtain ⟨ad, A1, c1, rfl, hx, hl1, hC1⟩ := at_rows (Kd.C_below HR.out HB.out) j d
      have HC1 := M_ hC1
      have HF := M_ (flat_take l0 j d)
      have hle := flat_take_le l0 (j + 1)
      have hT2 := HT.out
      rw [HF.out, List.length_append] at hle
      have HL := M_ (show ((l0.take j).flatten.length + (l0.getD j []).length) * 1 ≤ 140737488355328 by omega)
      clear hC1 hl1 hle hT2
      generalize l0.getD j [] = ys at hx HC1 HF HL
      go_wp2_with (at_builtin; refine Kd.R_append_row (Value.int .u8) (0 : Int) (w0 := w) w.heap.size rfl _ _ 70 5 (.int .u8 0) 1 rfl hu70 infoU8 rfl (by decide) _ (l0.take j).flatten ys _ ys.length c1 (fun _ => True) rfl rfl (fun _ _ => trivial) HV.out HC1.out HB.out HB.out.size HL.out ?_; intro v2 w2 hR2 hb2 hg hat; clear hg hat; rw [← HF.out] at hR2; have HV2 := M_ hR2; have HB2 := M_ hb2; clear hR2 hb2)
      go_roundg (gk - 1)
      case rel => exact ⟨j + 1, by go_num, ⟨by omega, by have := HJ.out; omega⟩, HV2, HB2⟩
      case measure => have := HJ.out; omega
     ·have db : decide (j < l0.length) = false := decide_eq_false d
      go_wp2
      go_ret
      have hv := HV.out
      rw [List.take_of_length_le (by omega)] at hv
      exact ⟨_, rfl, hv, HB.out⟩
 ·simp at h

/-! ### ternary_and: function 105 -/
def ternary_and.j0 : Nat → Int → Int → Bool → Option (Int)
 | 0, _, _, _ => none
 | k + 1, x0, x1, x5 => if x5 = true then (some 0) else (if x0 = 2 then (some 2) else (if x1 = 2 then (some 2) else (some 1)))
def ternary_and.f (k : Nat) (a0 : Int) (a1 : Int) : Option (Int) := if a0 = 0 then (ternary_and.j0 k a0 a1 true) else (ternary_and.j0 k a0 a1 (a1 == 0))
theorem ternary_and.mono_l : ∀ k, (∀ y0 y1 y2, LeO (ternary_and.j0 k y0 y1 y2) (ternary_and.j0 (k + 1) y0 y1 y2))
 | 0 => fun _ _ _ r h => by simp [ternary_and.j0] at h
 | k + 1 => by
  have ih0 := ternary_and.mono_l k
  ·intro y0 y1 y2
   unfold ternary_and.j0
   repeat' first
   | (with_reducible exact ih0 _ _ _)
   | (with_reducible exact LeO.refl _)
   | (with_reducible exact LeO.none _)
   | (with_reducible refine LeO.ite ?_ ?_)
   | (with_reducible refine LeO.bind ?_ (fun _ => ?_))
   | exact ih0 _ _ _
   | exact LeO.none _
   | refine LeO.ite ?_ ?_
   | refine LeO.bind ?_ (fun _ => ?_)
theorem ternary_and.mono : ∀ a0 a1 k, LeO (ternary_and.f k a0 a1) (ternary_and.f (k + 1) a0 a1) := by
 intro a0 a1 k
 have ih0 := ternary_and.mono_l k
 unfold ternary_and.f
 repeat' first
   | (with_reducible exact ih0 _ _ _)
   | (with_reducible exact LeO.refl _)
   | (with_reducible exact LeO.none _)
   | (with_reducible refine LeO.ite ?_ ?_)
   | (with_reducible refine LeO.bind ?_ (fun _ => ?_))
   | exact ih0 _ _ _
   | exact LeO.none _
   | refine LeO.ite ?_ ?_
   | refine LeO.bind ?_ (fun _ => ?_)
set_option maxHeartbeats 8000000 in
set_option maxRecDepth 100000 in
theorem ternary_and.calls (k : Nat) (a0 : Int) (a1 : Int) (r : Int) (w : World) (h : ternary_and.f k a0 a1 = some r) :
  Calls Try.prog 105 #[.int .u8 a0, .int .u8 a1] w fun e w' => e = .returned (.int .u8 r) ∧ Drawn0 w w' := by
 have H : (if a0 = 0 then (ternary_and.j0 k a0 a1 true) else (ternary_and.j0 k a0 a1 (a1 == 0))) = some r := h
 clear h
 have HC3 := M_ H
 clear H
 go_enter Try.func105, Try.ntmps105
 go_upto_region 1 with (fail)
 go_cut [5] (fun v5 wc => ∃ (kq : Nat) (x5_2 : Bool), v5 = .bool x5_2 ∧ Aside0 (ternary_and.j0 kq a0 a1 x5_2 = some r) ∧ Aside0 (kq ≤ k) ∧ Drawn0 w wc)
 case first =>
  have H := HC3.out
  clear HC3
  by_cases c4 : a0 = 0
  ·rw [if_pos c4] at H
   have c4b0 : (a0 == 0) = true := beq_iff_eq.mpr c4
   have c4b1 : (a0 != 0) = false := bne_eq_false_iff_eq.mpr c4
   clear c4
   (first | rw [c4b0] | (simp only [i64_w, i32_w]; rw [c4b0]) | skip)
   have H' := M_ H
   clear H
   go_wp2
   go_meet
   case rel => exact ⟨_, (true), (by first | rfl | (simp; done) | (simp [*]; done)), H', ⟨by first | omega | exact Nat.le_refl _⟩, by repeat (first | exact Drawn0.refl _ | apply Drawn0.step)⟩
  ·rw [if_neg c4] at H
   have c4b0 : (a0 == 0) = false := beq_eq_false_iff_ne.mpr c4
   have c4b1 : (a0 != 0) = true := bne_iff_ne.mpr c4
   (first | rw [c4b0] | (simp only [i64_w, i32_w]; rw [c4b0]) | skip)
   have H' := M_ H
   clear H
   go_wp2
   go_meet
   case rel => exact ⟨_, ((a1 == 0)), (by first | rfl | (simp; done) | (simp [*]; done)), H', ⟨by first | omega | exact Nat.le_refl _⟩, by repeat (first | exact Drawn0.refl _ | apply Drawn0.step)⟩
 case rest =>
  clear HC3
  try clear c1
  try clear p2
  try clear c4
  try clear c4b0
  try clear c4b1
  obtain ⟨kq, x5_2, rfl, HA, HJ2, ⟨mc2, rfl⟩⟩ := hcut
  cases kq with
  | zero => exact absurd HA.out (by simp [ternary_and.j0])
  | succ kj2 =>
   have H := HA.out
   clear HA
   simp only [ternary_and.j0] at H
   by_cases c5 : x5_2 = true
   ·subst c5
    have H1 : (some 0) = some r := by rw [if_pos rfl] at H; exact H
    clear H
    have H := H1
    clear H1
    obtain rfl := Option.some.inj H
    go_wp2
    go_ret
    exact ⟨by first | rfl | (simp; done) | (simp [*]; done), by repeat (first | exact Drawn0.refl _ | apply Drawn0.step)⟩
   ·replace c5 := Bool.eq_false_iff.mpr c5
    subst c5
    have H1 : (if a0 = 2 then (some 2) else (if a1 = 2 then (some 2) else (some 1))) = some r := by rw [if_neg (show ¬ (false = true) by decide)] at H; exact H
    clear H
    have H := H1
    clear H1
    by_cases c6 : a0 = 2
    ·rw [if_pos c6] at H
     have c6b0 : (a0 == 2) = true := beq_iff_eq.mpr c6
     have c6b1 : (a0 != 2) = false := bne_eq_false_iff_eq.mpr c6
     clear c6
     obtain rfl := Option.some.inj H
     go_wp2
     go_ret
     exact ⟨by first | rfl | (simp; done) | (simp [*]; done), by repeat (first | exact Drawn0.refl _ | apply Drawn0.step)⟩
    ·rw [if_neg c6] at H
     have c6b0 : (a0 == 2) = false := beq_eq_false_iff_ne.mpr c6
     have c6b1 : (a0 != 2) = true := bne_iff_ne.mpr c6
     by_cases c7 : a1 = 2
     ·rw [if_pos c7] at H
      have c7b0 : (a1 == 2) = true := beq_iff_eq.mpr c7
      have c7b1 : (a1 != 2) = false := bne_eq_false_iff_eq.mpr c7
      clear c7
      obtain rfl := Option.some.inj H
      go_wp2
      go_ret
      exact ⟨by first | rfl | (simp; done) | (simp [*]; done), by repeat (first | exact Drawn0.refl _ | apply Drawn0.step)⟩
     ·rw [if_neg c7] at H
      have c7b0 : (a1 == 2) = false := beq_eq_false_iff_ne.mpr c7
      have c7b1 : (a1 != 2) = true := bne_iff_ne.mpr c7
      obtain rfl := Option.some.inj H
      go_wp2
      go_ret
      exact ⟨by first | rfl | (simp; done) | (simp [*]; done), by repeat (first | exact Drawn0.refl _ | apply Drawn0.step)⟩

end Go.Proofs.Ytmcdanpecajklaa.QTernsimStates
