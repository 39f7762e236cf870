-- Made by wip/myprint.sh (a patched print): a text of this session's own.
import Derived.Test.YtmcdanpecajklaaLay
import Derived.Test.YtmcdanpecajklaaQTernsimValuesx0
import Derived.Test.YtmcdanpecajklaaQTernsimValuesx14
namespace Go.Proofs.Ytmcdanpecajklaa.QTernsimValues
open Go.RowKit Go.Proofs.YtmcdanpecajklaaW.PrintWords Go.Proofs.YtmcdanpecajklaaW.PrintLast Go.Proofs.YtmcdanpecajklaaW.PrintMore
attribute [local go_sem] max2_int min2_int max_two min_two max_three min_three max_four min_four
set_option linter.unusedVariables false
set_option linter.unusedSimpArgs false

def slices_Index_bool_bool.l0 : Nat → List Bool → Bool → Int → Int → Option (Int)
 | 0, _, _, _, _ => none
 | k + 1, x0, x1, x7, x8 => if x8 < x7 then (if 0 ≤ x8 then (if x8 < (x0.length : Int) then (if (x1 == (rdOf false x0 x8)) = true then (some x8) else (slices_Index_bool_bool.l0 k x0 x1 x7 (wrap64 (x8 + 1)))) else (none)) else (none)) else (some (-1))
def slices_Index_bool_bool.f (k : Nat) (l0 : List Bool) (a1 : Bool) : Option (Int) := slices_Index_bool_bool.l0 k l0 a1 (l0.length : Int) 0
set_option maxHeartbeats 8000000 in
set_option maxRecDepth 100000 in
theorem slices_Index_bool_bool.calls (k : Nat) (A0 : Option Addr) (c0 : Nat) (l0 : List Bool) (a1 : Bool) (r : Int) (w : World) (hr0 : Kd.C Kd.bool w A0 l0.length l0) (hc0 : l0.length ≤ c0) (h : slices_Index_bool_bool.f k l0 a1 = some r) :
  Calls Try.prog 107 #[.slice A0 l0.length c0, .bool a1] w fun e w' => e = .returned (.int .i64 r) ∧ Drawn0 w w' := by
 have HR0 := M_ hr0
 have HC0 := M_ hc0
 clear hr0 hc0
 have H : (slices_Index_bool_bool.l0 k l0 a1 (l0.length : Int) 0) = some r := h
 clear h
 have H' := M_ H
 clear H
 go_enter Try.func107, Try.ntmps107
 go_wp2
 go_loopg [8] k (fun kq v8 w' => ∃ (x8_1 : Int), v8 = .int .i64 x8_1 ∧ Aside0 (slices_Index_bool_bool.l0 kq l0 a1 (l0.length : Int) x8_1 = some r) ∧ Aside0 (kq ≤ k) ∧ Drawn0 w w')
 case atStart => exact ⟨(0), (by first | rfl | (simp; done) | (simp [*]; done)), H', ⟨Nat.le_refl _⟩, by repeat (first | exact Drawn0.refl _ | apply Drawn0.step)⟩
 case round =>
  clear H'
  try clear c1; try clear p2
  obtain ⟨x8_1, rfl, HA, HK1, ⟨m1, rfl⟩⟩ := hrel
  cases gk with
  | zero => exact absurd HA.out (by simp [slices_Index_bool_bool.l0])
  | succ k1 =>
   have H := HA.out
   clear HA
   simp only [slices_Index_bool_bool.l0] at H
   by_cases c3 : x8_1 < (l0.length : Int)
   ·rw [if_pos c3] at H
    have c3b0 : decide (x8_1 < (l0.length : Int)) = true := decide_eq_true c3
    clear c3
    by_cases c4 : 0 ≤ x8_1
    ·rw [if_pos c4] at H
     have c4b0 : decide (0 ≤ x8_1) = true := decide_eq_true c4
     clear c4
     by_cases c5 : x8_1 < (l0.length : Int)
     ·rw [if_pos c5] at H
      have c5b0 : decide (x8_1 < (l0.length : Int)) = true := decide_eq_true c5
      clear c5
      by_cases c6 : (a1 == (rdOf false l0 x8_1)) = true
      ·rw [if_pos c6] at H
       have c6b0 : (a1 == (rdOf false l0 x8_1)) = true := c6
       (try (have c6b1 : decide (a1 = (rdOf false l0 x8_1)) = true := by simpa using c6))
       (try (have c6b2 : (a1 == (rdOf false l0 x8_1)) = true := by simpa using c6))
       clear c6
       obtain rfl := Option.some.inj H
       have p341 : 0 ≤ (x8_1 : Int) := of_decide_eq_true (by first | (with_reducible assumption) | assumption)
       have q341 : x8_1 < (l0.length : Int) := of_decide_eq_true (by first | (with_reducible assumption) | assumption)
       obtain ⟨ad341, e341, hx341_0⟩ := Kd.at_bool HR0.out x8_1 p341 q341
       cases e341
       replace p341 := eq_true p341
       replace q341 := eq_true q341
       go_wp2
       go_ret
       exact ⟨by first | rfl | (simp; done) | (simp [*]; done), by repeat (first | exact Drawn0.refl _ | apply Drawn0.step)⟩
      ·rw [if_neg c6] at H
       have c6b0 : (a1 == (rdOf false l0 x8_1)) = false := by simpa using c6
       (try (have c6b1 : decide (a1 = (rdOf false l0 x8_1)) = false := by simpa using c6))
       (try (have c6b2 : (a1 == (rdOf false l0 x8_1)) = false := by simpa using c6))
       (try (have c6b3 : ¬ (a1 = (rdOf false l0 x8_1)) := by simpa using c6))
       clear c6
       have H' := M_ H
       clear H
       have p341 : 0 ≤ (x8_1 : Int) := of_decide_eq_true (by first | (with_reducible assumption) | assumption)
       have q341 : x8_1 < (l0.length : Int) := of_decide_eq_true (by first | (with_reducible assumption) | assumption)
       obtain ⟨ad341, e341, hx341_0⟩ := Kd.at_bool HR0.out x8_1 p341 q341
       cases e341
       replace p341 := eq_true p341
       replace q341 := eq_true q341
       go_wp2
       go_roundg k1
       case measure => have := HK1.out; omega
       case rel => exact ⟨(wrap64 (x8_1 + 1)), (by first | rfl | (simp; done) | (simp [*]; done)), H', ⟨by have := HK1.out; omega⟩, by repeat (first | exact Drawn0.refl _ | apply Drawn0.step)⟩
     ·rw [if_neg c5] at H
      exact absurd H (by simp)
    ·rw [if_neg c4] at H
     exact absurd H (by simp)
   ·rw [if_neg c3] at H
    have c3b0 : decide (x8_1 < (l0.length : Int)) = false := decide_eq_false c3
    clear c3
    obtain rfl := Option.some.inj H
    go_wp2
    go_ret
    exact ⟨by first | rfl | (simp; done) | (simp [*]; done), by repeat (first | exact Drawn0.refl _ | apply Drawn0.step)⟩

def slices_Contains_bool_bool.f (k : Nat) (l0 : List Bool) (a1 : Bool) : Option (Bool) := (slices_Index_bool_bool.f k l0 a1).bind fun t342 => (some (decide (t342 ≥ 0)))
set_option maxHeartbeats 8000000 in
set_option maxRecDepth 100000 in
theorem slices_Contains_bool_bool.calls (k : Nat) (A0 : Option Addr) (c0 : Nat) (l0 : List Bool) (a1 : Bool) (r : Bool) (w : World) (hr0 : Kd.C Kd.bool w A0 l0.length l0) (hc0 : l0.length ≤ c0) (h : slices_Contains_bool_bool.f k l0 a1 = some r) :
  Calls Try.prog 75 #[.slice A0 l0.length c0, .bool a1] w fun e w' => e = .returned (.bool r) ∧ Drawn0 w w' := by
 have HR0 := M_ hr0
 have HC0 := M_ hc0
 clear hr0 hc0
 have H : ((slices_Index_bool_bool.f k l0 a1).bind fun t342 => (some (decide (t342 ≥ 0)))) = some r := h
 clear h
 replace H := Option.bind_eq_some_iff.mp H
 obtain ⟨t342, A30, H⟩ := H
 replace H : (some (decide (t342 ≥ 0))) = some r := H
 have A3 := M_ A30
 clear A30
 obtain rfl := Option.some.inj H
 go_enter Try.func75, Try.ntmps75
 go_wp2_with (first | ((with_reducible refine gate_callee (f := 107) rfl ?_); refine goesL_ (some 7) rfl rfl Try.func107 (by kernel_rfl) rfl #[.slice A0 l0.length c0, .bool a1] rfl (by (try simp only [List.map_toArray, List.map_cons, List.map_nil]); first | done | rfl) ?_; (with_reducible refine (slices_Index_bool_bool.calls k _ _ l0 a1 t342 _ ?side1 ?side2 A3.out).mono ?_); (case side1 => exact cl_ HR0.out); (case side2 => exact HC0.out); rintro e w' ⟨rfl, ⟨nd, rfl⟩⟩; refine ⟨_, rfl, ?_⟩))
 go_ret
 exact ⟨by first | rfl | (simp; done) | (simp [*]; done), by repeat (first | exact Drawn0.refl _ | apply Drawn0.step)⟩

set_option maxHeartbeats 2000000 in
set_option maxRecDepth 100000 in
theorem bads1_calls (B : Nat) (i : Nat) (a0_0 : Int) (A0_1 : Option Addr) (c0_1 : Nat) (l0_1 : List S36) (A0_2 : Option Addr) (c0_2 : Nat) (l0_2 : List S69) (A0_3 : Option Addr) (c0_3 : Nat) (l0_3 : List Int) (A0_4 : Option Addr) (c0_4 : Nat) (l0_4 : List Int) (w : World) (hb : w.heap[B]? = some (.cells #[.int .i64 a0_0, .slice A0_1 l0_1.length c0_1, .slice A0_2 l0_2.length c0_2, .slice A0_3 l0_3.length c0_3, .slice A0_4 l0_4.length c0_4] 26 (0, 0))) (hr : Kd.C (Kd.int .i64) w A0_3 l0_3.length l0_3) (hi : i < l0_3.length) :
  Calls Try.prog 73 #[.int .i64 (i : Int), .pointer (some ⟨B, 0, none⟩)] w fun e w' => e = .returned (.int .i64 (rd l0_3 (i : Int))) ∧ Drawn0 w w' := by
 have hu26 := Try.underlying26
 have hu24 := Try.underlying24
 have k := blk_cell hb 3
 simp only [List.getElem?_toArray, List.getElem?_cons_succ, List.getElem?_cons_zero] at k
 obtain ⟨ad, rfl, hx0⟩ := Kd.at_int hr (i : Int) (by omega) (by omega)
 have hx : w.cell? (ad.add i) = some (.int .i64 (rd l0_3 (i : Int))) := hx0
 clear hx0
 have p0 : ((0 : Int) ≤ (i : Int)) = True := eq_true (by omega)
 have q0 : ((i : Int) < (l0_3.length : Int)) = True := eq_true (by omega)
 go_enter Try.func73, Try.ntmps73
 go_wp2
 go_ret
 exact ⟨rfl, Drawn0.refl _⟩

set_option maxHeartbeats 2000000 in
set_option maxRecDepth 100000 in
theorem cons1_calls (B : Nat) (i : Nat) (a0_0 : Int) (A0_1 : Option Addr) (c0_1 : Nat) (l0_1 : List S36) (A0_2 : Option Addr) (c0_2 : Nat) (l0_2 : List S69) (A0_3 : Option Addr) (c0_3 : Nat) (l0_3 : List Int) (A0_4 : Option Addr) (c0_4 : Nat) (l0_4 : List Int) (w : World) (hb : w.heap[B]? = some (.cells #[.int .i64 a0_0, .slice A0_1 l0_1.length c0_1, .slice A0_2 l0_2.length c0_2, .slice A0_3 l0_3.length c0_3, .slice A0_4 l0_4.length c0_4] 26 (0, 0))) (hr : Kd.C (Kd.int .i64) w A0_4 l0_4.length l0_4) (hi : i < l0_4.length) :
  Calls Try.prog 74 #[.int .i64 (i : Int), .pointer (some ⟨B, 0, none⟩)] w fun e w' => e = .returned (.int .i64 (rd l0_4 (i : Int))) ∧ Drawn0 w w' := by
 have hu26 := Try.underlying26
 have hu24 := Try.underlying24
 have k := blk_cell hb 4
 simp only [List.getElem?_toArray, List.getElem?_cons_succ, List.getElem?_cons_zero] at k
 obtain ⟨ad, rfl, hx0⟩ := Kd.at_int hr (i : Int) (by omega) (by omega)
 have hx : w.cell? (ad.add i) = some (.int .i64 (rd l0_4 (i : Int))) := hx0
 clear hx0
 have p0 : ((0 : Int) ≤ (i : Int)) = True := eq_true (by omega)
 have q0 : ((i : Int) < (l0_4.length : Int)) = True := eq_true (by omega)
 go_enter Try.func74, Try.ntmps74
 go_wp2
 go_ret
 exact ⟨rfl, Drawn0.refl _⟩

set_option maxHeartbeats 4000000 in
set_option maxRecDepth 100000 in
theorem list_calls_bads (B : Nat) (a0_0 : Int) (A0_1 : Option Addr) (c0_1 : Nat) (l0_1 : List S36) (A0_2 : Option Addr) (c0_2 : Nat) (l0_2 : List S69) (A0_3 : Option Addr) (c0_3 : Nat) (l0_3 : List Int) (A0_4 : Option Addr) (c0_4 : Nat) (l0_4 : List Int) (A1 : Option Addr) (c1 : Nat) (l1 : List Bool) (A2 : Option Addr) (c2 : Nat) (l2 : List Bool) (ls : List Int) (r1 : List Bool) (r2 : Int) (w : World) (hr0_1 : Kd.C k36 w A0_1 l0_1.length l0_1) (hc0_1 : l0_1.length ≤ c0_1) (hr0_2 : Kd.C k69 w A0_2 l0_2.length l0_2) (hc0_2 : l0_2.length ≤ c0_2) (hr0_3 : Kd.C (Kd.int .i64) w A0_3 l0_3.length l0_3) (hc0_3 : l0_3.length ≤ c0_3) (hr0_4 : Kd.C (Kd.int .i64) w A0_4 l0_4.length l0_4) (hc0_4 : l0_4.length ≤ c0_4) (hr1 : Kd.C Kd.bool w A1 l1.length l1) (hc1 : l1.length ≤ c1) (hr2 : Kd.C Kd.bool w A2 l2.length l2) (hc2 : l2.length ≤ c2) (hls : ls.length ≤ 1000000)
  (hp : ∀ (i : Nat), i < ls.length → ∀ W : World, Below w.heap.size w W → Calls Try.prog 73 #[.int .i64 (i : Int), .pointer (some ⟨B, 0, none⟩)] W fun e w' => e = .returned (.int .i64 (rd ls (i : Int))) ∧ Drawn0 W w')
  (h : listF a0_0 l0_1 l0_2 l0_3 l0_4 l1 l2 ls = some (r1, r2)) :
  Calls Try.prog 42 #[.agg #[.int .i64 a0_0, .slice A0_1 l0_1.length c0_1, .slice A0_2 l0_2.length c0_2, .slice A0_3 l0_3.length c0_3, .slice A0_4 l0_4.length c0_4], .slice A1 l1.length c1, .slice A2 l2.length c2, .int .i64 (ls.length : Int), .func (.func 73) #[] #[.pointer (some ⟨B, 0, none⟩)]] w fun e w' => ∃ v0_ : Value, e = .returned (.tuple #[v0_, .int .i64 r2]) ∧ Kd.R Kd.bool 4 w' w.heap.size (fun _ => True) v0_ r1 ∧ Below w.heap.size w w' := by
 have hu26 := Try.underlying26
 have hu27 := Try.underlying27
 have hu4 := Try.underlying4
 have HR0_1 := M_ hr0_1
 have HR0_2 := M_ hr0_2
 have HR0_3 := M_ hr0_3
 have HR0_4 := M_ hr0_4
 have HC0_1 := M_ hc0_1
 have HC0_2 := M_ hc0_2
 have HC0_3 := M_ hc0_3
 have HC0_4 := M_ hc0_4
 have HR1 := M_ hr1
 have HR2 := M_ hr2
 have HC1 := M_ hc1
 have HC2 := M_ hc2
 clear hr0_1 hr0_2 hr0_3 hr0_4 hc0_1 hc0_2 hc0_3 hc0_4 hr1 hr2 hc1 hc2
 have HP := M_ hp
 have HLS := M_ hls
 clear hp hls
 unfold listF at h
 obtain ⟨⟨vals, e0⟩, he, h⟩ := Option.bind_eq_some_iff.mp h
 have HE := M_ he
 clear he
 simp only at h
 by_cases c : e0 = 0
 ·rw [if_pos c] at h
  subst c
  obtain ⟨rr, hv, h⟩ := Option.bind_eq_some_iff.mp h
  simp only [Option.some.injEq, Prod.mk.injEq] at h
  obtain ⟨rfl, rfl⟩ := h
  have HV := M_ hv
  clear hv
  go_enter Try.func42, Try.ntmps42
  go_wp2_with (go_at_call 35; (with_reducible refine (values_All.calls a0_0 _ _ l0_1 _ _ l0_2 _ _ l0_3 _ _ l0_4 _ _ l1 _ _ l2 vals _ _ ?s1 ?s2 ?s3 ?s4 ?s5 ?s6 ?s7 ?s8 ?s9 ?s10 ?s11 ?s12 HE.out).mono ?_); (case s1 => exact Kd.C_below HR0_1.out (below_alloc (Below.refl _ _) _)); (case s2 => exact HC0_1.out); (case s3 => exact Kd.C_below HR0_2.out (below_alloc (Below.refl _ _) _)); (case s4 => exact HC0_2.out); (case s5 => exact Kd.C_below HR0_3.out (below_alloc (Below.refl _ _) _)); (case s6 => exact HC0_3.out); (case s7 => exact Kd.C_below HR0_4.out (below_alloc (Below.refl _ _) _)); (case s8 => exact HC0_4.out); (case s9 => exact Kd.C_below HR1.out (below_alloc (Below.refl _ _) _)); (case s10 => exact HC1.out); (case s11 => exact Kd.C_below HR2.out (below_alloc (Below.refl _ _) _)); (case s12 => exact HC2.out); rintro e w1 ⟨v0, rfl, ho, hb⟩; have HO := M_ (Kd.R_lower (base' := w.heap.size) ho (by simp)); have HB := M_ (below_step (below_alloc (Below.refl _ _) _) hb); clear hb ho)
  go_loopg [14, 27] (ls.length + 1) (fun kq v14 v27 w' => ∃ (j : Nat) (acc rest : List Bool), v27 = .int .i64 (j : Int) ∧ Aside0 (j ≤ ls.length ∧ kq + j = ls.length + 1 ∧ acc.length = j) ∧ Aside0 (listV vals (ls.drop j) = some rest ∧ acc ++ rest = rr) ∧ Aside0 (Below w.heap.size w w') ∧ Aside0 (Kd.R Kd.bool 4 w' w.heap.size (fun k_ => some k_ ≠ (v14 : Value).ownBlock) v0 vals) ∧ Aside0 (Kd.R Kd.bool 4 w' w.heap.size (fun k_ => some k_ ≠ (v0 : Value).ownBlock) v14 acc))
  case atStart => exact ⟨0, [], rr, by simp, ⟨by omega, by omega, rfl⟩, ⟨by simpa using HV.out, rfl⟩, HB, ⟨Kd.R_mono HO.out (fun _ hk => (by simp [Value.ownBlock]))⟩, ⟨Kd.R_nil _ _ _ _ _⟩⟩
  case round =>
   clear HB HO
   obtain ⟨j, acc, rest, rfl, HI, HV2, HB, HO, HA⟩ := hrel
   by_cases c : j < ls.length
   ·have cb : decide (j < ls.length) = true := decide_eq_true c
    obtain ⟨hv0, hacc⟩ := HV2.out
    have hg : rd ls (j : Int) = ls[j] := by simp [rd, List.getD, c]
    have hd : ls.drop j = rd ls (j : Int) :: ls.drop (j + 1) := by rw [hg]; exact List.drop_eq_getElem_cons c
    rw [hd] at hv0
    simp only [listV] at hv0
    have hv := hv0
    clear hv0 hd hg
    obtain ⟨b, hb1, hv⟩ := Option.bind_eq_some_iff.mp hv
    obtain ⟨re, hr1, hv⟩ := Option.bind_eq_some_iff.mp hv
    obtain rfl := Option.some.inj hv
    have HX := M_ hb1
    have HR := M_ hr1
    have HACC := M_ hacc
    have HJ := M_ c
    clear hb1 hr1 hacc c
    have WJ : Aside0 (wrap64 ((j : Int) + 1) = ((j + 1 : Nat) : Int)) := ⟨by have h1 := HJ.out; have h2 := HLS.out; unfold wrap64; omega⟩
    obtain ⟨Ao, co, eo⟩ := Kd.R_slice HO.out
    subst eo
    go_wp2_with (first | (go_at_call 73; (with_reducible refine (HP.out j HJ.out _ ?s1).mono ?_); (case s1 => exact HB.out); rintro e w' ⟨rfl, ⟨nd, rfl⟩⟩) | (go_at_call 72; (with_reducible refine (values_of.calls Ao co vals (rd ls (j : Int)) b _ ?s1 ?s2 HX.out).mono ?_); (case s1 => exact (Kd.R_reads' (Kd.R_drewN HO.out _)).2.2); (case s2 => exact (Kd.R_reads' HO.out).2.1); rintro e w' ⟨rfl, ⟨nd2, rfl⟩⟩) | (at_builtin; go_loud (refine Kd.R_append Kd.bool (w0 := w) w.heap.size rfl (.tmp 30) (.tmp 36) 27 4 (.bool false) 1 rfl hu27 infoB rfl (by decide) (by omega) u14 acc b [.bool b] (fun k_ => some k_ ≠ (.slice Ao vals.length co : Value).ownBlock) (fun _ => False) rfl rfl rfl (fun _ hk => hk.elim) ?aF ?aO ?aB ?aS ?aL ?_; (case aB => exact (wl_ HB.out)); (case aF => exact (fun k_ hk => Kd.fresh' (Kd.R_lt (rl_ HO.out)) k_ hk)); (case aO => exact (rl_ HA.out)); (case aS => exact below_size (wl_ HB.out)); (case aL => have := HI.out.2.2; have := HJ.out; have := HLS.out; omega); intro v2 w14 ho hb hg hat; have n0_ := M_ (Kd.R_after (ok := (fun _ => True)) (rl_ (Kd.R_mono HO.out (fun _ hk => ⟨trivial, hk⟩))) hg hat); have n1_ := M_ hb; have n2_ := M_ ho; clear HO HB HA ho hb hg hat; have HO := n0_; have HB := n1_; have HA := n2_; clear n0_ n1_ n2_)))
    go_roundg (gk - 1)
    case measure => have := HI.out; omega
    case rel => exact ⟨j + 1, acc ++ [b], re, by rw [WJ.out], ⟨HJ.out, by have := HI.out; omega, by rw [List.length_append, HI.out.2.2]; rfl⟩, ⟨HR.out, by rw [List.append_assoc]; exact HACC.out⟩, ⟨by repeat (first | (with_reducible first | exact HB.out | apply b0_ | apply b1_ | apply b2_) | exact HB.out)⟩, ⟨by (with_reducible repeat (first | apply a0_ | apply a1_ | apply a2_)); exact Kd.R_mono HO.out (fun _ hk => hk.2)⟩, ⟨by (with_reducible repeat (first | apply a0_ | apply a1_ | apply a2_)); exact HA.out⟩⟩
   ·have cb : decide (j < ls.length) = false := decide_eq_false c
    have hj : j = ls.length := by have := HI.out.1; omega
    have hv := HV2.out
    rw [hj, List.drop_length] at hv
    obtain ⟨hv, hacc⟩ := hv
    obtain rfl := Option.some.inj hv
    rw [List.append_nil] at hacc
    subst hacc
    clear hj
    go_wp2
    go_ret2
    exact ⟨_, rfl, Kd.R_mono HA.out (fun _ _ => trivial), HB.out⟩
 ·rw [if_neg c] at h
  simp only [Option.some.injEq, Prod.mk.injEq] at h
  obtain ⟨rfl, rfl⟩ := h
  have b : (e0 != 0) = true := bne_iff_ne.mpr c
  clear c
  go_enter Try.func42, Try.ntmps42
  go_wp2_with (go_at_call 35; (with_reducible refine (values_All.calls a0_0 _ _ l0_1 _ _ l0_2 _ _ l0_3 _ _ l0_4 _ _ l1 _ _ l2 vals _ _ ?s1 ?s2 ?s3 ?s4 ?s5 ?s6 ?s7 ?s8 ?s9 ?s10 ?s11 ?s12 HE.out).mono ?_); (case s1 => exact Kd.C_below HR0_1.out (below_alloc (Below.refl _ _) _)); (case s2 => exact HC0_1.out); (case s3 => exact Kd.C_below HR0_2.out (below_alloc (Below.refl _ _) _)); (case s4 => exact HC0_2.out); (case s5 => exact Kd.C_below HR0_3.out (below_alloc (Below.refl _ _) _)); (case s6 => exact HC0_3.out); (case s7 => exact Kd.C_below HR0_4.out (below_alloc (Below.refl _ _) _)); (case s8 => exact HC0_4.out); (case s9 => exact Kd.C_below HR1.out (below_alloc (Below.refl _ _) _)); (case s10 => exact HC1.out); (case s11 => exact Kd.C_below HR2.out (below_alloc (Below.refl _ _) _)); (case s12 => exact HC2.out); rintro e w1 ⟨v0, rfl, ho, hb⟩; have HO := M_ (Kd.R_lower (base' := w.heap.size) ho (by simp)); have HB := M_ (below_step (below_alloc (Below.refl _ _) _) hb); clear hb ho)
  go_ret2
  exact ⟨_, rfl, Kd.R_nil _ _ _ _ _, HB.out⟩

set_option maxHeartbeats 4000000 in
set_option maxRecDepth 100000 in
theorem list_calls_cons (B : Nat) (a0_0 : Int) (A0_1 : Option Addr) (c0_1 : Nat) (l0_1 : List S36) (A0_2 : Option Addr) (c0_2 : Nat) (l0_2 : List S69) (A0_3 : Option Addr) (c0_3 : Nat) (l0_3 : List Int) (A0_4 : Option Addr) (c0_4 : Nat) (l0_4 : List Int) (A1 : Option Addr) (c1 : Nat) (l1 : List Bool) (A2 : Option Addr) (c2 : Nat) (l2 : List Bool) (ls : List Int) (r1 : List Bool) (r2 : Int) (w : World) (hr0_1 : Kd.C k36 w A0_1 l0_1.length l0_1) (hc0_1 : l0_1.length ≤ c0_1) (hr0_2 : Kd.C k69 w A0_2 l0_2.length l0_2) (hc0_2 : l0_2.length ≤ c0_2) (hr0_3 : Kd.C (Kd.int .i64) w A0_3 l0_3.length l0_3) (hc0_3 : l0_3.length ≤ c0_3) (hr0_4 : Kd.C (Kd.int .i64) w A0_4 l0_4.length l0_4) (hc0_4 : l0_4.length ≤ c0_4) (hr1 : Kd.C Kd.bool w A1 l1.length l1) (hc1 : l1.length ≤ c1) (hr2 : Kd.C Kd.bool w A2 l2.length l2) (hc2 : l2.length ≤ c2) (hls : ls.length ≤ 1000000)
  (hp : ∀ (i : Nat), i < ls.length → ∀ W : World, Below w.heap.size w W → Calls Try.prog 74 #[.int .i64 (i : Int), .pointer (some ⟨B, 0, none⟩)] W fun e w' => e = .returned (.int .i64 (rd ls (i : Int))) ∧ Drawn0 W w')
  (h : listF a0_0 l0_1 l0_2 l0_3 l0_4 l1 l2 ls = some (r1, r2)) :
  Calls Try.prog 42 #[.agg #[.int .i64 a0_0, .slice A0_1 l0_1.length c0_1, .slice A0_2 l0_2.length c0_2, .slice A0_3 l0_3.length c0_3, .slice A0_4 l0_4.length c0_4], .slice A1 l1.length c1, .slice A2 l2.length c2, .int .i64 (ls.length : Int), .func (.func 74) #[] #[.pointer (some ⟨B, 0, none⟩)]] w fun e w' => ∃ v0_ : Value, e = .returned (.tuple #[v0_, .int .i64 r2]) ∧ Kd.R Kd.bool 4 w' w.heap.size (fun _ => True) v0_ r1 ∧ Below w.heap.size w w' := by
 have hu26 := Try.underlying26
 have hu27 := Try.underlying27
 have hu4 := Try.underlying4
 have HR0_1 := M_ hr0_1
 have HR0_2 := M_ hr0_2
 have HR0_3 := M_ hr0_3
 have HR0_4 := M_ hr0_4
 have HC0_1 := M_ hc0_1
 have HC0_2 := M_ hc0_2
 have HC0_3 := M_ hc0_3
 have HC0_4 := M_ hc0_4
 have HR1 := M_ hr1
 have HR2 := M_ hr2
 have HC1 := M_ hc1
 have HC2 := M_ hc2
 clear hr0_1 hr0_2 hr0_3 hr0_4 hc0_1 hc0_2 hc0_3 hc0_4 hr1 hr2 hc1 hc2
 have HP := M_ hp
 have HLS := M_ hls
 clear hp hls
 unfold listF at h
 obtain ⟨⟨vals, e0⟩, he, h⟩ := Option.bind_eq_some_iff.mp h
 have HE := M_ he
 clear he
 simp only at h
 by_cases c : e0 = 0
 ·rw [if_pos c] at h
  subst c
  obtain ⟨rr, hv, h⟩ := Option.bind_eq_some_iff.mp h
  simp only [Option.some.injEq, Prod.mk.injEq] at h
  obtain ⟨rfl, rfl⟩ := h
  have HV := M_ hv
  clear hv
  go_enter Try.func42, Try.ntmps42
  go_wp2_with (go_at_call 35; (with_reducible refine (values_All.calls a0_0 _ _ l0_1 _ _ l0_2 _ _ l0_3 _ _ l0_4 _ _ l1 _ _ l2 vals _ _ ?s1 ?s2 ?s3 ?s4 ?s5 ?s6 ?s7 ?s8 ?s9 ?s10 ?s11 ?s12 HE.out).mono ?_); (case s1 => exact Kd.C_below HR0_1.out (below_alloc (Below.refl _ _) _)); (case s2 => exact HC0_1.out); (case s3 => exact Kd.C_below HR0_2.out (below_alloc (Below.refl _ _) _)); (case s4 => exact HC0_2.out); (case s5 => exact Kd.C_below HR0_3.out (below_alloc (Below.refl _ _) _)); (case s6 => exact HC0_3.out); (case s7 => exact Kd.C_below HR0_4.out (below_alloc (Below.refl _ _) _)); (case s8 => exact HC0_4.out); (case s9 => exact Kd.C_below HR1.out (below_alloc (Below.refl _ _) _)); (case s10 => exact HC1.out); (case s11 => exact Kd.C_below HR2.out (below_alloc (Below.refl _ _) _)); (case s12 => exact HC2.out); rintro e w1 ⟨v0, rfl, ho, hb⟩; have HO := M_ (Kd.R_lower (base' := w.heap.size) ho (by simp)); have HB := M_ (below_step (below_alloc (Below.refl _ _) _) hb); clear hb ho)
  go_loopg [14, 27] (ls.length + 1) (fun kq v14 v27 w' => ∃ (j : Nat) (acc rest : List Bool), v27 = .int .i64 (j : Int) ∧ Aside0 (j ≤ ls.length ∧ kq + j = ls.length + 1 ∧ acc.length = j) ∧ Aside0 (listV vals (ls.drop j) = some rest ∧ acc ++ rest = rr) ∧ Aside0 (Below w.heap.size w w') ∧ Aside0 (Kd.R Kd.bool 4 w' w.heap.size (fun k_ => some k_ ≠ (v14 : Value).ownBlock) v0 vals) ∧ Aside0 (Kd.R Kd.bool 4 w' w.heap.size (fun k_ => some k_ ≠ (v0 : Value).ownBlock) v14 acc))
  case atStart => exact ⟨0, [], rr, by simp, ⟨by omega, by omega, rfl⟩, ⟨by simpa using HV.out, rfl⟩, HB, ⟨Kd.R_mono HO.out (fun _ hk => (by simp [Value.ownBlock]))⟩, ⟨Kd.R_nil _ _ _ _ _⟩⟩
  case round =>
   clear HB HO
   obtain ⟨j, acc, rest, rfl, HI, HV2, HB, HO, HA⟩ := hrel
   by_cases c : j < ls.length
   ·have cb : decide (j < ls.length) = true := decide_eq_true c
    obtain ⟨hv0, hacc⟩ := HV2.out
    have hg : rd ls (j : Int) = ls[j] := by simp [rd, List.getD, c]
    have hd : ls.drop j = rd ls (j : Int) :: ls.drop (j + 1) := by rw [hg]; exact List.drop_eq_getElem_cons c
    rw [hd] at hv0
    simp only [listV] at hv0
    have hv := hv0
    clear hv0 hd hg
    obtain ⟨b, hb1, hv⟩ := Option.bind_eq_some_iff.mp hv
    obtain ⟨re, hr1, hv⟩ := Option.bind_eq_some_iff.mp hv
    obtain rfl := Option.some.inj hv
    have HX := M_ hb1
    have HR := M_ hr1
    have HACC := M_ hacc
    have HJ := M_ c
    clear hb1 hr1 hacc c
    have WJ : Aside0 (wrap64 ((j : Int) + 1) = ((j + 1 : Nat) : Int)) := ⟨by have h1 := HJ.out; have h2 := HLS.out; unfold wrap64; omega⟩
    obtain ⟨Ao, co, eo⟩ := Kd.R_slice HO.out
    subst eo
    go_wp2_with (first | (go_at_call 74; (with_reducible refine (HP.out j HJ.out _ ?s1).mono ?_); (case s1 => exact HB.out); rintro e w' ⟨rfl, ⟨nd, rfl⟩⟩) | (go_at_call 72; (with_reducible refine (values_of.calls Ao co vals (rd ls (j : Int)) b _ ?s1 ?s2 HX.out).mono ?_); (case s1 => exact (Kd.R_reads' (Kd.R_drewN HO.out _)).2.2); (case s2 => exact (Kd.R_reads' HO.out).2.1); rintro e w' ⟨rfl, ⟨nd2, rfl⟩⟩) | (at_builtin; go_loud (refine Kd.R_append Kd.bool (w0 := w) w.heap.size rfl (.tmp 30) (.tmp 36) 27 4 (.bool false) 1 rfl hu27 infoB rfl (by decide) (by omega) u14 acc b [.bool b] (fun k_ => some k_ ≠ (.slice Ao vals.length co : Value).ownBlock) (fun _ => False) rfl rfl rfl (fun _ hk => hk.elim) ?aF ?aO ?aB ?aS ?aL ?_; (case aB => exact (wl_ HB.out)); (case aF => exact (fun k_ hk => Kd.fresh' (Kd.R_lt (rl_ HO.out)) k_ hk)); (case aO => exact (rl_ HA.out)); (case aS => exact below_size (wl_ HB.out)); (case aL => have := HI.out.2.2; have := HJ.out; have := HLS.out; omega); intro v2 w14 ho hb hg hat; have n0_ := M_ (Kd.R_after (ok := (fun _ => True)) (rl_ (Kd.R_mono HO.out (fun _ hk => ⟨trivial, hk⟩))) hg hat); have n1_ := M_ hb; have n2_ := M_ ho; clear HO HB HA ho hb hg hat; have HO := n0_; have HB := n1_; have HA := n2_; clear n0_ n1_ n2_)))
    go_roundg (gk - 1)
    case measure => have := HI.out; omega
    case rel => exact ⟨j + 1, acc ++ [b], re, by rw [WJ.out], ⟨HJ.out, by have := HI.out; omega, by rw [List.length_append, HI.out.2.2]; rfl⟩, ⟨HR.out, by rw [List.append_assoc]; exact HACC.out⟩, ⟨by repeat (first | (with_reducible first | exact HB.out | apply b0_ | apply b1_ | apply b2_) | exact HB.out)⟩, ⟨by (with_reducible repeat (first | apply a0_ | apply a1_ | apply a2_)); exact Kd.R_mono HO.out (fun _ hk => hk.2)⟩, ⟨by (with_reducible repeat (first | apply a0_ | apply a1_ | apply a2_)); exact HA.out⟩⟩
   ·have cb : decide (j < ls.length) = false := decide_eq_false c
    have hj : j = ls.length := by have := HI.out.1; omega
    have hv := HV2.out
    rw [hj, List.drop_length] at hv
    obtain ⟨hv, hacc⟩ := hv
    obtain rfl := Option.some.inj hv
    rw [List.append_nil] at hacc
    subst hacc
    clear hj
    go_wp2
    go_ret2
    exact ⟨_, rfl, Kd.R_mono HA.out (fun _ _ => trivial), HB.out⟩
 ·rw [if_neg c] at h
  simp only [Option.some.injEq, Prod.mk.injEq] at h
  obtain ⟨rfl, rfl⟩ := h
  have b : (e0 != 0) = true := bne_iff_ne.mpr c
  clear c
  go_enter Try.func42, Try.ntmps42
  go_wp2_with (go_at_call 35; (with_reducible refine (values_All.calls a0_0 _ _ l0_1 _ _ l0_2 _ _ l0_3 _ _ l0_4 _ _ l1 _ _ l2 vals _ _ ?s1 ?s2 ?s3 ?s4 ?s5 ?s6 ?s7 ?s8 ?s9 ?s10 ?s11 ?s12 HE.out).mono ?_); (case s1 => exact Kd.C_below HR0_1.out (below_alloc (Below.refl _ _) _)); (case s2 => exact HC0_1.out); (case s3 => exact Kd.C_below HR0_2.out (below_alloc (Below.refl _ _) _)); (case s4 => exact HC0_2.out); (case s5 => exact Kd.C_below HR0_3.out (below_alloc (Below.refl _ _) _)); (case s6 => exact HC0_3.out); (case s7 => exact Kd.C_below HR0_4.out (below_alloc (Below.refl _ _) _)); (case s8 => exact HC0_4.out); (case s9 => exact Kd.C_below HR1.out (below_alloc (Below.refl _ _) _)); (case s10 => exact HC1.out); (case s11 => exact Kd.C_below HR2.out (below_alloc (Below.refl _ _) _)); (case s12 => exact HC2.out); rintro e w1 ⟨v0, rfl, ho, hb⟩; have HO := M_ (Kd.R_lower (base' := w.heap.size) ho (by simp)); have HB := M_ (below_step (below_alloc (Below.refl _ _) _) hb); clear hb ho)
  go_ret2
  exact ⟨_, rfl, Kd.R_nil _ _ _ _ _, HB.out⟩

theorem listV_len (vals : List Bool) : ∀ (ls : List Int) (r : List Bool), listV vals ls = some r → r.length = ls.length
 | [], r, h => by simp [listV] at h; subst h; rfl
 | x :: l, r, h => by
  simp only [listV] at h
  obtain ⟨b, _, h⟩ := Option.bind_eq_some_iff.mp h
  obtain ⟨re, hr, h⟩ := Option.bind_eq_some_iff.mp h
  obtain rfl := Option.some.inj h
  simp [listV_len vals l re hr]
theorem index_l0 (l : List Bool) (hl : l.length ≤ 1000000) (d : Nat) : ∀ (k j : Nat), j + d = l.length → d < k →
  ∃ r, slices_Index_bool_bool.l0 k l false (l.length : Int) (j : Int) = some r ∧ decide (r ≥ 0) = (l.drop j).any (fun x => !x) := by
 induction d with
 | zero =>
  intro k j hj hk
  obtain ⟨k, rfl⟩ : ∃ m, k = m + 1 := ⟨k - 1, by omega⟩
  simp only [slices_Index_bool_bool.l0]
  rw [if_neg (by omega), List.drop_of_length_le (by omega)]
  exact ⟨-1, rfl, rfl⟩
 | succ d ih =>
  intro k j hj hk
  obtain ⟨k, rfl⟩ : ∃ m, k = m + 1 := ⟨k - 1, by omega⟩
  have h1 : j < l.length := by omega
  have ra : rdOf false l (j : Int) = l[j] := by simp [rdOf, List.getD, h1]
  have wj : wrap64 ((j : Int) + 1) = ((j + 1 : Nat) : Int) := by unfold wrap64; omega
  simp only [slices_Index_bool_bool.l0]
  rw [if_pos (by omega), if_pos (by omega), if_pos (by omega), ra, List.drop_eq_getElem_cons h1, List.any_cons, wj]
  cases c : l[j] with
  | false => exact ⟨(j : Int), by simp, by simp⟩
  | true =>
   obtain ⟨r, hr, he⟩ := ih k (j + 1) (by omega) (by omega)
   exact ⟨r, by simpa using hr, by simpa using he⟩
theorem contains_eq (l : List Bool) (hl : l.length ≤ 1000000) : slices_Contains_bool_bool.f (l.length + 1) l false = some (l.any (fun x => !x)) := by
 unfold slices_Contains_bool_bool.f slices_Index_bool_bool.f
 obtain ⟨r, hr, he⟩ := index_l0 l hl l.length (l.length + 1) 0 (by omega) (by omega)
 rw [show (0 : Int) = ((0 : Nat) : Int) from rfl, hr]
 simp only [Option.bind_some]
 rw [show decide (r ≥ ((0 : Nat) : Int)) = decide (r ≥ 0) from rfl, he]
 rfl
def values_Props.f (a0_0 : Int) (l0_1 : List S36) (l0_2 : List S69) (l0_3 : List Int) (l0_4 : List Int) (l1 l2 : List Bool) : Option (Bool × List Bool × Int) :=
 if l0_3.length ≤ 1000000 ∧ l0_4.length ≤ 1000000 then (listF a0_0 l0_1 l0_2 l0_3 l0_4 l1 l2 l0_3).bind fun p => if p.2 = 0 then (listF a0_0 l0_1 l0_2 l0_3 l0_4 l1 l2 l0_4).bind fun q => some (!(q.1.any (fun x => !x)), p.1, q.2) else some (false, [], p.2) else none
theorem listF_len {a0_0 : Int} {l0_1 : List S36} {l0_2 : List S69} {l0_3 : List Int} {l0_4 : List Int} {l1 l2 : List Bool} {ls : List Int} {r : List Bool} {e : Int} (h : listF a0_0 l0_1 l0_2 l0_3 l0_4 l1 l2 ls = some (r, e)) : r.length ≤ ls.length := by
 unfold listF at h
 obtain ⟨⟨vals, e0⟩, _, h⟩ := Option.bind_eq_some_iff.mp h
 simp only at h
 by_cases c : e0 = 0
 ·rw [if_pos c] at h
  obtain ⟨rr, hv, h⟩ := Option.bind_eq_some_iff.mp h
  simp only [Option.some.injEq, Prod.mk.injEq] at h
  rw [← h.1, listV_len _ _ _ hv]; omega
 ·rw [if_neg c] at h
  simp only [Option.some.injEq, Prod.mk.injEq] at h
  rw [← h.1]; simp
set_option maxHeartbeats 2000000 in
set_option maxRecDepth 100000 in
theorem values_Props.calls (a0_0 : Int) (A0_1 : Option Addr) (c0_1 : Nat) (l0_1 : List S36) (A0_2 : Option Addr) (c0_2 : Nat) (l0_2 : List S69) (A0_3 : Option Addr) (c0_3 : Nat) (l0_3 : List Int) (A0_4 : Option Addr) (c0_4 : Nat) (l0_4 : List Int) (A1 : Option Addr) (c1 : Nat) (l1 : List Bool) (A2 : Option Addr) (c2 : Nat) (l2 : List Bool) (r1 : Bool) (r2 : List Bool) (r3 : Int) (w : World) (hr0_1 : Kd.C k36 w A0_1 l0_1.length l0_1) (hc0_1 : l0_1.length ≤ c0_1) (hr0_2 : Kd.C k69 w A0_2 l0_2.length l0_2) (hc0_2 : l0_2.length ≤ c0_2) (hr0_3 : Kd.C (Kd.int .i64) w A0_3 l0_3.length l0_3) (hc0_3 : l0_3.length ≤ c0_3) (hr0_4 : Kd.C (Kd.int .i64) w A0_4 l0_4.length l0_4) (hc0_4 : l0_4.length ≤ c0_4) (hr1 : Kd.C Kd.bool w A1 l1.length l1) (hc1 : l1.length ≤ c1) (hr2 : Kd.C Kd.bool w A2 l2.length l2) (hc2 : l2.length ≤ c2) (h : values_Props.f a0_0 l0_1 l0_2 l0_3 l0_4 l1 l2 = some (r1, r2, r3)) :
  Calls Try.prog 37 #[.agg #[.int .i64 a0_0, .slice A0_1 l0_1.length c0_1, .slice A0_2 l0_2.length c0_2, .slice A0_3 l0_3.length c0_3, .slice A0_4 l0_4.length c0_4], .slice A1 l1.length c1, .slice A2 l2.length c2] w fun e w' => ∃ v0_ : Value, e = .returned (.tuple #[.bool r1, v0_, .int .i64 r3]) ∧ Kd.R Kd.bool 4 w' w.heap.size (fun _ => True) v0_ r2 ∧ Below w.heap.size w w' := by
 have hu26 := Try.underlying26
 have hu27 := Try.underlying27
 have hu4 := Try.underlying4
 have HR0_1 := M_ hr0_1
 have HR0_2 := M_ hr0_2
 have HR0_3 := M_ hr0_3
 have HR0_4 := M_ hr0_4
 have HC0_1 := M_ hc0_1
 have HC0_2 := M_ hc0_2
 have HC0_3 := M_ hc0_3
 have HC0_4 := M_ hc0_4
 have HR1 := M_ hr1
 have HR2 := M_ hr2
 have HC1 := M_ hc1
 have HC2 := M_ hc2
 clear hr0_1 hr0_2 hr0_3 hr0_4 hc0_1 hc0_2 hc0_3 hc0_4 hr1 hr2 hc1 hc2
 unfold values_Props.f at h
 by_cases c : l0_3.length ≤ 1000000 ∧ l0_4.length ≤ 1000000
 ·rw [if_pos c] at h
  have HL3 := M_ c.1
  have HL4 := M_ c.2
  clear c
  obtain ⟨⟨bv, e1⟩, he, h⟩ := Option.bind_eq_some_iff.mp h
  have HE := M_ he
  clear he
  have k0 := blk_cell (blk_new w (.cells #[.int .i64 a0_0, .slice A0_1 l0_1.length c0_1, .slice A0_2 l0_2.length c0_2, .slice A0_3 l0_3.length c0_3, .slice A0_4 l0_4.length c0_4] 26)) 0
  have k3 := blk_cell (blk_new w (.cells #[.int .i64 a0_0, .slice A0_1 l0_1.length c0_1, .slice A0_2 l0_2.length c0_2, .slice A0_3 l0_3.length c0_3, .slice A0_4 l0_4.length c0_4] 26)) 3
  simp only [List.getElem?_toArray, List.getElem?_cons_succ, List.getElem?_cons_zero] at k0 k3
  simp only at h
  by_cases c : e1 = 0
  ·rw [if_pos c] at h
   subst c
   obtain ⟨⟨hv, e2⟩, he, h⟩ := Option.bind_eq_some_iff.mp h
   have HE2 := M_ he
   have HLV : Aside0 (hv.length ≤ 1000000) := ⟨by have := listF_len he; have := HL4.out; omega⟩
   clear he
   simp only [Option.some.injEq, Prod.mk.injEq] at h
   obtain ⟨rfl, rfl, rfl⟩ := h
   go_enter Try.func37, Try.ntmps37
   go_wp2_with (first | (go_at_call 42; (with_reducible refine (list_calls_bads w.heap.size a0_0 _ _ l0_1 _ _ l0_2 _ _ l0_3 _ _ l0_4 _ _ l1 _ _ l2 l0_3 bv _ _ ?s1 ?s2 ?s3 ?s4 ?s5 ?s6 ?s7 ?s8 ?s9 ?s10 ?s11 ?s12 ?s13 ?s14 HE.out).mono ?_); (case s1 => exact Kd.C_below HR0_1.out (below_alloc (Below.refl _ _) _)); (case s2 => exact HC0_1.out); (case s3 => exact Kd.C_below HR0_2.out (below_alloc (Below.refl _ _) _)); (case s4 => exact HC0_2.out); (case s5 => exact Kd.C_below HR0_3.out (below_alloc (Below.refl _ _) _)); (case s6 => exact HC0_3.out); (case s7 => exact Kd.C_below HR0_4.out (below_alloc (Below.refl _ _) _)); (case s8 => exact HC0_4.out); (case s9 => exact Kd.C_below HR1.out (below_alloc (Below.refl _ _) _)); (case s10 => exact HC1.out); (case s11 => exact Kd.C_below HR2.out (below_alloc (Below.refl _ _) _)); (case s12 => exact HC2.out); (case s13 => exact HL3.out); (case s14 => intro i hi W hW; exact bads1_calls w.heap.size i a0_0 A0_1 c0_1 l0_1 A0_2 c0_2 l0_2 A0_3 c0_3 l0_3 A0_4 c0_4 l0_4 W (blk_below (blk_new w (.cells #[.int .i64 a0_0, .slice A0_1 l0_1.length c0_1, .slice A0_2 l0_2.length c0_2, .slice A0_3 l0_3.length c0_3, .slice A0_4 l0_4.length c0_4] 26)) hW) (Kd.C_below HR0_3.out (below_step (below_alloc (Below.refl _ _) _) hW)) hi); rintro e w1 ⟨v0, rfl, ho, hb⟩; have HO := M_ (Kd.R_lower (base' := w.heap.size) ho (by simp)); have HB := M_ (below_step (below_alloc (Below.refl _ _) _) hb); have BK := M_ (blk_below (blk_new w (.cells #[.int .i64 a0_0, .slice A0_1 l0_1.length c0_1, .slice A0_2 l0_2.length c0_2, .slice A0_3 l0_3.length c0_3, .slice A0_4 l0_4.length c0_4] 26)) hb); have m0 := blk_cell BK.out 0; have m1 := blk_cell BK.out 1; have m2 := blk_cell BK.out 2; have m3 := blk_cell BK.out 3; have m4 := blk_cell BK.out 4; simp only [List.getElem?_toArray, List.getElem?_cons_succ, List.getElem?_cons_zero] at m0 m1 m2 m3 m4; clear hb ho) | (go_at_call 42; (with_reducible refine (list_calls_cons w.heap.size a0_0 _ _ l0_1 _ _ l0_2 _ _ l0_3 _ _ l0_4 _ _ l1 _ _ l2 l0_4 hv _ _ ?s1 ?s2 ?s3 ?s4 ?s5 ?s6 ?s7 ?s8 ?s9 ?s10 ?s11 ?s12 ?s13 ?s14 HE2.out).mono ?_); (case s1 => exact Kd.C_below HR0_1.out HB.out); (case s2 => exact HC0_1.out); (case s3 => exact Kd.C_below HR0_2.out HB.out); (case s4 => exact HC0_2.out); (case s5 => exact Kd.C_below HR0_3.out HB.out); (case s6 => exact HC0_3.out); (case s7 => exact Kd.C_below HR0_4.out HB.out); (case s8 => exact HC0_4.out); (case s9 => exact Kd.C_below HR1.out HB.out); (case s10 => exact HC1.out); (case s11 => exact Kd.C_below HR2.out HB.out); (case s12 => exact HC2.out); (case s13 => exact HL4.out); (case s14 => intro i hi W hW; exact cons1_calls w.heap.size i a0_0 A0_1 c0_1 l0_1 A0_2 c0_2 l0_2 A0_3 c0_3 l0_3 A0_4 c0_4 l0_4 W (blk_below BK.out hW) (Kd.C_below HR0_4.out (below_step HB.out hW)) hi); rintro e w2 ⟨v1, rfl, ho, hb⟩; have HO2 := M_ (Kd.R_lower (base' := w.heap.size) ho HB.out.size); have HO1 := M_ (Kd.R_below HO.out hb); have HB2 := M_ (below_step HB.out hb); obtain ⟨Ao, co, rfl, hl2, hr2⟩ := Kd.R_reads HO2.out; have HRD := M_ hr2; have HCL := M_ hl2; clear hb ho hl2 hr2) | (go_at_call 75; (with_reducible refine (slices_Contains_bool_bool.calls _ Ao co hv false _ _ ?t1 HCL.out (contains_eq hv HLV.out)).mono ?_); (case t1 => exact HRD.out); rintro e w3 ⟨rfl, ⟨nd, rfl⟩⟩))
   go_ret3
   exact ⟨_, rfl, Kd.R_drewN HO1.out _, pw_below_drewN HB2.out _⟩
  ·rw [if_neg c] at h
   simp only [Option.some.injEq, Prod.mk.injEq] at h
   obtain ⟨rfl, rfl, rfl⟩ := h
   have b : (e1 != 0) = true := bne_iff_ne.mpr c
   clear c
   go_enter Try.func37, Try.ntmps37
   go_wp2_with (go_at_call 42; (with_reducible refine (list_calls_bads w.heap.size a0_0 _ _ l0_1 _ _ l0_2 _ _ l0_3 _ _ l0_4 _ _ l1 _ _ l2 l0_3 bv _ _ ?s1 ?s2 ?s3 ?s4 ?s5 ?s6 ?s7 ?s8 ?s9 ?s10 ?s11 ?s12 ?s13 ?s14 HE.out).mono ?_); (case s1 => exact Kd.C_below HR0_1.out (below_alloc (Below.refl _ _) _)); (case s2 => exact HC0_1.out); (case s3 => exact Kd.C_below HR0_2.out (below_alloc (Below.refl _ _) _)); (case s4 => exact HC0_2.out); (case s5 => exact Kd.C_below HR0_3.out (below_alloc (Below.refl _ _) _)); (case s6 => exact HC0_3.out); (case s7 => exact Kd.C_below HR0_4.out (below_alloc (Below.refl _ _) _)); (case s8 => exact HC0_4.out); (case s9 => exact Kd.C_below HR1.out (below_alloc (Below.refl _ _) _)); (case s10 => exact HC1.out); (case s11 => exact Kd.C_below HR2.out (below_alloc (Below.refl _ _) _)); (case s12 => exact HC2.out); (case s13 => exact HL3.out); (case s14 => intro i hi W hW; exact bads1_calls w.heap.size i a0_0 A0_1 c0_1 l0_1 A0_2 c0_2 l0_2 A0_3 c0_3 l0_3 A0_4 c0_4 l0_4 W (blk_below (blk_new w (.cells #[.int .i64 a0_0, .slice A0_1 l0_1.length c0_1, .slice A0_2 l0_2.length c0_2, .slice A0_3 l0_3.length c0_3, .slice A0_4 l0_4.length c0_4] 26)) hW) (Kd.C_below HR0_3.out (below_step (below_alloc (Below.refl _ _) _) hW)) hi); rintro e w1 ⟨v0, rfl, ho, hb⟩; have HO := M_ (Kd.R_lower (base' := w.heap.size) ho (by simp)); have HB := M_ (below_step (below_alloc (Below.refl _ _) _) hb); have BK := M_ (blk_below (blk_new w (.cells #[.int .i64 a0_0, .slice A0_1 l0_1.length c0_1, .slice A0_2 l0_2.length c0_2, .slice A0_3 l0_3.length c0_3, .slice A0_4 l0_4.length c0_4] 26)) hb); have m0 := blk_cell BK.out 0; have m1 := blk_cell BK.out 1; have m2 := blk_cell BK.out 2; have m3 := blk_cell BK.out 3; have m4 := blk_cell BK.out 4; simp only [List.getElem?_toArray, List.getElem?_cons_succ, List.getElem?_cons_zero] at m0 m1 m2 m3 m4; clear hb ho)
   go_ret3
   exact ⟨_, rfl, Kd.R_nil _ _ _ _ _, HB.out⟩
 ·rw [if_neg c] at h
  exact absurd h (by simp)

def spiritlevelref04_Same.l0 : Nat → List Bool → List Bool → Int → Option (Bool)
 | 0, _, _, _ => none
 | k + 1, x0, x1, x5 => if x5 < (x0.length : Int) then (if 0 ≤ x5 then (if x5 < (x1.length : Int) then (if ((rdOf false x0 x5) != (rdOf false x1 x5)) = true then (some false) else (spiritlevelref04_Same.l0 k x0 x1 (wrap64 (x5 + 1)))) else (none)) else (none)) else (some true)
def spiritlevelref04_Same.f (k : Nat) (l0 : List Bool) (l1 : List Bool) : Option (Bool) := if (l0.length : Int) = (l1.length : Int) then (spiritlevelref04_Same.l0 k l0 l1 0) else (some false)
set_option maxHeartbeats 8000000 in
set_option maxRecDepth 100000 in
theorem spiritlevelref04_Same.calls (k : Nat) (A0 : Option Addr) (c0 : Nat) (l0 : List Bool) (A1 : Option Addr) (c1 : Nat) (l1 : List Bool) (r : Bool) (w : World) (hr0 : Kd.C Kd.bool w A0 l0.length l0) (hc0 : l0.length ≤ c0) (hr1 : Kd.C Kd.bool w A1 l1.length l1) (hc1 : l1.length ≤ c1) (h : spiritlevelref04_Same.f k l0 l1 = some r) :
  Calls Try.prog 38 #[.slice A0 l0.length c0, .slice A1 l1.length c1] w fun e w' => e = .returned (.bool r) ∧ Drawn0 w w' := by
 have HR0 := M_ hr0
 have HC0 := M_ hc0
 clear hr0 hc0
 have HR1 := M_ hr1
 have HC1 := M_ hc1
 clear hr1 hc1
 have H : (if (l0.length : Int) = (l1.length : Int) then (spiritlevelref04_Same.l0 k l0 l1 0) else (some false)) = some r := h
 clear h
 by_cases c3 : (l0.length : Int) = (l1.length : Int)
 ·rw [if_pos c3] at H
  have c3b0 : ((l0.length : Int) == (l1.length : Int)) = true := beq_iff_eq.mpr c3
  have c3b1 : ((l0.length : Int) != (l1.length : Int)) = false := bne_eq_false_iff_eq.mpr c3
  have c3b2 : (l0.length == l1.length) = true := by first | simpa using c3 | (simp at c3 ⊢; omega)
  clear c3
  have H' := M_ H
  clear H
  go_enter Try.func38, Try.ntmps38
  go_wp2
  repeat (go_quiet (fail); try go_wp2)
  go_loopg [5] k (fun kq v5 w' => ∃ (x5_1 : Int), v5 = .int .i64 x5_1 ∧ Aside0 (spiritlevelref04_Same.l0 kq l0 l1 x5_1 = some r) ∧ Aside0 (kq ≤ k) ∧ Drawn0 w w')
  case atStart => exact ⟨(0), (by first | rfl | (simp; done) | (simp [*]; done)), H', ⟨Nat.le_refl _⟩, by repeat (first | exact Drawn0.refl _ | apply Drawn0.step)⟩
  case round =>
   clear H'
   try clear c1; try clear p2; try clear c3; try clear c3b0; try clear c3b1; try clear c3b2
   obtain ⟨x5_1, rfl, HA, HK1, ⟨m1, rfl⟩⟩ := hrel
   cases gk with
   | zero => exact absurd HA.out (by simp [spiritlevelref04_Same.l0])
   | succ k1 =>
    have H := HA.out
    clear HA
    simp only [spiritlevelref04_Same.l0] at H
    by_cases c4 : x5_1 < (l0.length : Int)
    ·rw [if_pos c4] at H
     have c4b0 : decide (x5_1 < (l0.length : Int)) = true := decide_eq_true c4
     clear c4
     by_cases c5 : 0 ≤ x5_1
     ·rw [if_pos c5] at H
      have c5b0 : decide (0 ≤ x5_1) = true := decide_eq_true c5
      clear c5
      by_cases c6 : x5_1 < (l1.length : Int)
      ·rw [if_pos c6] at H
       have c6b0 : decide (x5_1 < (l1.length : Int)) = true := decide_eq_true c6
       clear c6
       by_cases c7 : ((rdOf false l0 x5_1) != (rdOf false l1 x5_1)) = true
       ·rw [if_pos c7] at H
        have c7b0 : ((rdOf false l0 x5_1) != (rdOf false l1 x5_1)) = true := c7
        (try (have c7b1 : decide ((rdOf false l0 x5_1) = (rdOf false l1 x5_1)) = false := by simpa using c7))
        (try (have c7b2 : ((rdOf false l0 x5_1) == (rdOf false l1 x5_1)) = false := by simpa using c7))
        (try (have c7b3 : ¬ ((rdOf false l0 x5_1) = (rdOf false l1 x5_1)) := by simpa using c7))
        clear c7
        obtain rfl := Option.some.inj H
        have p343 : 0 ≤ (x5_1 : Int) := of_decide_eq_true (by first | (with_reducible assumption) | assumption)
        have q343 : x5_1 < (l0.length : Int) := of_decide_eq_true (by first | (with_reducible assumption) | assumption)
        obtain ⟨ad343, e343, hx343_0⟩ := Kd.at_bool HR0.out x5_1 p343 q343
        cases e343
        replace p343 := eq_true p343
        replace q343 := eq_true q343
        have p344 : 0 ≤ (x5_1 : Int) := of_decide_eq_true (by first | (with_reducible assumption) | assumption)
        have q344 : x5_1 < (l1.length : Int) := of_decide_eq_true (by first | (with_reducible assumption) | assumption)
        obtain ⟨ad344, e344, hx344_0⟩ := Kd.at_bool HR1.out x5_1 p344 q344
        cases e344
        replace p344 := eq_true p344
        replace q344 := eq_true q344
        go_wp2
        repeat (go_quiet (fail); try go_wp2)
        go_ret
        exact ⟨by first | rfl | (simp; done) | (simp [*]; done), by repeat (first | exact Drawn0.refl _ | apply Drawn0.step)⟩
       ·rw [if_neg c7] at H
        have c7b0 : ((rdOf false l0 x5_1) != (rdOf false l1 x5_1)) = false := by simpa using c7
        (try (have c7b1 : decide ((rdOf false l0 x5_1) = (rdOf false l1 x5_1)) = true := by simpa using c7))
        (try (have c7b2 : ((rdOf false l0 x5_1) == (rdOf false l1 x5_1)) = true := by simpa using c7))
        clear c7
        have H' := M_ H
        clear H
        have p343 : 0 ≤ (x5_1 : Int) := of_decide_eq_true (by first | (with_reducible assumption) | assumption)
        have q343 : x5_1 < (l0.length : Int) := of_decide_eq_true (by first | (with_reducible assumption) | assumption)
        obtain ⟨ad343, e343, hx343_0⟩ := Kd.at_bool HR0.out x5_1 p343 q343
        cases e343
        replace p343 := eq_true p343
        replace q343 := eq_true q343
        have p344 : 0 ≤ (x5_1 : Int) := of_decide_eq_true (by first | (with_reducible assumption) | assumption)
        have q344 : x5_1 < (l1.length : Int) := of_decide_eq_true (by first | (with_reducible assumption) | assumption)
        obtain ⟨ad344, e344, hx344_0⟩ := Kd.at_bool HR1.out x5_1 p344 q344
        cases e344
        replace p344 := eq_true p344
        replace q344 := eq_true q344
        go_wp2
        repeat (go_quiet (fail); try go_wp2)
        go_roundg k1
        case measure => have := HK1.out; omega
        case rel => exact ⟨(wrap64 (x5_1 + 1)), (by first | rfl | (simp; done) | (simp [*]; done)), H', ⟨by have := HK1.out; omega⟩, by repeat (first | exact Drawn0.refl _ | apply Drawn0.step)⟩
      ·rw [if_neg c6] at H
       exact absurd H (by simp)
     ·rw [if_neg c5] at H
      exact absurd H (by simp)
    ·rw [if_neg c4] at H
     have c4b0 : decide (x5_1 < (l0.length : Int)) = false := decide_eq_false c4
     clear c4
     obtain rfl := Option.some.inj H
     go_wp2
     repeat (go_quiet (fail); try go_wp2)
     go_ret
     exact ⟨by first | rfl | (simp; done) | (simp [*]; done), by repeat (first | exact Drawn0.refl _ | apply Drawn0.step)⟩
 ·rw [if_neg c3] at H
  have c3b0 : ((l0.length : Int) == (l1.length : Int)) = false := beq_eq_false_iff_ne.mpr c3
  have c3b1 : ((l0.length : Int) != (l1.length : Int)) = true := bne_iff_ne.mpr c3
  have c3b2 : (l0.length == l1.length) = false := by first | simpa using c3 | (simp at c3 ⊢; omega)
  obtain rfl := Option.some.inj H
  go_enter Try.func38, Try.ntmps38
  go_wp2
  repeat (go_quiet (fail); try go_wp2)
  go_ret
  exact ⟨by first | rfl | (simp; done) | (simp [*]; done), by repeat (first | exact Drawn0.refl _ | apply Drawn0.step)⟩

end Go.Proofs.Ytmcdanpecajklaa.QTernsimValues
