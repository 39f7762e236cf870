-- Made by wip/myprint.sh (a patched print): a text of this session's own.
import Derived.Test.YtmcdanpecajklaaLay
import Derived.Test.YtmcdanpecajklaaQTernsimValuesx0
namespace Go.Proofs.Ytmcdanpecajklaa.QTernsimValues
open Go.RowKit Go.Proofs.YtmcdanpecajklaaW.PrintWords Go.Proofs.YtmcdanpecajklaaW.PrintLast Go.Proofs.YtmcdanpecajklaaW.PrintMore
attribute [local go_sem] max2_int min2_int max_two min_two max_three min_three max_four min_four
set_option linter.unusedVariables false
set_option linter.unusedSimpArgs false

def st1 (a : Int) : Int := wrap64 (1 + a)
def st2 (a : Int) (m : Nat) : Int := wrap64 (st1 a + m)
def st3 (a : Int) (m n : Nat) : Int := wrap64 (st2 a m + n)
set_option maxHeartbeats 1000000 in
set_option maxRecDepth 100000 in
theorem starts_calls (a0 : Int) (A1 : Option Addr) (n1 c1 : Nat) (A2 : Option Addr) (n2 c2 : Nat) (A3 : Option Addr) (n3 c3 : Nat) (A4 : Option Addr) (n4 c4 : Nat) (w : World) :
  Calls Try.prog 83 #[.agg #[.int .i64 a0, .slice A1 n1 c1, .slice A2 n2 c2, .slice A3 n3 c3, .slice A4 n4 c4]] w fun e w' => e = .returned (.agg #[.int .i64 1, .int .i64 (st1 a0), .int .i64 (st2 a0 n1), .int .i64 (st3 a0 n1 n2)]) ∧ Below w.heap.size w w' := by
 go_enter Try.func83, Try.ntmps83
 go_wp2
 exact bodyPost_ret (v := .agg #[.int .i64 1, .int .i64 (wrap64 (1 + a0)), .int .i64 (wrap64 (wrap64 (1 + a0) + n1)), .int .i64 (wrap64 (wrap64 (wrap64 (1 + a0) + n1) + n2))]) (by simp [results, Try.results83, go_sem]) rfl ⟨rfl, below_alloc (below_alloc (Below.refl _ _) _) _⟩
def outS (s3 l : Int) : Bool := decide (l < 0) || decide (s3 ≤ l / 2)
set_option maxHeartbeats 1000000 in
set_option maxRecDepth 100000 in
theorem outside_calls (x s3 : Int) (B : Nat) (w : World) (h3 : w.cell? ⟨B, 3, none⟩ = some (.int .i64 s3)) :
  Calls Try.prog 90 #[.int .i64 x, .pointer (some ⟨B, 0, none⟩)] w fun e w' => e = .returned (.bool (outS s3 x)) ∧ Drawn0 w w' := by
 unfold outS
 by_cases h : x < 0
 ·have hb : decide (x < 0) = true := by simp [h]
  go_enter Try.func90, Try.ntmps90
  go_wp2
  go_ret
  exact ⟨by simp [h], Drawn0.refl _⟩
 ·have hb : decide (x < 0) = false := by simp [h]
  have h0 : 0 ≤ x := by omega
  go_enter Try.func90, Try.ntmps90
  go_wp2
  go_ret
  exact ⟨rfl, Drawn0.refl _⟩
def wrongS (s3 : Int) (x : S36) : Bool := outS s3 x.f0 || decide (x.f1 < 0) || decide (2 < x.f1)
set_option maxHeartbeats 1000000 in
set_option maxRecDepth 100000 in
theorem wrong_calls (x : S36) (s3 : Int) (B B2 : Nat) (w : World) (h3 : w.cell? ⟨B, 3, none⟩ = some (.int .i64 s3)) (h4 : w.cell? ⟨B2, 0, none⟩ = some (.func (.func 90) #[] #[.pointer (some ⟨B, 0, none⟩)])) (hB : B < w.heap.size) (hB2 : B2 < w.heap.size) :
  Calls Try.prog 91 #[.agg #[.int .i64 x.f0, .int .i64 x.f1], .pointer (some ⟨B2, 0, none⟩)] w fun e w' => e = .returned (.bool (wrongS s3 x)) ∧ Below w.heap.size w w' := by
 have hne : B ≠ w.heap.size := by omega
 have hne2 : B2 ≠ w.heap.size := by omega
 unfold wrongS
 generalize hx : outS s3 x.f0 = o
 have HX := M_ hx
 clear hx
 cases o with
 | true =>
  go_enter Try.func91, Try.ntmps91
  go_wp2_with (go_at_call 90; (with_reducible refine (outside_calls x.f0 s3 B _ ?c1).mono ?_); (case c1 => rw [World.cell?_alloc_lt _ _ _ hB]; exact h3); rw [HX.out]; rintro e w' ⟨rfl, ⟨nd, rfl⟩⟩)
  go_ret
  exact ⟨by simp, pw_below_drewN (below_alloc (Below.refl _ _) _) _⟩
 | false =>
  by_cases h : x.f1 < 0
  ·have hb : decide (x.f1 < 0) = true := by simp [h]
   go_enter Try.func91, Try.ntmps91
   go_wp2_with (go_at_call 90; (with_reducible refine (outside_calls x.f0 s3 B _ ?c1).mono ?_); (case c1 => rw [World.cell?_alloc_lt _ _ _ hB]; exact h3); rw [HX.out]; rintro e w' ⟨rfl, ⟨nd, rfl⟩⟩)
   go_ret
   exact ⟨by simp [h], pw_below_drewN (below_alloc (Below.refl _ _) _) _⟩
  ·have hb : decide (x.f1 < 0) = false := by simp [h]
   have h0 : 0 ≤ x.f1 := by omega
   go_enter Try.func91, Try.ntmps91
   go_wp2_with (go_at_call 90; (with_reducible refine (outside_calls x.f0 s3 B _ ?c1).mono ?_); (case c1 => rw [World.cell?_alloc_lt _ _ _ hB]; exact h3); rw [HX.out]; rintro e w' ⟨rfl, ⟨nd, rfl⟩⟩)
   go_ret
   exact ⟨by simp; omega, pw_below_drewN (below_alloc (Below.refl _ _) _) _⟩
def idxS {α : Type} (p : α → Bool) (l : List α) : Int := match l.findIdx? p with
 | some i => (i : Int)
 | none => -1
theorem idxS_any {α : Type} (p : α → Bool) (l : List α) : decide (0 ≤ idxS p l) = l.any p := by
 unfold idxS
 cases h : l.findIdx? p with
 | none =>
  rw [List.findIdx?_eq_none_iff] at h
  have : l.any p = false := List.any_eq_false.2 (fun x hx => by simp [h x hx])
  rw [this]; rfl
 | some i =>
  obtain ⟨hi, hp, _⟩ := List.findIdx?_eq_some_iff_getElem.1 h
  have : l.any p = true := List.any_eq_true.2 ⟨_, List.getElem_mem hi, hp⟩
  rw [this]; simp
theorem idxS_none {α : Type} (p : α → Bool) (l : List α) (h : l.any p = false) : idxS p l = -1 := by
 have := idxS_any p l
 rw [h] at this
 unfold idxS at this ⊢
 split
 ·rename_i i hi; rw [hi] at this; simp at this
 ·rfl
theorem idxS_some {α : Type} (p : α → Bool) (l : List α) (d : α) (i : Nat) (hi : i < l.length) (h : (l.take i).any p = false) (hp : p (l.getD i d) = true) : idxS p l = i := by
 have hd : l.getD i d = l[i] := by simp [List.getD, hi]
 have : l.findIdx? p = some i := by
  rw [List.findIdx?_eq_some_iff_getElem]
  refine ⟨hi, by rw [← hd]; exact hp, fun j hj => ?_⟩
  have := List.any_eq_false.1 h l[j] (List.mem_take_iff_getElem.2 ⟨j, by omega, rfl⟩)
  simpa using this
 unfold idxS
 rw [this]
theorem any_take_succ {α : Type} (p : α → Bool) (l : List α) (d : α) (i : Nat) (hi : i < l.length) (h : (l.take i).any p = false) (hp : p (l.getD i d) = false) : (l.take (i + 1)).any p = false := by
 have hd : l.getD i d = l[i] := by simp [List.getD, hi]
 have he : p l[i] = false := by rw [← hd]; exact hp
 rw [List.take_succ_eq_append_getElem hi, List.any_append, h]
 simp [he]
set_option maxHeartbeats 2000000 in
set_option maxRecDepth 100000 in
theorem indexInts_calls (A0 : Option Addr) (c0 : Nat) (l0 : List Int) (p : Int → Bool) (B : Nat) (w : World) (hr : Kd.C (Kd.int .i64) w A0 l0.length l0)
  (hp : ∀ (x : Int) (W : World), Drawn0 w W → Calls Try.prog 90 #[.int .i64 x, .pointer (some ⟨B, 0, none⟩)] W fun e w' => e = .returned (.bool (p x)) ∧ Drawn0 W w') :
  Calls Try.prog 113 #[.slice A0 l0.length c0, .func (.func 90) #[] #[.pointer (some ⟨B, 0, none⟩)]] w fun e w' => e = .returned (.int .i64 (idxS p l0)) ∧ Drawn0 w w' := by
 have HR := M_ hr
 have HP := M_ hp
 have HN := M_ hr.2.1
 clear hr hp
 go_enter Try.func113, Try.ntmps113
 go_wp2
 go_loopg [8] (l0.length + 1) (fun kq v8 w' => ∃ (i : Nat), v8 = .int .i64 (i : Int) ∧ Aside0 (i ≤ l0.length ∧ kq + i = l0.length + 1 ∧ (l0.take i).any p = false) ∧ Aside0 (Drawn0 w w'))
 case atStart => exact ⟨0, by simp, ⟨by omega, by omega, by simp⟩, ⟨Drawn0.refl _⟩⟩
 case round =>
  obtain ⟨i, rfl, HI, HD⟩ := hrel
  by_cases c : i < l0.length
  ·have cb : decide (i < l0.length) = true := decide_eq_true c
   have p0 : (0 : Int) ≤ (i : Int) := by omega
   have q0 : (i : Int) < (l0.length : Int) := by omega
   obtain ⟨⟨n1, rfl⟩⟩ := HD.out
   obtain ⟨ad, rfl, hx⟩ := Kd.at_int HR.out (i : Int) p0 q0
   have hx' : w.cell? (ad.add i) = some (.int .i64 (rd l0 i)) := hx
   clear hx
   have HL := HN.out
   generalize hv : p (rd l0 i) = b
   have HV := M_ hv
   clear hv
   cases b with
   | true =>
    go_wp2_with (go_at_call 90; (with_reducible refine (HP.out (rd l0 i) _ ?c1).mono ?_); (case c1 => exact ⟨⟨n1, rfl⟩⟩); rw [HV.out]; rintro e w' ⟨rfl, ⟨nd, rfl⟩⟩)
    go_ret
    exact ⟨by simp [idxS_some p l0 0 i c HI.out.2.2 HV.out], ⟨⟨_, rfl⟩⟩⟩
   | false =>
    go_wp2_with (go_at_call 90; (with_reducible refine (HP.out (rd l0 i) _ ?c1).mono ?_); (case c1 => exact ⟨⟨n1, rfl⟩⟩); rw [HV.out]; rintro e w' ⟨rfl, ⟨nd, rfl⟩⟩)
    go_roundg (gk - 1)
    case rel => exact ⟨i + 1, by go_num, ⟨by omega, by have := HI.out; omega, any_take_succ p l0 0 i c HI.out.2.2 HV.out⟩, ⟨⟨⟨_, rfl⟩⟩⟩⟩
    case measure => have := HI.out; omega
  ·have cb : decide (i < l0.length) = false := decide_eq_false c
   obtain ⟨⟨n1, rfl⟩⟩ := HD.out
   go_wp2
   go_ret
   have hz : (l0.take i).any p = false := HI.out.2.2
   rw [List.take_of_length_le (by omega)] at hz
   exact ⟨by simp [idxS_none p l0 hz], ⟨⟨_, rfl⟩⟩⟩
set_option maxHeartbeats 1000000 in
set_option maxRecDepth 100000 in
theorem containsInts_calls (A0 : Option Addr) (c0 : Nat) (l0 : List Int) (p : Int → Bool) (B : Nat) (w : World) (hr : Kd.C (Kd.int .i64) w A0 l0.length l0)
  (hp : ∀ (x : Int) (W : World), Drawn0 w W → Calls Try.prog 90 #[.int .i64 x, .pointer (some ⟨B, 0, none⟩)] W fun e w' => e = .returned (.bool (p x)) ∧ Drawn0 W w') :
  Calls Try.prog 92 #[.slice A0 l0.length c0, .func (.func 90) #[] #[.pointer (some ⟨B, 0, none⟩)]] w fun e w' => e = .returned (.bool (l0.any p)) ∧ Drawn0 w w' := by
 have HP := M_ hp
 have HR := M_ hr
 have HA := M_ (idxS_any p l0)
 clear hp hr
 go_enter Try.func92, Try.ntmps92
 go_wp2_with (go_at_call 113; (with_reducible refine (indexInts_calls A0 c0 l0 p B w HR.out HP.out).mono ?_); rintro e w' ⟨rfl, ⟨nd, rfl⟩⟩)
 go_ret
 exact ⟨by simp [HA.out], ⟨⟨_, rfl⟩⟩⟩
theorem at_T36n {w : World} {A : Option Addr} {n : Nat} {xs : List S36} (h : Kd.C k36 w A n xs) (i : Nat) (h1 : i < n) : ∃ ad, A = some ad ∧ w.cell? (ad.add (i * 2)) = some (.int .i64 (rd_T36 xs i).f0) ∧ w.cell? ⟨(ad.add (i * 2)).block, (ad.add (i * 2)).off + 1, none⟩ = some (.int .i64 (rd_T36 xs i).f1) := by
 obtain ⟨ad, e, hx, hy⟩ := at_T36 h (i : Int) (by omega) (by omega)
 exact ⟨ad, e, hx, hy⟩
set_option maxHeartbeats 2000000 in
set_option maxRecDepth 100000 in
theorem indexLatches_calls (A0 : Option Addr) (c0 : Nat) (l0 : List S36) (p : S36 → Bool) (B : Nat) (w : World) (hr : Kd.C k36 w A0 l0.length l0)
  (hp : ∀ (x : S36) (W : World), Below w.heap.size w W → Calls Try.prog 91 #[.agg #[.int .i64 x.f0, .int .i64 x.f1], .pointer (some ⟨B, 0, none⟩)] W fun e w' => e = .returned (.bool (p x)) ∧ Below W.heap.size W w') :
  Calls Try.prog 114 #[.slice A0 l0.length c0, .func (.func 91) #[] #[.pointer (some ⟨B, 0, none⟩)]] w fun e w' => e = .returned (.int .i64 (idxS p l0)) ∧ Below w.heap.size w w' := by
 have HR := M_ hr
 have HP := M_ hp
 have HN := M_ hr.2.1
 have hu36 := Try.underlying36
 clear hr hp
 go_enter Try.func114, Try.ntmps114
 go_wp2
 go_loopg [8] (l0.length + 1) (fun kq v8 w' => ∃ (i : Nat), v8 = .int .i64 (i : Int) ∧ Aside0 (i ≤ l0.length ∧ kq + i = l0.length + 1 ∧ (l0.take i).any p = false) ∧ Aside0 (Below w.heap.size w w'))
 case atStart => exact ⟨0, by simp, ⟨by omega, by omega, by simp⟩, ⟨Below.refl _ _⟩⟩
 case round =>
  obtain ⟨i, rfl, HI, HD⟩ := hrel
  by_cases c : i < l0.length
  ·have cb : decide (i < l0.length) = true := decide_eq_true c
   have p0 : (0 : Int) ≤ (i : Int) := by omega
   have q0 : (i : Int) < (l0.length : Int) := by omega
   obtain ⟨ad, rfl, hx, hy⟩ := at_T36n (Kd.C_below HR.out HD.out) i c
   have HL := HN.out
   generalize hv : p (rd_T36 l0 i) = b
   have HV := M_ hv
   clear hv
   cases b with
   | true =>
    go_wp2_with (go_at_call 91; (with_reducible refine (HP.out (rd_T36 l0 i) _ HD.out).mono ?_); rw [HV.out]; rintro e w' ⟨rfl, hb⟩)
    go_ret
    exact ⟨by simp [idxS_some p l0 z36 i c HI.out.2.2 HV.out], below_step HD.out hb⟩
   | false =>
    go_wp2_with (go_at_call 91; (with_reducible refine (HP.out (rd_T36 l0 i) _ HD.out).mono ?_); rw [HV.out]; rintro e w' ⟨rfl, hb⟩; have HB2 := M_ (below_step HD.out hb); clear hb)
    go_roundg (gk - 1)
    case rel => exact ⟨i + 1, by go_num, ⟨by omega, by have := HI.out; omega, any_take_succ p l0 z36 i c HI.out.2.2 HV.out⟩, HB2⟩
    case measure => have := HI.out; omega
  ·have cb : decide (i < l0.length) = false := decide_eq_false c
   go_wp2
   go_ret
   have hz : (l0.take i).any p = false := HI.out.2.2
   rw [List.take_of_length_le (by omega)] at hz
   exact ⟨by simp [idxS_none p l0 hz], HD.out⟩
set_option maxHeartbeats 1000000 in
set_option maxRecDepth 100000 in
theorem containsLatches_calls (A0 : Option Addr) (c0 : Nat) (l0 : List S36) (p : S36 → Bool) (B : Nat) (w : World) (hr : Kd.C k36 w A0 l0.length l0)
  (hp : ∀ (x : S36) (W : World), Below w.heap.size w W → Calls Try.prog 91 #[.agg #[.int .i64 x.f0, .int .i64 x.f1], .pointer (some ⟨B, 0, none⟩)] W fun e w' => e = .returned (.bool (p x)) ∧ Below W.heap.size W w') :
  Calls Try.prog 93 #[.slice A0 l0.length c0, .func (.func 91) #[] #[.pointer (some ⟨B, 0, none⟩)]] w fun e w' => e = .returned (.bool (l0.any p)) ∧ Below w.heap.size w w' := by
 have HP := M_ hp
 have HR := M_ hr
 have HA := M_ (idxS_any p l0)
 clear hp hr
 go_enter Try.func93, Try.ntmps93
 go_wp2_with (go_at_call 114; (with_reducible refine (indexLatches_calls A0 c0 l0 p B w HR.out HP.out).mono ?_); rintro e w' ⟨rfl, hb⟩)
 go_ret
 exact ⟨by simp [HA.out], hb⟩
theorem outP {W : World} {gs : Nat} {a b c : Value} {s3 : Int} (hs : W.heap[gs]? = some (.cells #[a, b, c, .int .i64 s3] 127 (0, 0))) (x : Int) (W' : World) (hd : Drawn0 W W') :
  Calls Try.prog 90 #[.int .i64 x, .pointer (some ⟨gs, 0, none⟩)] W' fun e w' => e = .returned (.bool (outS s3 x)) ∧ Drawn0 W' w' := by
 obtain ⟨⟨n, rfl⟩⟩ := hd
 exact outside_calls x s3 gs _ (blk_cell (blk_drewN hs n) 3)
theorem wrongP {W : World} {gs go : Nat} {a b c : Value} {s3 : Int} (hs : W.heap[gs]? = some (.cells #[a, b, c, .int .i64 s3] 127 (0, 0))) (ho : W.heap[go]? = some (.cells #[.func (.func 90) #[] #[.pointer (some ⟨gs, 0, none⟩)]] 107 (0, 0)))
  (x : S36) (W' : World) (hb : Below W.heap.size W W') :
  Calls Try.prog 91 #[.agg #[.int .i64 x.f0, .int .i64 x.f1], .pointer (some ⟨go, 0, none⟩)] W' fun e w' => e = .returned (.bool (wrongS s3 x)) ∧ Below W'.heap.size W' w' :=
 wrong_calls x s3 gs go W' (blk_cell (blk_below hs hb) 3) (blk_cell (blk_below ho hb) 0) (blk_lt (blk_below hs hb)) (blk_lt (blk_below ho hb))
theorem at_T69n {w : World} {A : Option Addr} {n : Nat} {xs : List S69} (h : Kd.C k69 w A n xs) (i : Nat) (h1 : i < n) : ∃ ad, A = some ad ∧ w.cell? (ad.add (i * 2)) = some (.int .i64 (rd_T69 xs i).f0) ∧ w.cell? ⟨(ad.add (i * 2)).block, (ad.add (i * 2)).off + 1, none⟩ = some (.int .i64 (rd_T69 xs i).f1) := by
 obtain ⟨ad, e, hx, hy⟩ := at_T69 h (i : Int) (by omega) (by omega)
 exact ⟨ad, e, hx, hy⟩
theorem arr3 (x0 x1 x2 x3 : Value) (w : World) : (Instr.index 127 (.agg #[x0, x1, x2, x3]) (.int .i64 3)).run Try.prog w = .ok x3 w := by kernel_rfl
def gateBad (s2 : Int) (i : Nat) (g : S69) : Bool := decide (g.f1 < 0) || decide (g.f0 < g.f1) || decide (wrap64 (2 * wrap64 (s2 + i)) ≤ g.f0)
def gatesBad (s2 : Int) (l : List S69) : Bool := (List.range l.length).any fun i => gateBad s2 i (rd_T69 l i)
def gates_Check.f (a0_0 : Int) (l0_1 : List S36) (l0_2 : List S69) (l0_3 : List Int) (l0_4 : List Int) : Option Int :=
 some (if a0_0 < 0 then 8 else if a0_0 > 1000 then 4 else if wrap64 (st3 a0_0 l0_1.length l0_2.length - 1) > 1000 then 4 else if (if (l0_3.length : Int) < (l0_4.length : Int) then (l0_4.length : Int) else (l0_3.length : Int)) > 100 then 4
  else if l0_3.any (outS (st3 a0_0 l0_1.length l0_2.length)) = true then 8 else if l0_4.any (outS (st3 a0_0 l0_1.length l0_2.length)) = true then 8 else if l0_1.any (wrongS (st3 a0_0 l0_1.length l0_2.length)) = true then 8
  else if gatesBad (st2 a0_0 l0_1.length) l0_2 = true then 8 else 0)
set_option maxHeartbeats 4000000 in
set_option maxRecDepth 100000 in
theorem gates_Check.calls (a0_0 : Int) (A0_1 : Option Addr) (c0_1 : Nat) (l0_1 : List S36) (A0_2 : Option Addr) (c0_2 : Nat) (l0_2 : List S69) (A0_3 : Option Addr) (c0_3 : Nat) (l0_3 : List Int) (A0_4 : Option Addr) (c0_4 : Nat) (l0_4 : List Int) (r : Int) (w : World) (hr0_1 : Kd.C k36 w A0_1 l0_1.length l0_1) (hc0_1 : l0_1.length ≤ c0_1) (hr0_2 : Kd.C k69 w A0_2 l0_2.length l0_2) (hc0_2 : l0_2.length ≤ c0_2) (hr0_3 : Kd.C (Kd.int .i64) w A0_3 l0_3.length l0_3) (hc0_3 : l0_3.length ≤ c0_3) (hr0_4 : Kd.C (Kd.int .i64) w A0_4 l0_4.length l0_4) (hc0_4 : l0_4.length ≤ c0_4) (h : gates_Check.f a0_0 l0_1 l0_2 l0_3 l0_4 = some r) :
  Calls Try.prog 59 #[.agg #[.int .i64 a0_0, .slice A0_1 l0_1.length c0_1, .slice A0_2 l0_2.length c0_2, .slice A0_3 l0_3.length c0_3, .slice A0_4 l0_4.length c0_4]] w fun e w' => e = .returned (.int .i64 r) ∧ Below w.heap.size w w' := by
 have hu26 := Try.underlying26
 have hu69 := Try.underlying69
 have hu127 := Try.underlying127
 have ha3 := arr3
 have HR0_1 := M_ hr0_1
 have HR0_2 := M_ hr0_2
 have HR0_3 := M_ hr0_3
 have HR0_4 := M_ hr0_4
 clear hr0_1 hr0_2 hr0_3 hr0_4 hc0_1 hc0_2 hc0_3 hc0_4
 unfold gates_Check.f at h
 replace h := Option.some.inj h
 by_cases c1 : a0_0 < 0
 ·rw [if_pos c1] at h
  have b1 : decide (a0_0 < 0) = true := decide_eq_true c1
  clear c1
  have H := M_ h
  clear h
  go_enter Try.func59, Try.ntmps59
  go_wp2
  go_ret
  exact ⟨by simp [← H.out], below_alloc (Below.refl _ _) _⟩
 have b1 : decide (a0_0 < 0) = false := decide_eq_false c1
 rw [if_neg c1] at h
 by_cases c2 : a0_0 > 1000
 ·rw [if_pos c2] at h
  have b2 : decide (1000 < a0_0) = true := decide_eq_true c2
  clear c1 c2
  have H := M_ h
  clear h
  go_enter Try.func59, Try.ntmps59
  go_wp2
  go_ret
  exact ⟨by simp [← H.out], below_alloc (Below.refl _ _) _⟩
 rw [if_neg c2] at h
 have b2 : decide (1000 < a0_0) = false := decide_eq_false c2
 obtain ⟨s3, hs3⟩ : ∃ s, st3 a0_0 l0_1.length l0_2.length = s := ⟨_, rfl⟩
 rw [hs3] at h
 have HS := M_ hs3
 clear hs3
 by_cases c3 : wrap64 (s3 - 1) > 1000
 ·rw [if_pos c3] at h
  have b3 : decide (1000 < wrap64 (s3 - 1)) = true := decide_eq_true c3
  clear c1 c2 c3
  have H := M_ h
  clear h
  go_enter Try.func59, Try.ntmps59
  go_wp2_with (go_at_call 83; (with_reducible refine (starts_calls a0_0 _ l0_1.length _ _ l0_2.length _ _ l0_3.length _ _ l0_4.length _ _).mono ?_); rw [HS.out]; rintro e w' ⟨rfl, hb⟩; have HB := M_ (below_step (below_alloc (Below.refl _ _) _) hb); have BK := M_ (blk_below (blk_new w (.cells #[.int .i64 a0_0, .slice A0_1 l0_1.length c0_1, .slice A0_2 l0_2.length c0_2, .slice A0_3 l0_3.length c0_3, .slice A0_4 l0_4.length c0_4] 26)) hb); have k1 := blk_cell BK.out 1; have k2 := blk_cell BK.out 2; have k3 := blk_cell BK.out 3; have k4 := blk_cell BK.out 4; have k0 := blk_cell BK.out 0; simp only [List.getElem?_toArray, List.getElem?_cons_succ, List.getElem?_cons_zero] at k0 k1 k2 k3 k4; clear hb)
  go_ret
  exact ⟨by simp [← H.out], HB.out⟩
 rw [if_neg c3] at h
 have b3 : decide (1000 < wrap64 (s3 - 1)) = false := decide_eq_false c3
 obtain ⟨m, hm⟩ : ∃ m : Int, (if (l0_3.length : Int) < (l0_4.length : Int) then (l0_4.length : Int) else (l0_3.length : Int)) = m := ⟨_, rfl⟩
 rw [hm] at h
 have hm' : (if l0_3.length < l0_4.length then (l0_4.length : Int) else (l0_3.length : Int)) = m := by rw [← hm]; split <;> split <;> omega
 by_cases c4 : m > 100
 ·rw [if_pos c4] at h
  have b4 : decide (100 < m) = true := decide_eq_true c4
  clear c1 c2 c3 c4
  have H := M_ h
  clear h
  go_enter Try.func59, Try.ntmps59
  go_wp2_with (go_at_call 83; (with_reducible refine (starts_calls a0_0 _ l0_1.length _ _ l0_2.length _ _ l0_3.length _ _ l0_4.length _ _).mono ?_); rw [HS.out]; rintro e w' ⟨rfl, hb⟩; have HB := M_ (below_step (below_alloc (Below.refl _ _) _) hb); have BK := M_ (blk_below (blk_new w (.cells #[.int .i64 a0_0, .slice A0_1 l0_1.length c0_1, .slice A0_2 l0_2.length c0_2, .slice A0_3 l0_3.length c0_3, .slice A0_4 l0_4.length c0_4] 26)) hb); have k1 := blk_cell BK.out 1; have k2 := blk_cell BK.out 2; have k3 := blk_cell BK.out 3; have k4 := blk_cell BK.out 4; have k0 := blk_cell BK.out 0; simp only [List.getElem?_toArray, List.getElem?_cons_succ, List.getElem?_cons_zero] at k0 k1 k2 k3 k4; clear hb)
  go_ret
  exact ⟨by simp [← H.out], HB.out⟩
 rw [if_neg c4] at h
 have b4 : decide (100 < m) = false := decide_eq_false c4
 clear c1 c2 c3 c4
 have H := M_ h
 clear h
 go_enter Try.func59, Try.ntmps59
 go_upto_region 5 with (go_at_call 83; (with_reducible refine (starts_calls a0_0 _ l0_1.length _ _ l0_2.length _ _ l0_3.length _ _ l0_4.length _ _).mono ?_); rw [HS.out]; rintro e w1 ⟨rfl, hb⟩; have HB := M_ (below_step (below_alloc (Below.refl _ _) _) hb); have BK := M_ (blk_below (blk_new w (.cells #[.int .i64 a0_0, .slice A0_1 l0_1.length c0_1, .slice A0_2 l0_2.length c0_2, .slice A0_3 l0_3.length c0_3, .slice A0_4 l0_4.length c0_4] 26)) hb); have k1 := blk_cell BK.out 1; have k2 := blk_cell BK.out 2; have k3 := blk_cell BK.out 3; have k4 := blk_cell BK.out 4; have k0 := blk_cell BK.out 0; simp only [List.getElem?_toArray, List.getElem?_cons_succ, List.getElem?_cons_zero] at k0 k1 k2 k3 k4; clear hb)
 go_upto_region 8 with (go_at_call 83; (with_reducible refine (starts_calls a0_0 _ l0_1.length _ _ l0_2.length _ _ l0_3.length _ _ l0_4.length _ _).mono ?_); rw [HS.out]; rintro e w2 ⟨rfl, hb⟩; have HB2 := M_ (below_step HB.out hb); have BK2 := M_ (blk_below BK.out hb); clear BK HB k0 k1 k2 k3 k4; have k1 := blk_cell BK2.out 1; have k2 := blk_cell BK2.out 2; have k3 := blk_cell BK2.out 3; have k4 := blk_cell BK2.out 4; have k0 := blk_cell BK2.out 0; simp only [List.getElem?_toArray, List.getElem?_cons_succ, List.getElem?_cons_zero] at k0 k1 k2 k3 k4; clear hb)
 obtain ⟨W, hW⟩ : ∃ W : World, ((w2.alloc (.cells #[.int .i64 1, .int .i64 (st1 a0_0), .int .i64 (st2 a0_0 l0_1.length), .int .i64 s3] 127)).alloc (.cells #[.func (.func 90) #[] #[.pointer (some ⟨w2.heap.size, 0, none⟩)]] 107)) = W := ⟨_, rfl⟩
 have BS : W.heap[w2.heap.size]? = some (.cells #[.int .i64 1, .int .i64 (st1 a0_0), .int .i64 (st2 a0_0 l0_1.length), .int .i64 s3] 127 (0, 0)) := by rw [← hW]; exact blk_alloc (blk_new _ _) _
 have BO : W.heap[w2.heap.size + 1]? = some (.cells #[.func (.func 90) #[] #[.pointer (some ⟨w2.heap.size, 0, none⟩)]] 107 (0, 0)) := by rw [← hW]; exact (by simp : (w2.alloc (.cells #[.int .i64 1, .int .i64 (st1 a0_0), .int .i64 (st2 a0_0 l0_1.length), .int .i64 s3] 127)).heap.size = w2.heap.size + 1) ▸ blk_new _ _
 have HB3 : Aside0 (Below w.heap.size w W) := ⟨by rw [← hW]; exact below_alloc (below_alloc HB2.out _) _⟩
 have BK3 : W.heap[w.heap.size]? = some (.cells #[.int .i64 a0_0, .slice A0_1 l0_1.length c0_1, .slice A0_2 l0_2.length c0_2, .slice A0_3 l0_3.length c0_3, .slice A0_4 l0_4.length c0_4] 26) := by rw [← hW]; exact blk_alloc (blk_alloc BK2.out _) _
 rw [hW]
 clear hW k0 k1 k2 k3 k4 BK2 HB2
 generalize w2.heap.size = gs at BS BO ⊢
 generalize gs + 1 = go at BO ⊢
 have k1 := blk_cell BK3 1
 have k2 := blk_cell BK3 2
 have k3 := blk_cell BK3 3
 have k4 := blk_cell BK3 4
 have q0 := blk_cell BO 0
 simp only [List.getElem?_toArray, List.getElem?_cons_succ, List.getElem?_cons_zero] at k1 k2 k3 k4 q0
 have BS := M_ BS
 have BO := M_ BO
 have BK3 := M_ BK3
 clear w1 w2
 generalize h5 : l0_3.any (outS s3) = y5 at H
 have C5 := M_ h5
 clear h5
 cases y5 with
 | true =>
  go_wp2_with (go_at_call 92; ((with_reducible refine (containsInts_calls _ _ l0_3 (outS s3) gs _ ?c1 ?c2).mono ?_); (case c1 => exact Kd.C_below HR0_3.out HB3.out); (case c2 => exact outP BS.out); rw [C5.out]; rintro e w' ⟨rfl, ⟨nd, rfl⟩⟩))
  go_ret
  exact ⟨by simp [← H.out], pw_below_drewN HB3.out _⟩
 | false =>
 generalize h6 : l0_4.any (outS s3) = y6 at H
 have C6 := M_ h6
 clear h6
 cases y6 with
 | true =>
  go_wp2_with (go_at_call 92; (first | ((with_reducible refine (containsInts_calls _ _ l0_3 (outS s3) gs _ ?c1 ?c2).mono ?_); (case c1 => exact Kd.C_below HR0_3.out HB3.out); (case c2 => exact outP BS.out); rw [C5.out]; rintro e w' ⟨rfl, ⟨nd, rfl⟩⟩) | ((with_reducible refine (containsInts_calls _ _ l0_4 (outS s3) gs _ ?c3 ?c4).mono ?_); (case c3 => exact Kd.C_below HR0_4.out (pw_below_drewN HB3.out _)); (case c4 => exact outP (blk_drewN BS.out _)); rw [C6.out]; rintro e w' ⟨rfl, ⟨nd2, rfl⟩⟩)))
  go_ret
  exact ⟨by simp [← H.out], pw_below_drewN HB3.out _⟩
 | false =>
 generalize h7 : l0_1.any (wrongS s3) = y7 at H
 have C7 := M_ h7
 clear h7
 cases y7 with
 | true =>
  go_wp2_with (first | (go_at_call 92; (first | ((with_reducible refine (containsInts_calls _ _ l0_3 (outS s3) gs _ ?c1 ?c2).mono ?_); (case c1 => exact Kd.C_below HR0_3.out HB3.out); (case c2 => exact outP BS.out); rw [C5.out]; rintro e w' ⟨rfl, ⟨nd, rfl⟩⟩) | ((with_reducible refine (containsInts_calls _ _ l0_4 (outS s3) gs _ ?c3 ?c4).mono ?_); (case c3 => exact Kd.C_below HR0_4.out (pw_below_drewN HB3.out _)); (case c4 => exact outP (blk_drewN BS.out _)); rw [C6.out]; rintro e w' ⟨rfl, ⟨nd2, rfl⟩⟩))) | (go_at_call 93; (with_reducible refine (containsLatches_calls _ _ l0_1 (wrongS s3) go _ ?c5 ?c6).mono ?_); (case c5 => exact Kd.C_below HR0_1.out (pw_below_drewN HB3.out _)); (case c6 => exact wrongP (blk_drewN BS.out _) (blk_drewN BO.out _)); rw [C7.out]; rintro e w7 ⟨rfl, hb⟩; have HB7 := M_ (below_step (pw_below_drewN HB3.out _) hb); have BS7 := M_ (blk_below (blk_drewN BS.out _) hb); have j2 := blk_cell (blk_below (blk_drewN BK3.out _) hb) 2; simp only [List.getElem?_toArray, List.getElem?_cons_succ, List.getElem?_cons_zero] at j2; clear hb))
  go_ret
  exact ⟨by simp [← H.out], HB7.out⟩
 | false =>
  go_upto_region 10 with (first | (go_at_call 92; (first | ((with_reducible refine (containsInts_calls _ _ l0_3 (outS s3) gs _ ?c1 ?c2).mono ?_); (case c1 => exact Kd.C_below HR0_3.out HB3.out); (case c2 => exact outP BS.out); rw [C5.out]; rintro e w' ⟨rfl, ⟨nd, rfl⟩⟩) | ((with_reducible refine (containsInts_calls _ _ l0_4 (outS s3) gs _ ?c3 ?c4).mono ?_); (case c3 => exact Kd.C_below HR0_4.out (pw_below_drewN HB3.out _)); (case c4 => exact outP (blk_drewN BS.out _)); rw [C6.out]; rintro e w' ⟨rfl, ⟨nd2, rfl⟩⟩))) | (go_at_call 93; (with_reducible refine (containsLatches_calls _ _ l0_1 (wrongS s3) go _ ?c5 ?c6).mono ?_); (case c5 => exact Kd.C_below HR0_1.out (pw_below_drewN HB3.out _)); (case c6 => exact wrongP (blk_drewN BS.out _) (blk_drewN BO.out _)); rw [C7.out]; rintro e w7 ⟨rfl, hb⟩; have HB7 := M_ (below_step (pw_below_drewN HB3.out _) hb); have BS7 := M_ (blk_below (blk_drewN BS.out _) hb); have j2 := blk_cell (blk_below (blk_drewN BK3.out _) hb) 2; simp only [List.getElem?_toArray, List.getElem?_cons_succ, List.getElem?_cons_zero] at j2; clear hb))
  clear k1 k2 k3 k4 q0
  have H8 : (if gatesBad (st2 a0_0 l0_1.length) l0_2 = true then (8 : Int) else 0) = r := H.out
  have H := M_ H8
  clear H8
  have HN := HR0_2.out.2.1
  go_wp2
  go_loopg [54] (l0_2.length + 1) (fun kq v54 w' => ∃ (i : Nat), v54 = .int .i64 (i : Int) ∧ Aside0 (i ≤ l0_2.length ∧ kq + i = l0_2.length + 1 ∧ ((List.range i).any fun q => gateBad (st2 a0_0 l0_1.length) q (rd_T69 l0_2 q)) = false) ∧ Aside0 (Below w.heap.size w w') ∧ Aside0 (w'.heap[gs]? = some (.cells #[.int .i64 1, .int .i64 (st1 a0_0), .int .i64 (st2 a0_0 l0_1.length), .int .i64 s3] 127 (0, 0))))
  case atStart => exact ⟨0, by simp, ⟨by omega, by omega, by simp⟩, HB7, BS7⟩
  case round =>
   clear HB7 BS7 j2
   obtain ⟨i, rfl, HI, HB7, BS7⟩ := hrel
   by_cases c : i < l0_2.length
   ·have cb : decide (i < l0_2.length) = true := decide_eq_true c
    obtain ⟨ad, rfl, hx, hy⟩ := at_T69n (Kd.C_below HR0_2.out HB7.out) i c
    have z2 := blk_cell BS7.out 2
    simp only [List.getElem?_toArray, List.getElem?_cons_succ, List.getElem?_cons_zero] at z2
    have hgs := blk_lt BS7.out
    have hne := Nat.ne_of_lt hgs
    by_cases d1 : (rd_T69 l0_2 i).f1 < 0
    ·have e1 : decide ((rd_T69 l0_2 i).f1 < 0) = true := decide_eq_true d1
     have HG : gatesBad (st2 a0_0 l0_1.length) l0_2 = true := List.any_eq_true.2 ⟨i, List.mem_range.2 c, by simp [gateBad, d1]⟩
     have H9 : 8 = r := by have := H.out; rw [if_pos HG] at this; exact this
     have H9 := M_ H9
     clear HG H d1
     go_wp2
     go_ret
     exact ⟨by simp [← H9.out], below_alloc HB7.out _⟩
    have e1 : decide ((rd_T69 l0_2 i).f1 < 0) = false := decide_eq_false d1
    by_cases d2 : (rd_T69 l0_2 i).f0 < (rd_T69 l0_2 i).f1
    ·have e2 : decide ((rd_T69 l0_2 i).f0 < (rd_T69 l0_2 i).f1) = true := decide_eq_true d2
     have HG : gatesBad (st2 a0_0 l0_1.length) l0_2 = true := List.any_eq_true.2 ⟨i, List.mem_range.2 c, by simp [gateBad, d2]⟩
     have H9 : 8 = r := by have := H.out; rw [if_pos HG] at this; exact this
     have H9 := M_ H9
     clear HG H d1 d2
     go_wp2
     go_ret
     exact ⟨by simp [← H9.out], below_alloc HB7.out _⟩
    have e2 : decide ((rd_T69 l0_2 i).f0 < (rd_T69 l0_2 i).f1) = false := decide_eq_false d2
    by_cases d3 : wrap64 (2 * wrap64 (st2 a0_0 l0_1.length + i)) ≤ (rd_T69 l0_2 i).f0
    ·have e3 : decide (wrap64 (2 * wrap64 (st2 a0_0 l0_1.length + i)) ≤ (rd_T69 l0_2 i).f0) = true := decide_eq_true d3
     have HG : gatesBad (st2 a0_0 l0_1.length) l0_2 = true := List.any_eq_true.2 ⟨i, List.mem_range.2 c, by simp [gateBad, d3]⟩
     have H9 : 8 = r := by have := H.out; rw [if_pos HG] at this; exact this
     have H9 := M_ H9
     clear HG H d1 d2 d3
     go_wp2
     go_ret
     exact ⟨by simp [← H9.out], below_alloc HB7.out _⟩
    have e3 : decide (wrap64 (2 * wrap64 (st2 a0_0 l0_1.length + i)) ≤ (rd_T69 l0_2 i).f0) = false := decide_eq_false d3
    have HI2 : Aside0 (((List.range (i + 1)).any fun q => gateBad (st2 a0_0 l0_1.length) q (rd_T69 l0_2 q)) = false) := ⟨by
     rw [List.range_succ, List.any_append, HI.out.2.2]
     simp only [List.any_cons, List.any_nil, Bool.or_false, Bool.false_or, gateBad, e1, e2, e3]⟩
    clear d1 d2 d3
    go_wp2
    go_roundg (gk - 1)
    case rel => exact ⟨i + 1, by go_num, ⟨by omega, by have := HI.out; omega, HI2.out⟩, ⟨below_alloc HB7.out _⟩, ⟨blk_alloc BS7.out _⟩⟩
    case measure => have := HI.out; omega
   ·have cb : decide (i < l0_2.length) = false := decide_eq_false c
    go_wp2
    go_ret
    have hz := HI.out.2.2
    have hl := HI.out.1
    have he : i = l0_2.length := by omega
    subst he
    have H9 := H.out
    rw [if_neg (show ¬ gatesBad (st2 a0_0 l0_1.length) l0_2 = true by unfold gatesBad; rw [hz]; decide)] at H9
    exact ⟨by simp [← H9], HB7.out⟩

def ternary_First.l0 : Nat → List Int → List (S36) → Int → Int → Option (List Int × Int)
 | 0, _, _, _, _ => none
 | k + 1, x5, x14, x15, x16 => if x16 < x15 then (if 0 ≤ x16 then (if x16 < (x14.length : Int) then (if ((rd_T36 x14 x16).f1) = 0 then (if x5.length < 140737488355328 then (ternary_First.l0 k (x5 ++ [0]) x14 x15 (wrap64 (x16 + 1))) else (none)) else (if ((rd_T36 x14 x16).f1) = 1 then (if x5.length < 140737488355328 then (ternary_First.l0 k (x5 ++ [1]) x14 x15 (wrap64 (x16 + 1))) else (none)) else (if x5.length < 140737488355328 then (ternary_First.l0 k (x5 ++ [2]) x14 x15 (wrap64 (x16 + 1))) else (none)))) else (none)) else (none)) else (some (x5, 0))
def ternary_First.f (k : Nat) (a0_0 : Int) (l0_1 : List (S36)) (l0_2 : List (S69)) (l0_3 : List Int) (l0_4 : List Int) : Option (List Int × Int) := (gates_Check.f a0_0 l0_1 l0_2 l0_3 l0_4).bind fun t102 => (if t102 = 0 then (ternary_First.l0 k ([] : List Int) l0_1 (l0_1.length : Int) 0) else (some (([] : List Int), t102)))
set_option maxHeartbeats 8000000 in
set_option maxRecDepth 100000 in
theorem ternary_First.calls (k : Nat) (a0_0 : Int) (A0_1 : Option Addr) (c0_1 : Nat) (l0_1 : List (S36)) (A0_2 : Option Addr) (c0_2 : Nat) (l0_2 : List (S69)) (A0_3 : Option Addr) (c0_3 : Nat) (l0_3 : List Int) (A0_4 : Option Addr) (c0_4 : Nat) (l0_4 : List Int) (r1 : List Int) (r2 : Int) (w : World) (hr0_1 : Kd.C k36 w A0_1 l0_1.length l0_1) (hc0_1 : l0_1.length ≤ c0_1) (hr0_2 : Kd.C k69 w A0_2 l0_2.length l0_2) (hc0_2 : l0_2.length ≤ c0_2) (hr0_3 : Kd.C (Kd.int .i64) w A0_3 l0_3.length l0_3) (hc0_3 : l0_3.length ≤ c0_3) (hr0_4 : Kd.C (Kd.int .i64) w A0_4 l0_4.length l0_4) (hc0_4 : l0_4.length ≤ c0_4) (h : ternary_First.f k a0_0 l0_1 l0_2 l0_3 l0_4 = some (r1, r2)) :
  Calls Try.prog 32 #[.agg #[.int .i64 a0_0, .slice A0_1 l0_1.length c0_1, .slice A0_2 l0_2.length c0_2, .slice A0_3 l0_3.length c0_3, .slice A0_4 l0_4.length c0_4]] w fun e w' => ∃ v0_ : Value, e = .returned (.tuple #[v0_, .int .i64 r2]) ∧ Kd.R (Kd.int .u8) 5 w' w.heap.size (fun _ => True) v0_ r1 ∧ Below w.heap.size w w' := by
 have hu26 := Try.underlying26
 have hu36 := Try.underlying36
 have HR0_1 := M_ hr0_1
 have HC0_1 := M_ hc0_1
 clear hr0_1 hc0_1
 have HR0_2 := M_ hr0_2
 have HC0_2 := M_ hc0_2
 clear hr0_2 hc0_2
 have HR0_3 := M_ hr0_3
 have HC0_3 := M_ hc0_3
 clear hr0_3 hc0_3
 have HR0_4 := M_ hr0_4
 have HC0_4 := M_ hc0_4
 clear hr0_4 hc0_4
 have HB := M_ (Below.refl w.heap.size w)
 have H : ((gates_Check.f a0_0 l0_1 l0_2 l0_3 l0_4).bind fun t102 => (if t102 = 0 then (ternary_First.l0 k ([] : List Int) l0_1 (l0_1.length : Int) 0) else (some (([] : List Int), t102)))) = some (r1, r2) := h
 clear h
 replace H := Option.bind_eq_some_iff.mp H
 obtain ⟨t102, A20, H⟩ := H
 replace H : (if t102 = 0 then (ternary_First.l0 k ([] : List Int) l0_1 (l0_1.length : Int) 0) else (some (([] : List Int), t102))) = some (r1, r2) := H
 have A2 := M_ A20
 clear A20
 by_cases c3 : t102 = 0
 ·rw [if_pos c3] at H
  have c3b0 : (t102 == 0) = true := beq_iff_eq.mpr c3
  have c3b1 : (t102 != 0) = false := bne_eq_false_iff_eq.mpr c3
  clear c3
  have H' := M_ H
  clear H
  go_enter Try.func32, Try.ntmps32
  go_wp2_with (first | ((with_reducible refine gate_dst (N := 1) rfl ?_); refine box_event ?hg (N := 1) ?hd (cs := #[.int .i64 a0_0, .slice A0_1 l0_1.length c0_1, .slice A0_2 l0_2.length c0_2, .slice A0_3 l0_3.length c0_3, .slice A0_4 l0_4.length c0_4]) (t := 26) ?hr ?_; (case hd => rfl); (case hg => rfl); (case hr => first | (go_simp; done) | (go_simp; rfl)); intro gb101 hg w4 hbox hb; have n1_ := M_ (hbox); have n2_ := M_ ((by rw [hg]; exact (below_size (wl_ HB.out)) : w.heap.size ≤ gb101)); have n3_ := M_ ((by rw [hg]; exact (below_size (wl_ HB.out)) : w.heap.size ≤ gb101)); replace HB := wb_ HB hb; have BK101 := n1_; have GW101 := n2_; have GE101 := n3_; have gi101 : Ge _ _ := ⟨GE101.out⟩; clear n1_ n2_ n3_; clear hb hbox hg; obtain ⟨hcz5_0, hcz5_1, hcz5_2, hcz5_3, hcz5_4⟩ := cz5_ BK101.out; have hfz5_0 := blk_frozen BK101.out 0; have hfz5_1 := blk_frozen BK101.out 1; have hfz5_2 := blk_frozen BK101.out 2; have hfz5_3 := blk_frozen BK101.out 3; have hfz5_4 := blk_frozen BK101.out 4) | ((with_reducible refine gate_callee (f := 59) rfl ?_); refine goesL_ (some 9) rfl rfl Try.func59 (by kernel_rfl) rfl #[.agg #[.int .i64 a0_0, .slice A0_1 l0_1.length c0_1, .slice A0_2 l0_2.length c0_2, .slice A0_3 l0_3.length c0_3, .slice A0_4 l0_4.length c0_4]] rfl (by (try simp only [List.map_toArray, List.map_cons, List.map_nil]); first | done | rfl) ?_; (with_reducible refine (gates_Check.calls a0_0 _ _ l0_1 _ _ l0_2 _ _ l0_3 _ _ l0_4 t102 _ ?side1 ?side2 ?side3 ?side4 ?side5 ?side6 ?side7 ?side8 A2.out).mono ?_); (case side1 => exact cl_ (Kd.C_below HR0_1.out HB.out)); (case side2 => exact HC0_1.out); (case side3 => exact cl_ (Kd.C_below HR0_2.out HB.out)); (case side4 => exact HC0_2.out); (case side5 => exact cl_ (Kd.C_below HR0_3.out HB.out)); (case side6 => exact HC0_3.out); (case side7 => exact cl_ (Kd.C_below HR0_4.out HB.out)); (case side8 => exact HC0_4.out); rintro e w6 ⟨rfl, hb⟩; refine ⟨_, rfl, ?_⟩; replace BK101 := bb_ BK101 hb; replace HB := wb_ HB hb; (try clear hb); (try clear hb2); (try clear hk); (try clear hi); obtain ⟨hcz7_0, hcz7_1, hcz7_2, hcz7_3, hcz7_4⟩ := cz5_ BK101.out; have hfz7_0 := blk_frozen BK101.out 0; have hfz7_1 := blk_frozen BK101.out 1; have hfz7_2 := blk_frozen BK101.out 2; have hfz7_3 := blk_frozen BK101.out 3; have hfz7_4 := blk_frozen BK101.out 4))
  go_loopg [5, 16] k (fun kq v5 v16 w' => ∃ (x5_1 : List Int) (x16_1 : Int), v16 = .int .i64 x16_1 ∧ Aside0 (ternary_First.l0 kq x5_1 l0_1 (l0_1.length : Int) x16_1 = some (r1, r2)) ∧ Aside0 (kq ≤ k) ∧ Aside0 (Kd.R (Kd.int .u8) 5 w' w.heap.size (fun _ => True) v5 x5_1) ∧ Aside0 (w'.heap[gb101]? = some (.cells #[.int .i64 a0_0, (.slice A0_1 l0_1.length c0_1), (.slice A0_2 l0_2.length c0_2), (.slice A0_3 l0_3.length c0_3), (.slice A0_4 l0_4.length c0_4)] 26 (0, 0))) ∧ Aside0 (Below w.heap.size w w'))
  case atStart => exact ⟨(([] : List Int)), (0), (by first | rfl | (simp; done) | (simp [*]; done)), H', ⟨Nat.le_refl _⟩, ⟨by first | exact Kd.R_nil _ _ _ _ _ | exact Kd.N_nil _ _ _ _ _ | exact Kd.V_nil _ _ _ _ _ | exact Kd.Q_nil _ _ _ _ _ | exact Kd.S_nil _ _ _ _ _⟩, ⟨by (with_reducible repeat (first | refine k0_ ?_ _ | refine k1_ ?_ | refine k2_ ?_ _)); exact BK101.out⟩, ⟨by repeat (first | (with_reducible first | exact HB.out | apply b0_ | apply b1_ | apply b2_ | refine below_set ?_ GE101.out) | exact HB.out)⟩⟩
  case round =>
   clear H'
   try clear p2; try clear c3; try clear c3b0; try clear c3b1; try clear c5; try clear hcz5_0 hcz5_1 hcz5_2 hcz5_3 hcz5_4; try clear hcz7_0 hcz7_1 hcz7_2 hcz7_3 hcz7_4; try clear hfz5_0 hfz5_1 hfz5_2 hfz5_3 hfz5_4; try clear hfz7_0 hfz7_1 hfz7_2 hfz7_3 hfz7_4
   obtain ⟨x5_1, x16_1, rfl, HA, HK1, HO_5, BK101, HB⟩ := hrel
   cases gk with
   | zero => exact absurd HA.out (by simp [ternary_First.l0])
   | succ k1 =>
    have H := HA.out
    clear HA
    simp only [ternary_First.l0] at H
    by_cases c8 : x16_1 < (l0_1.length : Int)
    ·rw [if_pos c8] at H
     have c8b0 : decide (x16_1 < (l0_1.length : Int)) = true := decide_eq_true c8
     clear c8
     by_cases c9 : 0 ≤ x16_1
     ·rw [if_pos c9] at H
      have c9b0 : decide (0 ≤ x16_1) = true := decide_eq_true c9
      clear c9
      by_cases c10 : x16_1 < (l0_1.length : Int)
      ·rw [if_pos c10] at H
       have c10b0 : decide (x16_1 < (l0_1.length : Int)) = true := decide_eq_true c10
       clear c10
       by_cases c11 : ((rd_T36 l0_1 x16_1).f1) = 0
       ·rw [if_pos c11] at H
        have c11b0 : (((rd_T36 l0_1 x16_1).f1) == 0) = true := beq_iff_eq.mpr c11
        have c11b1 : (((rd_T36 l0_1 x16_1).f1) != 0) = false := bne_eq_false_iff_eq.mpr c11
        clear c11
        by_cases c12 : x5_1.length < 140737488355328
        ·rw [if_pos c12] at H
         have LMc12 := M_ c12
         clear c12
         obtain ⟨y105, hy105⟩ : ∃ y_ : List Int, y_ = (x5_1 ++ [0]) := ⟨_, rfl⟩
         replace H : (ternary_First.l0 k1 y105 l0_1 (l0_1.length : Int) (wrap64 (x16_1 + 1))) = some (r1, r2) := by first | (rw [hy105]; with_reducible exact H) | (have H2_ := (Option.bind_some _ _).symm.trans H; rw [hy105]; with_reducible exact H2_) | (have H2_ := (Option.bind_some _ _).symm.trans H; with_reducible exact H2_) | with_reducible exact H | (rw [hy105]; exact H) | exact H
         have Ny105 := M_ hy105
         clear hy105
         have H' := M_ H
         clear H
         have p103 : 0 ≤ (x16_1 : Int) := of_decide_eq_true (by first | (with_reducible assumption) | assumption)
         have q103 : x16_1 < (l0_1.length : Int) := of_decide_eq_true (by first | (with_reducible assumption) | assumption)
         obtain ⟨ad103, e103, hx103_0, hx103_1⟩ := at_T36 HR0_1.out x16_1 p103 q103
         cases e103
         replace hx103_0 := (HB.out.cell (World.block_lt_of_cell? w _ hx103_0)).trans hx103_0
         replace hx103_1 := (HB.out.cell (World.block_lt_of_cell? w _ hx103_1)).trans hx103_1
         replace p103 := eq_true p103
         replace q103 := eq_true q103
         go_wp2_with (first | ((with_reducible refine gate_dst (N := 7) rfl ?_); refine box_event ?hg (N := 7) ?hd (cs := #[.int .i64 0, .int .i64 0]) (t := 36) ?hr ?_; (case hd => rfl); (case hg => rfl); (case hr => first | (go_simp; done) | (go_simp; rfl)); intro gb104 hg w13 hbox hb; have n3_ := M_ (hbox); have n4_ := M_ ((by rw [hg]; exact (below_size (ws_ HB.out)) : w.heap.size ≤ gb104)); have n5_ := M_ ((by rw [hg]; exact (below_size (ws_ HB.out)) : w.heap.size ≤ gb104)); have n6_ := M_ ((by rw [hg]; exact Nat.ne_of_lt (blk_lt (bl_ BK101.out)) : gb101 ≠ gb104)); have n7_ := M_ ((by rw [hg]; exact Nat.ne_of_gt (blk_lt (bl_ BK101.out)) : gb104 ≠ gb101)); replace HO_5 := rb_ HO_5 hb; replace BK101 := bb_ BK101 hb; replace HB := wb_ HB hb; have BK104 := n3_; have GW104 := n4_; have GE104 := n5_; have gi104 : Ge _ _ := ⟨GE104.out⟩; have NB101_104 := n6_; have NB104_101 := n7_; clear n3_ n4_ n5_ n6_ n7_; clear hb hbox hg; have hnb14 := NB104_101.out; have hnc14 := NB101_104.out; obtain ⟨hcz15_0, hcz15_1⟩ := cz2_ BK104.out; have hfz15_0 := blk_frozen BK104.out 0; have hfz15_1 := blk_frozen BK104.out 1) | ((with_reducible refine gate_builtin (b := .append) (xs := #[.tmp 27, .tmp 28]) rfl ?_); at_builtin; refine Kd.R_append (Kd.int .u8) (w0 := w) w.heap.size rfl (.tmp 27) (.tmp 28) 70 5 (.int .u8 0) 1 rfl Try.underlying70 info5 rfl (by decide) (by omega) u5 x5_1 0 [.int .u8 0] (fun _ => True) (fun _ => False) rfl (by first | (go_simp; done) | (go_simp; rfl)) ?aP (fun _ hk => hk.elim) ?aF ?aO ?aB ?aS ?aL ?_; (case aP => exact rfl); (case aB => exact (ws_ HB.out)); (case aF => exact (fun _ _ => trivial)); (case aO => exact (rl_ (Kd.R_mono (Kd.R_far (p := ⟨gb104, 1, none⟩) (Kd.R_far (p := ⟨gb104, 0, none⟩) (Kd.R_types HO_5.out BK104.out (by decide)) (fun _ hk => hk.2) (.int .i64 ((rd_T36 l0_1 x16_1).f0))) (fun _ hk => hk.2) (.int .i64 ((rd_T36 l0_1 x16_1).f1))) (fun _ hk => trivial)))); (case aS => exact (below_size (ws_ HB.out))); (case aL => have := LMc12.out; omega); intro v106 w16 ho hb hg hat; rw [← Ny105.out] at ho; have n0_ := M_ (blk_grown (g := gb101) (o := .cells #[.int .i64 a0_0, .slice (some ad103) l0_1.length c0_1, .slice A0_2 l0_2.length c0_2, .slice A0_3 l0_3.length c0_3, .slice A0_4 l0_4.length c0_4] 26 (0, 0)) (by (with_reducible repeat (first | refine k0_ ?_ _ | refine k1_ ?_ | refine k2_ ?_ _)); refine blk_far ?_ NB101_104.out _; (with_reducible repeat (first | refine k0_ ?_ _ | refine k1_ ?_ | refine k2_ ?_ _)); refine blk_far ?_ NB101_104.out _; (with_reducible repeat (first | refine k0_ ?_ _ | refine k1_ ?_ | refine k2_ ?_ _)); exact BK101.out) hg (Kd.R_ne HO_5.out BK101.out (by decide))); have n1_ := M_ (blk_grown (g := gb104) (o := .cells #[.int .i64 ((rd_T36 l0_1 x16_1).f0), .int .i64 ((rd_T36 l0_1 x16_1).f1)] 36 (0, 0)) (by (with_reducible repeat (first | refine k0_ ?_ _ | refine k1_ ?_ | refine k2_ ?_ _)); refine blk_put (cs := #[.int .i64 ((rd_T36 l0_1 x16_1).f0), .int .i64 0]) ?_ 1 _ rfl; (with_reducible repeat (first | refine k0_ ?_ _ | refine k1_ ?_ | refine k2_ ?_ _)); refine blk_put (cs := #[.int .i64 0, .int .i64 0]) ?_ 0 _ rfl; (with_reducible repeat (first | refine k0_ ?_ _ | refine k1_ ?_ | refine k2_ ?_ _)); exact BK104.out) hg (Kd.R_ne HO_5.out BK104.out (by decide))); have n2_ := M_ (hb); have n3_ := M_ (ho); clear BK101; clear BK104; clear HB; clear HO_5; have BK101 := n0_; have BK104 := n1_; have HB := n2_; have HO107 := n3_; clear n0_ n1_ n2_ n3_; clear ho hb hg hat))
         go_roundg k1
         case measure => have := HK1.out; omega
         case rel => exact ⟨(y105), (wrap64 (x16_1 + 1)), (by first | rfl | (simp; done) | (simp [*]; done)), H', ⟨by have := HK1.out; omega⟩, ⟨by (with_reducible repeat (first | apply a0_ | apply a1_ | apply a2_)); exact HO107.out⟩, ⟨by (with_reducible repeat (first | refine k0_ ?_ _ | refine k1_ ?_ | refine k2_ ?_ _)); exact BK101.out⟩, ⟨by repeat (first | (with_reducible first | exact HB.out | apply b0_ | apply b1_ | apply b2_ | refine below_set ?_ GE101.out | refine below_set ?_ GE104.out) | exact HB.out)⟩⟩
        ·rw [if_neg c12] at H
         exact absurd H (by simp)
       ·rw [if_neg c11] at H
        have c11b0 : (((rd_T36 l0_1 x16_1).f1) == 0) = false := beq_eq_false_iff_ne.mpr c11
        have c11b1 : (((rd_T36 l0_1 x16_1).f1) != 0) = true := bne_iff_ne.mpr c11
        by_cases c17 : ((rd_T36 l0_1 x16_1).f1) = 1
        ·rw [if_pos c17] at H
         have c17b0 : (((rd_T36 l0_1 x16_1).f1) == 1) = true := beq_iff_eq.mpr c17
         have c17b1 : (((rd_T36 l0_1 x16_1).f1) != 1) = false := bne_eq_false_iff_eq.mpr c17
         clear c17
         by_cases c18 : x5_1.length < 140737488355328
         ·rw [if_pos c18] at H
          have LMc18 := M_ c18
          clear c18
          obtain ⟨y108, hy108⟩ : ∃ y_ : List Int, y_ = (x5_1 ++ [1]) := ⟨_, rfl⟩
          replace H : (ternary_First.l0 k1 y108 l0_1 (l0_1.length : Int) (wrap64 (x16_1 + 1))) = some (r1, r2) := by first | (rw [hy108]; with_reducible exact H) | (have H2_ := (Option.bind_some _ _).symm.trans H; rw [hy108]; with_reducible exact H2_) | (have H2_ := (Option.bind_some _ _).symm.trans H; with_reducible exact H2_) | with_reducible exact H | (rw [hy108]; exact H) | exact H
          have Ny108 := M_ hy108
          clear hy108
          have H' := M_ H
          clear H
          have p103 : 0 ≤ (x16_1 : Int) := of_decide_eq_true (by first | (with_reducible assumption) | assumption)
          have q103 : x16_1 < (l0_1.length : Int) := of_decide_eq_true (by first | (with_reducible assumption) | assumption)
          obtain ⟨ad103, e103, hx103_0, hx103_1⟩ := at_T36 HR0_1.out x16_1 p103 q103
          cases e103
          replace hx103_0 := (HB.out.cell (World.block_lt_of_cell? w _ hx103_0)).trans hx103_0
          replace hx103_1 := (HB.out.cell (World.block_lt_of_cell? w _ hx103_1)).trans hx103_1
          replace p103 := eq_true p103
          replace q103 := eq_true q103
          go_wp2_with (first | ((with_reducible refine gate_dst (N := 7) rfl ?_); refine box_event ?hg (N := 7) ?hd (cs := #[.int .i64 0, .int .i64 0]) (t := 36) ?hr ?_; (case hd => rfl); (case hg => rfl); (case hr => first | (go_simp; done) | (go_simp; rfl)); intro gb104 hg w19 hbox hb; have n3_ := M_ (hbox); have n4_ := M_ ((by rw [hg]; exact (below_size (ws_ HB.out)) : w.heap.size ≤ gb104)); have n5_ := M_ ((by rw [hg]; exact (below_size (ws_ HB.out)) : w.heap.size ≤ gb104)); have n6_ := M_ ((by rw [hg]; exact Nat.ne_of_lt (blk_lt (bl_ BK101.out)) : gb101 ≠ gb104)); have n7_ := M_ ((by rw [hg]; exact Nat.ne_of_gt (blk_lt (bl_ BK101.out)) : gb104 ≠ gb101)); replace HO_5 := rb_ HO_5 hb; replace BK101 := bb_ BK101 hb; replace HB := wb_ HB hb; have BK104 := n3_; have GW104 := n4_; have GE104 := n5_; have gi104 : Ge _ _ := ⟨GE104.out⟩; have NB101_104 := n6_; have NB104_101 := n7_; clear n3_ n4_ n5_ n6_ n7_; clear hb hbox hg; have hnb20 := NB104_101.out; have hnc20 := NB101_104.out; obtain ⟨hcz21_0, hcz21_1⟩ := cz2_ BK104.out; have hfz21_0 := blk_frozen BK104.out 0; have hfz21_1 := blk_frozen BK104.out 1) | ((with_reducible refine gate_builtin (b := .append) (xs := #[.tmp 32, .tmp 33]) rfl ?_); at_builtin; refine Kd.R_append (Kd.int .u8) (w0 := w) w.heap.size rfl (.tmp 32) (.tmp 33) 70 5 (.int .u8 0) 1 rfl Try.underlying70 info5 rfl (by decide) (by omega) u5 x5_1 1 [.int .u8 1] (fun _ => True) (fun _ => False) rfl (by first | (go_simp; done) | (go_simp; rfl)) ?aP (fun _ hk => hk.elim) ?aF ?aO ?aB ?aS ?aL ?_; (case aP => exact rfl); (case aB => exact (ws_ HB.out)); (case aF => exact (fun _ _ => trivial)); (case aO => exact (rl_ (Kd.R_mono (Kd.R_far (p := ⟨gb104, 1, none⟩) (Kd.R_far (p := ⟨gb104, 0, none⟩) (Kd.R_types HO_5.out BK104.out (by decide)) (fun _ hk => hk.2) (.int .i64 ((rd_T36 l0_1 x16_1).f0))) (fun _ hk => hk.2) (.int .i64 ((rd_T36 l0_1 x16_1).f1))) (fun _ hk => trivial)))); (case aS => exact (below_size (ws_ HB.out))); (case aL => have := LMc18.out; omega); intro v109 w22 ho hb hg hat; rw [← Ny108.out] at ho; have n0_ := M_ (blk_grown (g := gb101) (o := .cells #[.int .i64 a0_0, .slice (some ad103) l0_1.length c0_1, .slice A0_2 l0_2.length c0_2, .slice A0_3 l0_3.length c0_3, .slice A0_4 l0_4.length c0_4] 26 (0, 0)) (by (with_reducible repeat (first | refine k0_ ?_ _ | refine k1_ ?_ | refine k2_ ?_ _)); refine blk_far ?_ NB101_104.out _; (with_reducible repeat (first | refine k0_ ?_ _ | refine k1_ ?_ | refine k2_ ?_ _)); refine blk_far ?_ NB101_104.out _; (with_reducible repeat (first | refine k0_ ?_ _ | refine k1_ ?_ | refine k2_ ?_ _)); exact BK101.out) hg (Kd.R_ne HO_5.out BK101.out (by decide))); have n1_ := M_ (blk_grown (g := gb104) (o := .cells #[.int .i64 ((rd_T36 l0_1 x16_1).f0), .int .i64 ((rd_T36 l0_1 x16_1).f1)] 36 (0, 0)) (by (with_reducible repeat (first | refine k0_ ?_ _ | refine k1_ ?_ | refine k2_ ?_ _)); refine blk_put (cs := #[.int .i64 ((rd_T36 l0_1 x16_1).f0), .int .i64 0]) ?_ 1 _ rfl; (with_reducible repeat (first | refine k0_ ?_ _ | refine k1_ ?_ | refine k2_ ?_ _)); refine blk_put (cs := #[.int .i64 0, .int .i64 0]) ?_ 0 _ rfl; (with_reducible repeat (first | refine k0_ ?_ _ | refine k1_ ?_ | refine k2_ ?_ _)); exact BK104.out) hg (Kd.R_ne HO_5.out BK104.out (by decide))); have n2_ := M_ (hb); have n3_ := M_ (ho); clear BK101; clear BK104; clear HB; clear HO_5; have BK101 := n0_; have BK104 := n1_; have HB := n2_; have HO110 := n3_; clear n0_ n1_ n2_ n3_; clear ho hb hg hat))
          go_roundg k1
          case measure => have := HK1.out; omega
          case rel => exact ⟨(y108), (wrap64 (x16_1 + 1)), (by first | rfl | (simp; done) | (simp [*]; done)), H', ⟨by have := HK1.out; omega⟩, ⟨by (with_reducible repeat (first | apply a0_ | apply a1_ | apply a2_)); exact HO110.out⟩, ⟨by (with_reducible repeat (first | refine k0_ ?_ _ | refine k1_ ?_ | refine k2_ ?_ _)); exact BK101.out⟩, ⟨by repeat (first | (with_reducible first | exact HB.out | apply b0_ | apply b1_ | apply b2_ | refine below_set ?_ GE101.out | refine below_set ?_ GE104.out) | exact HB.out)⟩⟩
         ·rw [if_neg c18] at H
          exact absurd H (by simp)
        ·rw [if_neg c17] at H
         have c17b0 : (((rd_T36 l0_1 x16_1).f1) == 1) = false := beq_eq_false_iff_ne.mpr c17
         have c17b1 : (((rd_T36 l0_1 x16_1).f1) != 1) = true := bne_iff_ne.mpr c17
         by_cases c23 : x5_1.length < 140737488355328
         ·rw [if_pos c23] at H
          have LMc23 := M_ c23
          clear c23
          obtain ⟨y111, hy111⟩ : ∃ y_ : List Int, y_ = (x5_1 ++ [2]) := ⟨_, rfl⟩
          replace H : (ternary_First.l0 k1 y111 l0_1 (l0_1.length : Int) (wrap64 (x16_1 + 1))) = some (r1, r2) := by first | (rw [hy111]; with_reducible exact H) | (have H2_ := (Option.bind_some _ _).symm.trans H; rw [hy111]; with_reducible exact H2_) | (have H2_ := (Option.bind_some _ _).symm.trans H; with_reducible exact H2_) | with_reducible exact H | (rw [hy111]; exact H) | exact H
          have Ny111 := M_ hy111
          clear hy111
          have H' := M_ H
          clear H
          have p103 : 0 ≤ (x16_1 : Int) := of_decide_eq_true (by first | (with_reducible assumption) | assumption)
          have q103 : x16_1 < (l0_1.length : Int) := of_decide_eq_true (by first | (with_reducible assumption) | assumption)
          obtain ⟨ad103, e103, hx103_0, hx103_1⟩ := at_T36 HR0_1.out x16_1 p103 q103
          cases e103
          replace hx103_0 := (HB.out.cell (World.block_lt_of_cell? w _ hx103_0)).trans hx103_0
          replace hx103_1 := (HB.out.cell (World.block_lt_of_cell? w _ hx103_1)).trans hx103_1
          replace p103 := eq_true p103
          replace q103 := eq_true q103
          go_wp2_with (first | ((with_reducible refine gate_dst (N := 7) rfl ?_); refine box_event ?hg (N := 7) ?hd (cs := #[.int .i64 0, .int .i64 0]) (t := 36) ?hr ?_; (case hd => rfl); (case hg => rfl); (case hr => first | (go_simp; done) | (go_simp; rfl)); intro gb104 hg w24 hbox hb; have n3_ := M_ (hbox); have n4_ := M_ ((by rw [hg]; exact (below_size (ws_ HB.out)) : w.heap.size ≤ gb104)); have n5_ := M_ ((by rw [hg]; exact (below_size (ws_ HB.out)) : w.heap.size ≤ gb104)); have n6_ := M_ ((by rw [hg]; exact Nat.ne_of_lt (blk_lt (bl_ BK101.out)) : gb101 ≠ gb104)); have n7_ := M_ ((by rw [hg]; exact Nat.ne_of_gt (blk_lt (bl_ BK101.out)) : gb104 ≠ gb101)); replace HO_5 := rb_ HO_5 hb; replace BK101 := bb_ BK101 hb; replace HB := wb_ HB hb; have BK104 := n3_; have GW104 := n4_; have GE104 := n5_; have gi104 : Ge _ _ := ⟨GE104.out⟩; have NB101_104 := n6_; have NB104_101 := n7_; clear n3_ n4_ n5_ n6_ n7_; clear hb hbox hg; have hnb25 := NB104_101.out; have hnc25 := NB101_104.out; obtain ⟨hcz26_0, hcz26_1⟩ := cz2_ BK104.out; have hfz26_0 := blk_frozen BK104.out 0; have hfz26_1 := blk_frozen BK104.out 1) | ((with_reducible refine gate_builtin (b := .append) (xs := #[.tmp 22, .tmp 23]) rfl ?_); at_builtin; refine Kd.R_append (Kd.int .u8) (w0 := w) w.heap.size rfl (.tmp 22) (.tmp 23) 70 5 (.int .u8 0) 1 rfl Try.underlying70 info5 rfl (by decide) (by omega) u5 x5_1 2 [.int .u8 2] (fun _ => True) (fun _ => False) rfl (by first | (go_simp; done) | (go_simp; rfl)) ?aP (fun _ hk => hk.elim) ?aF ?aO ?aB ?aS ?aL ?_; (case aP => exact rfl); (case aB => exact (ws_ HB.out)); (case aF => exact (fun _ _ => trivial)); (case aO => exact (rl_ (Kd.R_mono (Kd.R_far (p := ⟨gb104, 1, none⟩) (Kd.R_far (p := ⟨gb104, 0, none⟩) (Kd.R_types HO_5.out BK104.out (by decide)) (fun _ hk => hk.2) (.int .i64 ((rd_T36 l0_1 x16_1).f0))) (fun _ hk => hk.2) (.int .i64 ((rd_T36 l0_1 x16_1).f1))) (fun _ hk => trivial)))); (case aS => exact (below_size (ws_ HB.out))); (case aL => have := LMc23.out; omega); intro v112 w27 ho hb hg hat; rw [← Ny111.out] at ho; have n0_ := M_ (blk_grown (g := gb101) (o := .cells #[.int .i64 a0_0, .slice (some ad103) l0_1.length c0_1, .slice A0_2 l0_2.length c0_2, .slice A0_3 l0_3.length c0_3, .slice A0_4 l0_4.length c0_4] 26 (0, 0)) (by (with_reducible repeat (first | refine k0_ ?_ _ | refine k1_ ?_ | refine k2_ ?_ _)); refine blk_far ?_ NB101_104.out _; (with_reducible repeat (first | refine k0_ ?_ _ | refine k1_ ?_ | refine k2_ ?_ _)); refine blk_far ?_ NB101_104.out _; (with_reducible repeat (first | refine k0_ ?_ _ | refine k1_ ?_ | refine k2_ ?_ _)); exact BK101.out) hg (Kd.R_ne HO_5.out BK101.out (by decide))); have n1_ := M_ (blk_grown (g := gb104) (o := .cells #[.int .i64 ((rd_T36 l0_1 x16_1).f0), .int .i64 ((rd_T36 l0_1 x16_1).f1)] 36 (0, 0)) (by (with_reducible repeat (first | refine k0_ ?_ _ | refine k1_ ?_ | refine k2_ ?_ _)); refine blk_put (cs := #[.int .i64 ((rd_T36 l0_1 x16_1).f0), .int .i64 0]) ?_ 1 _ rfl; (with_reducible repeat (first | refine k0_ ?_ _ | refine k1_ ?_ | refine k2_ ?_ _)); refine blk_put (cs := #[.int .i64 0, .int .i64 0]) ?_ 0 _ rfl; (with_reducible repeat (first | refine k0_ ?_ _ | refine k1_ ?_ | refine k2_ ?_ _)); exact BK104.out) hg (Kd.R_ne HO_5.out BK104.out (by decide))); have n2_ := M_ (hb); have n3_ := M_ (ho); clear BK101; clear BK104; clear HB; clear HO_5; have BK101 := n0_; have BK104 := n1_; have HB := n2_; have HO113 := n3_; clear n0_ n1_ n2_ n3_; clear ho hb hg hat))
          go_roundg k1
          case measure => have := HK1.out; omega
          case rel => exact ⟨(y111), (wrap64 (x16_1 + 1)), (by first | rfl | (simp; done) | (simp [*]; done)), H', ⟨by have := HK1.out; omega⟩, ⟨by (with_reducible repeat (first | apply a0_ | apply a1_ | apply a2_)); exact HO113.out⟩, ⟨by (with_reducible repeat (first | refine k0_ ?_ _ | refine k1_ ?_ | refine k2_ ?_ _)); exact BK101.out⟩, ⟨by repeat (first | (with_reducible first | exact HB.out | apply b0_ | apply b1_ | apply b2_ | refine below_set ?_ GE101.out | refine below_set ?_ GE104.out) | exact HB.out)⟩⟩
         ·rw [if_neg c23] at H
          exact absurd H (by simp)
      ·rw [if_neg c10] at H
       exact absurd H (by simp)
     ·rw [if_neg c9] at H
      exact absurd H (by simp)
    ·rw [if_neg c8] at H
     have c8b0 : decide (x16_1 < (l0_1.length : Int)) = false := decide_eq_false c8
     clear c8
     simp only [Option.some.injEq, Prod.mk.injEq] at H
     obtain ⟨rfl, rfl⟩ := H
     go_wp2
     go_ret2
     exact ⟨_, by first | rfl | (simp [errW_none, errW_some] <;> rfl) | (simp [*, errW_none, errW_some] <;> rfl), by (with_reducible repeat (first | apply a0_ | apply a1_ | apply a2_)); exact HO_5.out, by repeat (first | (with_reducible first | exact HB.out | apply b0_ | apply b1_ | apply b2_ | refine below_set ?_ GE101.out) | exact HB.out)⟩
 ·rw [if_neg c3] at H
  have c3b0 : (t102 == 0) = false := beq_eq_false_iff_ne.mpr c3
  have c3b1 : (t102 != 0) = true := bne_iff_ne.mpr c3
  simp only [Option.some.injEq, Prod.mk.injEq] at H
  obtain ⟨rfl, rfl⟩ := H
  go_enter Try.func32, Try.ntmps32
  go_wp2_with (first | ((with_reducible refine gate_dst (N := 1) rfl ?_); refine box_event ?hg (N := 1) ?hd (cs := #[.int .i64 a0_0, .slice A0_1 l0_1.length c0_1, .slice A0_2 l0_2.length c0_2, .slice A0_3 l0_3.length c0_3, .slice A0_4 l0_4.length c0_4]) (t := 26) ?hr ?_; (case hd => rfl); (case hg => rfl); (case hr => first | (go_simp; done) | (go_simp; rfl)); intro gb101 hg w28 hbox hb; have n1_ := M_ (hbox); have n2_ := M_ ((by rw [hg]; exact (below_size (wl_ HB.out)) : w.heap.size ≤ gb101)); have n3_ := M_ ((by rw [hg]; exact (below_size (wl_ HB.out)) : w.heap.size ≤ gb101)); replace HB := wb_ HB hb; have BK101 := n1_; have GW101 := n2_; have GE101 := n3_; have gi101 : Ge _ _ := ⟨GE101.out⟩; clear n1_ n2_ n3_; clear hb hbox hg; obtain ⟨hcz29_0, hcz29_1, hcz29_2, hcz29_3, hcz29_4⟩ := cz5_ BK101.out; have hfz29_0 := blk_frozen BK101.out 0; have hfz29_1 := blk_frozen BK101.out 1; have hfz29_2 := blk_frozen BK101.out 2; have hfz29_3 := blk_frozen BK101.out 3; have hfz29_4 := blk_frozen BK101.out 4) | ((with_reducible refine gate_callee (f := 59) rfl ?_); refine goesL_ (some 9) rfl rfl Try.func59 (by kernel_rfl) rfl #[.agg #[.int .i64 a0_0, .slice A0_1 l0_1.length c0_1, .slice A0_2 l0_2.length c0_2, .slice A0_3 l0_3.length c0_3, .slice A0_4 l0_4.length c0_4]] rfl (by (try simp only [List.map_toArray, List.map_cons, List.map_nil]); first | done | rfl) ?_; (with_reducible refine (gates_Check.calls a0_0 _ _ l0_1 _ _ l0_2 _ _ l0_3 _ _ l0_4 t102 _ ?side1 ?side2 ?side3 ?side4 ?side5 ?side6 ?side7 ?side8 A2.out).mono ?_); (case side1 => exact cl_ (Kd.C_below HR0_1.out HB.out)); (case side2 => exact HC0_1.out); (case side3 => exact cl_ (Kd.C_below HR0_2.out HB.out)); (case side4 => exact HC0_2.out); (case side5 => exact cl_ (Kd.C_below HR0_3.out HB.out)); (case side6 => exact HC0_3.out); (case side7 => exact cl_ (Kd.C_below HR0_4.out HB.out)); (case side8 => exact HC0_4.out); rintro e w30 ⟨rfl, hb⟩; refine ⟨_, rfl, ?_⟩; replace BK101 := bb_ BK101 hb; replace HB := wb_ HB hb; (try clear hb); (try clear hb2); (try clear hk); (try clear hi)))
  go_ret2
  exact ⟨_, by first | rfl | (simp [errW_none, errW_some] <;> rfl) | (simp [*, errW_none, errW_some] <;> rfl), by first | exact Kd.R_nil _ _ _ _ _ | exact Kd.N_nil _ _ _ _ _ | exact Kd.V_nil _ _ _ _ _ | exact Kd.Q_nil _ _ _ _ _ | exact Kd.S_nil _ _ _ _ _, by repeat (first | (with_reducible first | exact HB.out | apply b0_ | apply b1_ | apply b2_ | refine below_set ?_ GE101.out) | exact HB.out)⟩

def ternary_not.f (a0 : Int) : Option (Int) := if a0 = 2 then (some a0) else (some (Go.bits .xor .u8 a0 1))
set_option maxHeartbeats 8000000 in
set_option maxRecDepth 100000 in
theorem ternary_not.calls (a0 : Int) (r : Int) (w : World) (h : ternary_not.f a0 = some r) :
  Calls Try.prog 106 #[.int .u8 a0] w fun e w' => e = .returned (.int .u8 r) ∧ Drawn0 w w' := by
 have H : (if a0 = 2 then (some a0) else (some (Go.bits .xor .u8 a0 1))) = some r := h
 clear h
 by_cases c2 : a0 = 2
 ·rw [if_pos c2] at H
  have c2b0 : (a0 == 2) = true := beq_iff_eq.mpr c2
  have c2b1 : (a0 != 2) = false := bne_eq_false_iff_eq.mpr c2
  clear c2
  obtain rfl := Option.some.inj H
  go_enter Try.func106, Try.ntmps106
  go_wp2
  go_ret
  exact ⟨by first | rfl | (simp; done) | (simp [*]; done), by repeat (first | exact Drawn0.refl _ | apply Drawn0.step)⟩
 ·rw [if_neg c2] at H
  have c2b0 : (a0 == 2) = false := beq_eq_false_iff_ne.mpr c2
  have c2b1 : (a0 != 2) = true := bne_iff_ne.mpr c2
  obtain rfl := Option.some.inj H
  go_enter Try.func106, Try.ntmps106
  go_wp2
  go_ret
  exact ⟨by first | rfl | (simp; done) | (simp [*]; done), by repeat (first | exact Drawn0.refl _ | apply Drawn0.step)⟩

def ternary_of.f (l0 : List Int) (a1 : Int) : Option (Int) := if (Go.bits .and .i64 a1 1) = 1 then (if 0 ≤ (a1 / 2) then (if (a1 / 2) < (l0.length : Int) then ((ternary_not.f (rd l0 (a1 / 2))).bind fun t115 => (some t115)) else (none)) else (none)) else (if 0 ≤ (a1 / 2) then (if (a1 / 2) < (l0.length : Int) then (some (rd l0 (a1 / 2))) else (none)) else (none))
set_option maxHeartbeats 8000000 in
set_option maxRecDepth 100000 in
theorem ternary_of.calls (A0 : Option Addr) (c0 : Nat) (l0 : List Int) (a1 : Int) (r : Int) (w : World) (hr0 : Kd.C (Kd.int .u8) w A0 l0.length l0) (hc0 : l0.length ≤ c0) (h : ternary_of.f l0 a1 = some r) :
  Calls Try.prog 71 #[.slice A0 l0.length c0, .int .i64 a1] w fun e w' => e = .returned (.int .u8 r) ∧ Drawn0 w w' := by
 have HR0 := M_ hr0
 have HC0 := M_ hc0
 clear hr0 hc0
 have H : (if (Go.bits .and .i64 a1 1) = 1 then (if 0 ≤ (a1 / 2) then (if (a1 / 2) < (l0.length : Int) then ((ternary_not.f (rd l0 (a1 / 2))).bind fun t115 => (some t115)) else (none)) else (none)) else (if 0 ≤ (a1 / 2) then (if (a1 / 2) < (l0.length : Int) then (some (rd l0 (a1 / 2))) else (none)) else (none))) = some r := h
 clear h
 by_cases c3 : (Go.bits .and .i64 a1 1) = 1
 ·rw [if_pos c3] at H
  have c3b0 : ((Go.bits .and .i64 a1 1) == 1) = true := beq_iff_eq.mpr c3
  have c3b1 : ((Go.bits .and .i64 a1 1) != 1) = false := bne_eq_false_iff_eq.mpr c3
  clear c3
  obtain ⟨ji4, hji4⟩ : ∃ j_ : Int, (a1 / 2) = j_ := ⟨_, rfl⟩
  replace H : (if 0 ≤ (ji4) then (if (ji4) < (l0.length : Int) then ((ternary_not.f (rd l0 (ji4))).bind fun t115 => (some t115)) else (none)) else (none)) = some r := by first | (rw [hji4] at H; exact H) | (simp only [hji4] at H ⊢; exact H)
  by_cases c5 : 0 ≤ (ji4)
  ·rw [if_pos c5] at H
   have c5b0 : decide (0 ≤ (ji4)) = true := decide_eq_true c5
   clear c5
   by_cases c6 : (ji4) < (l0.length : Int)
   ·rw [if_pos c6] at H
    have c6b0 : decide ((ji4) < (l0.length : Int)) = true := decide_eq_true c6
    clear c6
    replace H := Option.bind_eq_some_iff.mp H
    obtain ⟨t115, A70, H⟩ := H
    replace H : (some t115) = some r := H
    have A7 := M_ A70
    clear A70
    obtain rfl := Option.some.inj H
    have p114 : 0 ≤ ((ji4) : Int) := of_decide_eq_true (by first | (with_reducible assumption) | assumption)
    have q114 : (ji4) < (l0.length : Int) := of_decide_eq_true (by first | (with_reducible assumption) | assumption)
    obtain ⟨ad114, e114, hx114_0⟩ := Kd.at_int HR0.out (ji4) p114 q114
    cases e114
    replace p114 := eq_true p114
    replace q114 := eq_true q114
    go_enter Try.func71, Try.ntmps71
    go_wp2_with (first | ((with_reducible refine gate_callee (f := 106) rfl ?_); refine goesL_ (some 13) rfl rfl Try.func106 (by kernel_rfl) rfl #[.int .u8 (rd l0 (ji4))] rfl (by (try simp only [List.map_toArray, List.map_cons, List.map_nil]); first | done | (simp only [hji4]; rfl) | rfl | (simp only [List.length_drop, List.length_take]; rfl)) ?_; (with_reducible refine (ternary_not.calls (rd l0 (ji4)) t115 _ A7.out).mono ?_); rintro e w' ⟨rfl, ⟨nd, rfl⟩⟩; refine ⟨_, rfl, ?_⟩))
    go_ret
    exact ⟨by first | rfl | (simp; done) | (simp only [← hji4] <;> (first | rfl | (simp; done))) | (congr 1; symm; assumption) | (simp [*]; done), by repeat (first | exact Drawn0.refl _ | apply Drawn0.step)⟩
   ·rw [if_neg c6] at H
    exact absurd H (by simp)
  ·rw [if_neg c5] at H
   exact absurd H (by simp)
 ·rw [if_neg c3] at H
  have c3b0 : ((Go.bits .and .i64 a1 1) == 1) = false := beq_eq_false_iff_ne.mpr c3
  have c3b1 : ((Go.bits .and .i64 a1 1) != 1) = true := bne_iff_ne.mpr c3
  obtain ⟨ji8, hji8⟩ : ∃ j_ : Int, (a1 / 2) = j_ := ⟨_, rfl⟩
  replace H : (if 0 ≤ (ji8) then (if (ji8) < (l0.length : Int) then (some (rd l0 (ji8))) else (none)) else (none)) = some r := by first | (rw [hji8] at H; exact H) | (simp only [hji8] at H ⊢; exact H)
  by_cases c9 : 0 ≤ (ji8)
  ·rw [if_pos c9] at H
   have c9b0 : decide (0 ≤ (ji8)) = true := decide_eq_true c9
   clear c9
   by_cases c10 : (ji8) < (l0.length : Int)
   ·rw [if_pos c10] at H
    have c10b0 : decide ((ji8) < (l0.length : Int)) = true := decide_eq_true c10
    clear c10
    obtain rfl := Option.some.inj H
    have p116 : 0 ≤ ((ji8) : Int) := of_decide_eq_true (by first | (with_reducible assumption) | assumption)
    have q116 : (ji8) < (l0.length : Int) := of_decide_eq_true (by first | (with_reducible assumption) | assumption)
    obtain ⟨ad116, e116, hx116_0⟩ := Kd.at_int HR0.out (ji8) p116 q116
    cases e116
    replace p116 := eq_true p116
    replace q116 := eq_true q116
    go_enter Try.func71, Try.ntmps71
    go_wp2
    go_ret
    exact ⟨by first | rfl | (simp; done) | (simp only [← hji8] <;> (first | rfl | (simp; done))) | (congr 1; symm; assumption) | (simp [*]; done), by repeat (first | exact Drawn0.refl _ | apply Drawn0.step)⟩
   ·rw [if_neg c10] at H
    exact absurd H (by simp)
  ·rw [if_neg c9] at H
   exact absurd H (by simp)

def teOut (x : Int) : Bool := decide (2 < x)
set_option maxHeartbeats 1000000 in
set_option maxRecDepth 100000 in
theorem teOut_calls (x : Int) (w : World) : Calls Try.prog 111 #[.int .u8 x] w fun e w' => e = .returned (.bool (teOut x)) ∧ Drawn0 w w' := by
 unfold teOut
 go_enter Try.func111, Try.ntmps111
 go_wp2
 go_ret
 exact ⟨rfl, Drawn0.refl _⟩
def idxT {α : Type} (p : α → Bool) (l : List α) : Int := match l.findIdx? p with
 | some i => (i : Int)
 | none => -1
theorem idxT_any {α : Type} (p : α → Bool) (l : List α) : decide (0 ≤ idxT p l) = l.any p := by
 unfold idxT
 cases h : l.findIdx? p with
 | none =>
  rw [List.findIdx?_eq_none_iff] at h
  have : l.any p = false := List.any_eq_false.2 (fun x hx => by simp [h x hx])
  rw [this]; rfl
 | some i =>
  obtain ⟨hi, hp, _⟩ := List.findIdx?_eq_some_iff_getElem.1 h
  have : l.any p = true := List.any_eq_true.2 ⟨_, List.getElem_mem hi, hp⟩
  rw [this]; simp
theorem idxT_none {α : Type} (p : α → Bool) (l : List α) (h : l.any p = false) : idxT p l = -1 := by
 have := idxT_any p l
 rw [h] at this
 unfold idxT at this ⊢
 split
 ·rename_i i hi; rw [hi] at this; simp at this
 ·rfl
theorem idxT_some {α : Type} (p : α → Bool) (l : List α) (d : α) (i : Nat) (hi : i < l.length) (h : (l.take i).any p = false) (hp : p (l.getD i d) = true) : idxT p l = i := by
 have hd : l.getD i d = l[i] := by simp [List.getD, hi]
 have : l.findIdx? p = some i := by
  rw [List.findIdx?_eq_some_iff_getElem]
  refine ⟨hi, by rw [← hd]; exact hp, fun j hj => ?_⟩
  have := List.any_eq_false.1 h l[j] (List.mem_take_iff_getElem.2 ⟨j, by omega, rfl⟩)
  simpa using this
 unfold idxT
 rw [this]
theorem any_takeT_succ {α : Type} (p : α → Bool) (l : List α) (d : α) (i : Nat) (hi : i < l.length) (h : (l.take i).any p = false) (hp : p (l.getD i d) = false) : (l.take (i + 1)).any p = false := by
 have hd : l.getD i d = l[i] := by simp [List.getD, hi]
 have he : p l[i] = false := by rw [← hd]; exact hp
 rw [List.take_succ_eq_append_getElem hi, List.any_append, h]
 simp [he]
set_option maxHeartbeats 2000000 in
set_option maxRecDepth 100000 in
theorem indexBytes_calls (A0 : Option Addr) (c0 : Nat) (l0 : List Int) (w : World) (hr : Kd.C (Kd.int .u8) w A0 l0.length l0) :
  Calls Try.prog 121 #[.slice A0 l0.length c0, .func (.func 111) #[] #[]] w fun e w' => e = .returned (.int .i64 (idxT teOut l0)) ∧ Drawn0 w w' := by
 have HR := M_ hr
 have HN := M_ hr.2.1
 clear hr
 go_enter Try.func121, Try.ntmps121
 go_wp2
 go_loopg [8] (l0.length + 1) (fun kq v8 w' => ∃ (i : Nat), v8 = .int .i64 (i : Int) ∧ Aside0 (i ≤ l0.length ∧ kq + i = l0.length + 1 ∧ (l0.take i).any teOut = false) ∧ Aside0 (Drawn0 w w'))
 case atStart => exact ⟨0, by simp, ⟨by omega, by omega, by simp⟩, ⟨Drawn0.refl _⟩⟩
 case round =>
  obtain ⟨i, rfl, HI, HD⟩ := hrel
  by_cases c : i < l0.length
  ·have cb : decide (i < l0.length) = true := decide_eq_true c
   have p0 : (0 : Int) ≤ (i : Int) := by omega
   have q0 : (i : Int) < (l0.length : Int) := by omega
   obtain ⟨⟨n1, rfl⟩⟩ := HD.out
   obtain ⟨ad, rfl, hx⟩ := Kd.at_int HR.out (i : Int) p0 q0
   have hx' : w.cell? (ad.add i) = some (.int .u8 (rd l0 i)) := hx
   clear hx
   have HL := HN.out
   generalize hv : teOut (rd l0 i) = b
   have HV := M_ hv
   clear hv
   cases b with
   | true =>
    go_wp2_with (go_at_call 111; (with_reducible refine (teOut_calls (rd l0 i) _).mono ?_); rw [HV.out]; rintro e w' ⟨rfl, ⟨nd, rfl⟩⟩)
    go_ret
    exact ⟨by simp [idxT_some teOut l0 0 i c HI.out.2.2 HV.out], ⟨⟨_, rfl⟩⟩⟩
   | false =>
    go_wp2_with (go_at_call 111; (with_reducible refine (teOut_calls (rd l0 i) _).mono ?_); rw [HV.out]; rintro e w' ⟨rfl, ⟨nd, rfl⟩⟩)
    go_roundg (gk - 1)
    case rel => exact ⟨i + 1, by go_num, ⟨by omega, by have := HI.out; omega, any_takeT_succ teOut l0 0 i c HI.out.2.2 HV.out⟩, ⟨⟨⟨_, rfl⟩⟩⟩⟩
    case measure => have := HI.out; omega
  ·have cb : decide (i < l0.length) = false := decide_eq_false c
   obtain ⟨⟨n1, rfl⟩⟩ := HD.out
   go_wp2
   go_ret
   have hz : (l0.take i).any teOut = false := HI.out.2.2
   rw [List.take_of_length_le (by omega)] at hz
   exact ⟨by simp [idxT_none teOut l0 hz], ⟨⟨_, rfl⟩⟩⟩
set_option maxHeartbeats 1000000 in
set_option maxRecDepth 100000 in
theorem containsBytes_calls (A0 : Option Addr) (c0 : Nat) (l0 : List Int) (w : World) (hr : Kd.C (Kd.int .u8) w A0 l0.length l0) :
  Calls Try.prog 110 #[.slice A0 l0.length c0, .func (.func 111) #[] #[]] w fun e w' => e = .returned (.bool (l0.any teOut)) ∧ Drawn0 w w' := by
 have HR := M_ hr
 have HA := M_ (idxT_any teOut l0)
 clear hr
 go_enter Try.func110, Try.ntmps110
 go_wp2_with (go_at_call 121; (with_reducible refine (indexBytes_calls A0 c0 l0 w HR.out).mono ?_); rintro e w' ⟨rfl, ⟨nd, rfl⟩⟩)
 go_ret
 exact ⟨by simp [HA.out], ⟨⟨_, rfl⟩⟩⟩
def ternary_check.f (l0 : List Int) : Option Int := some (if l0.any teOut = true then 8 else 0)
set_option maxHeartbeats 1000000 in
set_option maxRecDepth 100000 in
theorem ternary_check.calls (A0 : Option Addr) (c0 : Nat) (l0 : List Int) (r : Int) (w : World) (hr0 : Kd.C (Kd.int .u8) w A0 l0.length l0) (hc0 : l0.length ≤ c0) (h : ternary_check.f l0 = some r) :
  Calls Try.prog 79 #[.slice A0 l0.length c0] w fun e w' => e = .returned (.int .i64 r) ∧ Drawn0 w w' := by
 have HR := M_ hr0
 replace h := Option.some.inj h
 clear hr0 hc0
 generalize hb : l0.any teOut = b at h
 have HV := M_ hb
 have H := M_ h
 clear hb h
 cases b with
 | true =>
  go_enter Try.func79, Try.ntmps79
  go_wp2_with (go_at_call 110; (with_reducible refine (containsBytes_calls A0 c0 l0 w HR.out).mono ?_); rw [HV.out]; rintro e w' ⟨rfl, ⟨nd, rfl⟩⟩)
  go_ret
  exact ⟨by simp [← H.out], ⟨⟨_, rfl⟩⟩⟩
 | false =>
  go_enter Try.func79, Try.ntmps79
  go_wp2_with (go_at_call 110; (with_reducible refine (containsBytes_calls A0 c0 l0 w HR.out).mono ?_); rw [HV.out]; rintro e w' ⟨rfl, ⟨nd, rfl⟩⟩)
  go_ret
  exact ⟨by simp [← H.out], ⟨⟨_, rfl⟩⟩⟩

end Go.Proofs.Ytmcdanpecajklaa.QTernsimValues
