-- Made by wip/myprint.sh (a patched print): a text of this session's own.
import Derived.Test.YtfppehhhgbkhcaaQValuesNamesx0
namespace Go.Proofs.Ytfppehhhgbkhcaa.QValuesNames
open Go.RowKit Go.Proofs.YtfppehhhgbkhcaaW.PrintWords Go.Proofs.YtfppehhhgbkhcaaW.PrintLast Go.Proofs.YtfppehhhgbkhcaaW.PrintMore
attribute [local go_sem] max2_int min2_int max_two min_two max_three min_three max_four min_four   -- for this text's walks alone
set_option linter.unusedVariables false
set_option linter.unusedSimpArgs false

/-! ### gates_Check: function 40, by hand -/
def st1 (a : Int) : Int := wrap64 (1 + a)
def st2 (a : Int) (m : Nat) : Int := wrap64 (st1 a + m)
def st3 (a : Int) (m n : Nat) : Int := wrap64 (st2 a m + n)
set_option maxHeartbeats 1000000 in
set_option maxRecDepth 100000 in
theorem starts_calls (a0 : Int) (A1 : Option Addr) (n1 c1 : Nat) (A2 : Option Addr) (n2 c2 : Nat) (A3 : Option Addr) (n3 c3 : Nat) (A4 : Option Addr) (n4 c4 : Nat) (w : World) :
    Calls Try.prog 41 #[.agg #[.int .i64 a0, .slice A1 n1 c1, .slice A2 n2 c2, .slice A3 n3 c3, .slice A4 n4 c4]] w fun e w' => e = .returned (.agg #[.int .i64 1, .int .i64 (st1 a0), .int .i64 (st2 a0 n1), .int .i64 (st3 a0 n1 n2)]) ∧ Below w.heap.size w w' := by
  go_enter Try.func41, Try.ntmps41
  go_wp2
  exact bodyPost_ret (v := .agg #[.int .i64 1, .int .i64 (wrap64 (1 + a0)), .int .i64 (wrap64 (wrap64 (1 + a0) + n1)), .int .i64 (wrap64 (wrap64 (wrap64 (1 + a0) + n1) + n2))]) (by simp [results, Try.results41, go_sem]) rfl ⟨rfl, below_alloc (below_alloc (Below.refl _ _) _) _⟩
def outS (s3 l : Int) : Bool := decide (l < 0) || decide (s3 ≤ l / 2)
set_option maxHeartbeats 1000000 in
set_option maxRecDepth 100000 in
theorem outside_calls (x s3 : Int) (B : Nat) (w : World) (h3 : w.cell? ⟨B, 3, none⟩ = some (.int .i64 s3)) :
    Calls Try.prog 48 #[.int .i64 x, .pointer (some ⟨B, 0, none⟩)] w fun e w' => e = .returned (.bool (outS s3 x)) ∧ Drawn0 w w' := by
  unfold outS
  by_cases h : x < 0
  · have hb : decide (x < 0) = true := by simp [h]
    go_enter Try.func48, Try.ntmps48
    go_wp2
    go_ret
    exact ⟨by simp [h], Drawn0.refl _⟩
  · have hb : decide (x < 0) = false := by simp [h]
    have h0 : 0 ≤ x := by omega
    go_enter Try.func48, Try.ntmps48
    go_wp2
    go_ret
    exact ⟨rfl, Drawn0.refl _⟩
def wrongS (s3 : Int) (x : S52) : Bool := outS s3 x.f0 || decide (x.f1 < 0) || decide (2 < x.f1)
set_option maxHeartbeats 1000000 in
set_option maxRecDepth 100000 in
theorem wrong_calls (x : S52) (s3 : Int) (B B2 : Nat) (w : World) (h3 : w.cell? ⟨B, 3, none⟩ = some (.int .i64 s3)) (h4 : w.cell? ⟨B2, 0, none⟩ = some (.func (.func 48) #[] #[.pointer (some ⟨B, 0, none⟩)])) (hB : B < w.heap.size) (hB2 : B2 < w.heap.size) :
    Calls Try.prog 49 #[.agg #[.int .i64 x.f0, .int .i64 x.f1], .pointer (some ⟨B2, 0, none⟩)] w fun e w' => e = .returned (.bool (wrongS s3 x)) ∧ Below w.heap.size w w' := by
  have hne : B ≠ w.heap.size := by omega
  have hne2 : B2 ≠ w.heap.size := by omega
  unfold wrongS
  generalize hx : outS s3 x.f0 = o
  have HX := Aside0.mk hx
  clear hx
  cases o with
  | true =>
    go_enter Try.func49, Try.ntmps49
    go_wp2_with (go_at_call 48; (with_reducible refine (outside_calls x.f0 s3 B _ ?c1).mono ?_); (case c1 => rw [World.cell?_alloc_lt _ _ _ hB]; exact h3); rw [HX.out]; rintro e w' ⟨rfl, ⟨nd, rfl⟩⟩)
    go_ret
    exact ⟨by simp, pw_below_drewN (below_alloc (Below.refl _ _) _) _⟩
  | false =>
    by_cases h : x.f1 < 0
    · have hb : decide (x.f1 < 0) = true := by simp [h]
      go_enter Try.func49, Try.ntmps49
      go_wp2_with (go_at_call 48; (with_reducible refine (outside_calls x.f0 s3 B _ ?c1).mono ?_); (case c1 => rw [World.cell?_alloc_lt _ _ _ hB]; exact h3); rw [HX.out]; rintro e w' ⟨rfl, ⟨nd, rfl⟩⟩)
      go_ret
      exact ⟨by simp [h], pw_below_drewN (below_alloc (Below.refl _ _) _) _⟩
    · have hb : decide (x.f1 < 0) = false := by simp [h]
      have h0 : 0 ≤ x.f1 := by omega
      go_enter Try.func49, Try.ntmps49
      go_wp2_with (go_at_call 48; (with_reducible refine (outside_calls x.f0 s3 B _ ?c1).mono ?_); (case c1 => rw [World.cell?_alloc_lt _ _ _ hB]; exact h3); rw [HX.out]; rintro e w' ⟨rfl, ⟨nd, rfl⟩⟩)
      go_ret
      exact ⟨by simp; omega, pw_below_drewN (below_alloc (Below.refl _ _) _) _⟩
def idxS {α : Type} (p : α → Bool) (l : List α) : Int := match l.findIdx? p with
  | some i => (i : Int)
  | none => -1
theorem idxS_any {α : Type} (p : α → Bool) (l : List α) : decide (0 ≤ idxS p l) = l.any p := by
  unfold idxS
  cases h : l.findIdx? p with
  | none =>
    rw [List.findIdx?_eq_none_iff] at h
    have : l.any p = false := List.any_eq_false.2 (fun x hx => by simp [h x hx])
    rw [this]; rfl
  | some i =>
    obtain ⟨hi, hp, _⟩ := List.findIdx?_eq_some_iff_getElem.1 h
    have : l.any p = true := List.any_eq_true.2 ⟨_, List.getElem_mem hi, hp⟩
    rw [this]; simp
theorem idxS_none {α : Type} (p : α → Bool) (l : List α) (h : l.any p = false) : idxS p l = -1 := by
  have := idxS_any p l
  rw [h] at this
  unfold idxS at this ⊢
  split
  · rename_i i hi; rw [hi] at this; simp at this
  · rfl
theorem idxS_some {α : Type} (p : α → Bool) (l : List α) (d : α) (i : Nat) (hi : i < l.length) (h : (l.take i).any p = false) (hp : p (l.getD i d) = true) : idxS p l = i := by
  have hd : l.getD i d = l[i] := by simp [List.getD, hi]
  have : l.findIdx? p = some i := by
    rw [List.findIdx?_eq_some_iff_getElem]
    refine ⟨hi, by rw [← hd]; exact hp, fun j hj => ?_⟩
    have := List.any_eq_false.1 h l[j] (List.mem_take_iff_getElem.2 ⟨j, by omega, rfl⟩)
    simpa using this
  unfold idxS
  rw [this]
theorem any_take_succ {α : Type} (p : α → Bool) (l : List α) (d : α) (i : Nat) (hi : i < l.length) (h : (l.take i).any p = false) (hp : p (l.getD i d) = false) : (l.take (i + 1)).any p = false := by
  have hd : l.getD i d = l[i] := by simp [List.getD, hi]
  have he : p l[i] = false := by rw [← hd]; exact hp
  rw [List.take_succ_eq_append_getElem hi, List.any_append, h]
  simp [he]
set_option maxHeartbeats 2000000 in
set_option maxRecDepth 100000 in
theorem indexInts_calls (A0 : Option Addr) (c0 : Nat) (l0 : List Int) (p : Int → Bool) (B : Nat) (w : World) (hr : Kd.C (Kd.int .i64) w A0 l0.length l0)
    (hp : ∀ (x : Int) (W : World), Drawn0 w W → Calls Try.prog 48 #[.int .i64 x, .pointer (some ⟨B, 0, none⟩)] W fun e w' => e = .returned (.bool (p x)) ∧ Drawn0 W w') :
    Calls Try.prog 56 #[.slice A0 l0.length c0, .func (.func 48) #[] #[.pointer (some ⟨B, 0, none⟩)]] w fun e w' => e = .returned (.int .i64 (idxS p l0)) ∧ Drawn0 w w' := by
  have HR := Aside0.mk hr
  have HP := Aside0.mk hp
  have HN := Aside0.mk hr.2.1
  clear hr hp
  go_enter Try.func56, Try.ntmps56
  go_wp2
  go_loopg [8] (l0.length + 1) (fun kq v8 w' => ∃ (i : Nat), v8 = .int .i64 (i : Int) ∧ Aside0 (i ≤ l0.length ∧ kq + i = l0.length + 1 ∧ (l0.take i).any p = false) ∧ Aside0 (Drawn0 w w'))
  case atStart => exact ⟨0, by simp, ⟨by omega, by omega, by simp⟩, ⟨Drawn0.refl _⟩⟩
  case round =>
    obtain ⟨i, rfl, HI, HD⟩ := hrel
    by_cases c : i < l0.length
    · have cb : decide (i < l0.length) = true := decide_eq_true c
      have p0 : (0 : Int) ≤ (i : Int) := by omega
      have q0 : (i : Int) < (l0.length : Int) := by omega
      obtain ⟨⟨n1, rfl⟩⟩ := HD.out
      obtain ⟨ad, rfl, hx⟩ := Kd.at_int HR.out (i : Int) p0 q0
      have hx' : w.cell? (ad.add i) = some (.int .i64 (rd l0 i)) := hx
      clear hx
      have HL := HN.out
      generalize hv : p (rd l0 i) = b
      have HV := Aside0.mk hv
      clear hv
      cases b with
      | true =>
        go_wp2_with (go_at_call 48; (with_reducible refine (HP.out (rd l0 i) _ ?c1).mono ?_); (case c1 => exact ⟨⟨n1, rfl⟩⟩); rw [HV.out]; rintro e w' ⟨rfl, ⟨nd, rfl⟩⟩)
        go_ret
        exact ⟨by simp [idxS_some p l0 0 i c HI.out.2.2 HV.out], ⟨⟨_, rfl⟩⟩⟩
      | false =>
        go_wp2_with (go_at_call 48; (with_reducible refine (HP.out (rd l0 i) _ ?c1).mono ?_); (case c1 => exact ⟨⟨n1, rfl⟩⟩); rw [HV.out]; rintro e w' ⟨rfl, ⟨nd, rfl⟩⟩)
        go_roundg (gk - 1)
        case rel => exact ⟨i + 1, by go_num, ⟨by omega, by have := HI.out; omega, any_take_succ p l0 0 i c HI.out.2.2 HV.out⟩, ⟨⟨⟨_, rfl⟩⟩⟩⟩
        case measure => have := HI.out; omega
    · have cb : decide (i < l0.length) = false := decide_eq_false c
      obtain ⟨⟨n1, rfl⟩⟩ := HD.out
      go_wp2
      go_ret
      have hz : (l0.take i).any p = false := HI.out.2.2
      rw [List.take_of_length_le (by omega)] at hz
      exact ⟨by simp [idxS_none p l0 hz], ⟨⟨_, rfl⟩⟩⟩
set_option maxHeartbeats 1000000 in
set_option maxRecDepth 100000 in
theorem containsInts_calls (A0 : Option Addr) (c0 : Nat) (l0 : List Int) (p : Int → Bool) (B : Nat) (w : World) (hr : Kd.C (Kd.int .i64) w A0 l0.length l0)
    (hp : ∀ (x : Int) (W : World), Drawn0 w W → Calls Try.prog 48 #[.int .i64 x, .pointer (some ⟨B, 0, none⟩)] W fun e w' => e = .returned (.bool (p x)) ∧ Drawn0 W w') :
    Calls Try.prog 50 #[.slice A0 l0.length c0, .func (.func 48) #[] #[.pointer (some ⟨B, 0, none⟩)]] w fun e w' => e = .returned (.bool (l0.any p)) ∧ Drawn0 w w' := by
  have HP := Aside0.mk hp
  have HR := Aside0.mk hr
  have HA := Aside0.mk (idxS_any p l0)
  clear hp hr
  go_enter Try.func50, Try.ntmps50
  go_wp2_with (go_at_call 56; (with_reducible refine (indexInts_calls A0 c0 l0 p B w HR.out HP.out).mono ?_); rintro e w' ⟨rfl, ⟨nd, rfl⟩⟩)
  go_ret
  exact ⟨by simp [HA.out], ⟨⟨_, rfl⟩⟩⟩
theorem at_T52n {w : World} {A : Option Addr} {n : Nat} {xs : List S52} (h : Kd.C k52 w A n xs) (i : Nat) (h1 : i < n) : ∃ ad, A = some ad ∧ w.cell? (ad.add (i * 2)) = some (.int .i64 (rd_T52 xs i).f0) ∧ w.cell? ⟨(ad.add (i * 2)).block, (ad.add (i * 2)).off + 1, none⟩ = some (.int .i64 (rd_T52 xs i).f1) := by
  obtain ⟨ad, e, hx, hy⟩ := at_T52 h (i : Int) (by omega) (by omega)
  exact ⟨ad, e, hx, hy⟩
set_option maxHeartbeats 2000000 in
set_option maxRecDepth 100000 in
theorem indexLatches_calls (A0 : Option Addr) (c0 : Nat) (l0 : List S52) (p : S52 → Bool) (B : Nat) (w : World) (hr : Kd.C k52 w A0 l0.length l0)
    (hp : ∀ (x : S52) (W : World), Below w.heap.size w W → Calls Try.prog 49 #[.agg #[.int .i64 x.f0, .int .i64 x.f1], .pointer (some ⟨B, 0, none⟩)] W fun e w' => e = .returned (.bool (p x)) ∧ Below W.heap.size W w') :
    Calls Try.prog 57 #[.slice A0 l0.length c0, .func (.func 49) #[] #[.pointer (some ⟨B, 0, none⟩)]] w fun e w' => e = .returned (.int .i64 (idxS p l0)) ∧ Below w.heap.size w w' := by
  have HR := Aside0.mk hr
  have HP := Aside0.mk hp
  have HN := Aside0.mk hr.2.1
  have hu52 := Try.underlying52
  clear hr hp
  go_enter Try.func57, Try.ntmps57
  go_wp2
  go_loopg [8] (l0.length + 1) (fun kq v8 w' => ∃ (i : Nat), v8 = .int .i64 (i : Int) ∧ Aside0 (i ≤ l0.length ∧ kq + i = l0.length + 1 ∧ (l0.take i).any p = false) ∧ Aside0 (Below w.heap.size w w'))
  case atStart => exact ⟨0, by simp, ⟨by omega, by omega, by simp⟩, ⟨Below.refl _ _⟩⟩
  case round =>
    obtain ⟨i, rfl, HI, HD⟩ := hrel
    by_cases c : i < l0.length
    · have cb : decide (i < l0.length) = true := decide_eq_true c
      have p0 : (0 : Int) ≤ (i : Int) := by omega
      have q0 : (i : Int) < (l0.length : Int) := by omega
      obtain ⟨ad, rfl, hx, hy⟩ := at_T52n (Kd.C_below HR.out HD.out) i c
      have HL := HN.out
      generalize hv : p (rd_T52 l0 i) = b
      have HV := Aside0.mk hv
      clear hv
      cases b with
      | true =>
        go_wp2_with (go_at_call 49; (with_reducible refine (HP.out (rd_T52 l0 i) _ HD.out).mono ?_); rw [HV.out]; rintro e w' ⟨rfl, hb⟩)
        go_ret
        exact ⟨by simp [idxS_some p l0 z52 i c HI.out.2.2 HV.out], below_step HD.out hb⟩
      | false =>
        go_wp2_with (go_at_call 49; (with_reducible refine (HP.out (rd_T52 l0 i) _ HD.out).mono ?_); rw [HV.out]; rintro e w' ⟨rfl, hb⟩; have HB2 := Aside0.mk (below_step HD.out hb); clear hb)
        go_roundg (gk - 1)
        case rel => exact ⟨i + 1, by go_num, ⟨by omega, by have := HI.out; omega, any_take_succ p l0 z52 i c HI.out.2.2 HV.out⟩, HB2⟩
        case measure => have := HI.out; omega
    · have cb : decide (i < l0.length) = false := decide_eq_false c
      go_wp2
      go_ret
      have hz : (l0.take i).any p = false := HI.out.2.2
      rw [List.take_of_length_le (by omega)] at hz
      exact ⟨by simp [idxS_none p l0 hz], HD.out⟩
set_option maxHeartbeats 1000000 in
set_option maxRecDepth 100000 in
theorem containsLatches_calls (A0 : Option Addr) (c0 : Nat) (l0 : List S52) (p : S52 → Bool) (B : Nat) (w : World) (hr : Kd.C k52 w A0 l0.length l0)
    (hp : ∀ (x : S52) (W : World), Below w.heap.size w W → Calls Try.prog 49 #[.agg #[.int .i64 x.f0, .int .i64 x.f1], .pointer (some ⟨B, 0, none⟩)] W fun e w' => e = .returned (.bool (p x)) ∧ Below W.heap.size W w') :
    Calls Try.prog 51 #[.slice A0 l0.length c0, .func (.func 49) #[] #[.pointer (some ⟨B, 0, none⟩)]] w fun e w' => e = .returned (.bool (l0.any p)) ∧ Below w.heap.size w w' := by
  have HP := Aside0.mk hp
  have HR := Aside0.mk hr
  have HA := Aside0.mk (idxS_any p l0)
  clear hp hr
  go_enter Try.func51, Try.ntmps51
  go_wp2_with (go_at_call 57; (with_reducible refine (indexLatches_calls A0 c0 l0 p B w HR.out HP.out).mono ?_); rintro e w' ⟨rfl, hb⟩)
  go_ret
  exact ⟨by simp [HA.out], hb⟩
theorem outP {W : World} {gs : Nat} {a b c : Value} {s3 : Int} (hs : W.heap[gs]? = some (.cells #[a, b, c, .int .i64 s3] 68 (0, 0))) (x : Int) (W' : World) (hd : Drawn0 W W') :
    Calls Try.prog 48 #[.int .i64 x, .pointer (some ⟨gs, 0, none⟩)] W' fun e w' => e = .returned (.bool (outS s3 x)) ∧ Drawn0 W' w' := by
  obtain ⟨⟨n, rfl⟩⟩ := hd
  exact outside_calls x s3 gs _ (blk_cell (blk_drewN hs n) 3)
theorem wrongP {W : World} {gs go : Nat} {a b c : Value} {s3 : Int} (hs : W.heap[gs]? = some (.cells #[a, b, c, .int .i64 s3] 68 (0, 0))) (ho : W.heap[go]? = some (.cells #[.func (.func 48) #[] #[.pointer (some ⟨gs, 0, none⟩)]] 76 (0, 0)))
    (x : S52) (W' : World) (hb : Below W.heap.size W W') :
    Calls Try.prog 49 #[.agg #[.int .i64 x.f0, .int .i64 x.f1], .pointer (some ⟨go, 0, none⟩)] W' fun e w' => e = .returned (.bool (wrongS s3 x)) ∧ Below W'.heap.size W' w' :=
  wrong_calls x s3 gs go W' (blk_cell (blk_below hs hb) 3) (blk_cell (blk_below ho hb) 0) (blk_lt (blk_below hs hb)) (blk_lt (blk_below ho hb))
theorem at_T33n {w : World} {A : Option Addr} {n : Nat} {xs : List S33} (h : Kd.C k33 w A n xs) (i : Nat) (h1 : i < n) : ∃ ad, A = some ad ∧ w.cell? (ad.add (i * 2)) = some (.int .i64 (rd_T33 xs i).f0) ∧ w.cell? ⟨(ad.add (i * 2)).block, (ad.add (i * 2)).off + 1, none⟩ = some (.int .i64 (rd_T33 xs i).f1) := by
  obtain ⟨ad, e, hx, hy⟩ := at_T33 h (i : Int) (by omega) (by omega)
  exact ⟨ad, e, hx, hy⟩
theorem arr3 (x0 x1 x2 x3 : Value) (w : World) : (Instr.index 68 (.agg #[x0, x1, x2, x3]) (.int .i64 3)).run Try.prog w = .ok x3 w := by kernel_rfl
theorem arr2 (x0 x1 x2 x3 : Value) (w : World) : (Instr.index 68 (.agg #[x0, x1, x2, x3]) (.int .i64 2)).run Try.prog w = .ok x2 w := by kernel_rfl
def gateBad (s2 : Int) (i : Nat) (g : S33) : Bool := decide (g.f1 < 0) || decide (g.f0 < g.f1) || decide (wrap64 (2 * wrap64 (s2 + i)) ≤ g.f0)
def gatesBad (s2 : Int) (l : List S33) : Bool := (List.range l.length).any fun i => gateBad s2 i (rd_T33 l i)
def gates_Check.f (a0_0 : Int) (l0_1 : List S52) (l0_2 : List S33) (l0_3 : List Int) (l0_4 : List Int) : Option Int :=
  some (if a0_0 < 0 then 8 else if a0_0 > 1000 then 4 else if wrap64 (st3 a0_0 l0_1.length l0_2.length - 1) > 1000 then 4 else if (if (l0_3.length : Int) < (l0_4.length : Int) then (l0_4.length : Int) else (l0_3.length : Int)) > 100 then 4
    else if l0_3.any (outS (st3 a0_0 l0_1.length l0_2.length)) = true then 8 else if l0_4.any (outS (st3 a0_0 l0_1.length l0_2.length)) = true then 8 else if l0_1.any (wrongS (st3 a0_0 l0_1.length l0_2.length)) = true then 8
    else if gatesBad (st2 a0_0 l0_1.length) l0_2 = true then 8 else 0)
set_option maxHeartbeats 4000000 in
set_option maxRecDepth 100000 in
theorem gates_Check.calls (a0_0 : Int) (A0_1 : Option Addr) (c0_1 : Nat) (l0_1 : List S52) (A0_2 : Option Addr) (c0_2 : Nat) (l0_2 : List S33) (A0_3 : Option Addr) (c0_3 : Nat) (l0_3 : List Int) (A0_4 : Option Addr) (c0_4 : Nat) (l0_4 : List Int) (r : Int) (w : World) (hr0_1 : Kd.C k52 w A0_1 l0_1.length l0_1) (hc0_1 : l0_1.length ≤ c0_1) (hr0_2 : Kd.C k33 w A0_2 l0_2.length l0_2) (hc0_2 : l0_2.length ≤ c0_2) (hr0_3 : Kd.C (Kd.int .i64) w A0_3 l0_3.length l0_3) (hc0_3 : l0_3.length ≤ c0_3) (hr0_4 : Kd.C (Kd.int .i64) w A0_4 l0_4.length l0_4) (hc0_4 : l0_4.length ≤ c0_4) (h : gates_Check.f a0_0 l0_1 l0_2 l0_3 l0_4 = some r) :
    Calls Try.prog 40 #[.agg #[.int .i64 a0_0, .slice A0_1 l0_1.length c0_1, .slice A0_2 l0_2.length c0_2, .slice A0_3 l0_3.length c0_3, .slice A0_4 l0_4.length c0_4]] w fun e w' => e = .returned (.int .i64 r) ∧ Below w.heap.size w w' := by
  have hu26 := Try.underlying26
  have hu33 := Try.underlying33
  have hu68 := Try.underlying68
  have ha3 := arr3
  have HR0_1 := Aside0.mk hr0_1
  have HR0_2 := Aside0.mk hr0_2
  have HR0_3 := Aside0.mk hr0_3
  have HR0_4 := Aside0.mk hr0_4
  clear hr0_1 hr0_2 hr0_3 hr0_4 hc0_1 hc0_2 hc0_3 hc0_4
  unfold gates_Check.f at h
  replace h := Option.some.inj h
  by_cases c1 : a0_0 < 0
  · rw [if_pos c1] at h
    have b1 : decide (a0_0 < 0) = true := decide_eq_true c1
    clear c1
    have H := Aside0.mk h
    clear h
    go_enter Try.func40, Try.ntmps40
    go_wp2
    go_ret
    exact ⟨by simp [← H.out], below_alloc (Below.refl _ _) _⟩
  have b1 : decide (a0_0 < 0) = false := decide_eq_false c1
  rw [if_neg c1] at h
  by_cases c2 : a0_0 > 1000
  · rw [if_pos c2] at h
    have b2 : decide (1000 < a0_0) = true := decide_eq_true c2
    clear c1 c2
    have H := Aside0.mk h
    clear h
    go_enter Try.func40, Try.ntmps40
    go_wp2
    go_ret
    exact ⟨by simp [← H.out], below_alloc (Below.refl _ _) _⟩
  rw [if_neg c2] at h
  have b2 : decide (1000 < a0_0) = false := decide_eq_false c2
  obtain ⟨s3, hs3⟩ : ∃ s, st3 a0_0 l0_1.length l0_2.length = s := ⟨_, rfl⟩
  rw [hs3] at h
  have HS := Aside0.mk hs3
  clear hs3
  by_cases c3 : wrap64 (s3 - 1) > 1000
  · rw [if_pos c3] at h
    have b3 : decide (1000 < wrap64 (s3 - 1)) = true := decide_eq_true c3
    clear c1 c2 c3
    have H := Aside0.mk h
    clear h
    go_enter Try.func40, Try.ntmps40
    go_wp2_with (go_at_call 41; (with_reducible refine (starts_calls a0_0 _ l0_1.length _ _ l0_2.length _ _ l0_3.length _ _ l0_4.length _ _).mono ?_); rw [HS.out]; rintro e w' ⟨rfl, hb⟩; have HB := Aside0.mk (below_step (below_alloc (Below.refl _ _) _) hb); have BK := Aside0.mk (blk_below (blk_new w (.cells #[.int .i64 a0_0, .slice A0_1 l0_1.length c0_1, .slice A0_2 l0_2.length c0_2, .slice A0_3 l0_3.length c0_3, .slice A0_4 l0_4.length c0_4] 26)) hb); have k1 := blk_cell BK.out 1; have k2 := blk_cell BK.out 2; have k3 := blk_cell BK.out 3; have k4 := blk_cell BK.out 4; have k0 := blk_cell BK.out 0; simp only [List.getElem?_toArray, List.getElem?_cons_succ, List.getElem?_cons_zero] at k0 k1 k2 k3 k4; clear hb)
    go_ret
    exact ⟨by simp [← H.out], HB.out⟩
  rw [if_neg c3] at h
  have b3 : decide (1000 < wrap64 (s3 - 1)) = false := decide_eq_false c3
  obtain ⟨m, hm⟩ : ∃ m : Int, (if (l0_3.length : Int) < (l0_4.length : Int) then (l0_4.length : Int) else (l0_3.length : Int)) = m := ⟨_, rfl⟩
  rw [hm] at h
  have hm' : (if l0_3.length < l0_4.length then (l0_4.length : Int) else (l0_3.length : Int)) = m := by rw [← hm]; split <;> split <;> omega
  by_cases c4 : m > 100
  · rw [if_pos c4] at h
    have b4 : decide (100 < m) = true := decide_eq_true c4
    clear c1 c2 c3 c4
    have H := Aside0.mk h
    clear h
    go_enter Try.func40, Try.ntmps40
    go_wp2_with (go_at_call 41; (with_reducible refine (starts_calls a0_0 _ l0_1.length _ _ l0_2.length _ _ l0_3.length _ _ l0_4.length _ _).mono ?_); rw [HS.out]; rintro e w' ⟨rfl, hb⟩; have HB := Aside0.mk (below_step (below_alloc (Below.refl _ _) _) hb); have BK := Aside0.mk (blk_below (blk_new w (.cells #[.int .i64 a0_0, .slice A0_1 l0_1.length c0_1, .slice A0_2 l0_2.length c0_2, .slice A0_3 l0_3.length c0_3, .slice A0_4 l0_4.length c0_4] 26)) hb); have k1 := blk_cell BK.out 1; have k2 := blk_cell BK.out 2; have k3 := blk_cell BK.out 3; have k4 := blk_cell BK.out 4; have k0 := blk_cell BK.out 0; simp only [List.getElem?_toArray, List.getElem?_cons_succ, List.getElem?_cons_zero] at k0 k1 k2 k3 k4; clear hb)
    go_ret
    exact ⟨by simp [← H.out], HB.out⟩
  rw [if_neg c4] at h
  have b4 : decide (100 < m) = false := decide_eq_false c4
  clear c1 c2 c3 c4
  have H := Aside0.mk h
  clear h
  go_enter Try.func40, Try.ntmps40
  go_upto_region 5 with (go_at_call 41; (with_reducible refine (starts_calls a0_0 _ l0_1.length _ _ l0_2.length _ _ l0_3.length _ _ l0_4.length _ _).mono ?_); rw [HS.out]; rintro e w1 ⟨rfl, hb⟩; have HB := Aside0.mk (below_step (below_alloc (Below.refl _ _) _) hb); have BK := Aside0.mk (blk_below (blk_new w (.cells #[.int .i64 a0_0, .slice A0_1 l0_1.length c0_1, .slice A0_2 l0_2.length c0_2, .slice A0_3 l0_3.length c0_3, .slice A0_4 l0_4.length c0_4] 26)) hb); have k1 := blk_cell BK.out 1; have k2 := blk_cell BK.out 2; have k3 := blk_cell BK.out 3; have k4 := blk_cell BK.out 4; have k0 := blk_cell BK.out 0; simp only [List.getElem?_toArray, List.getElem?_cons_succ, List.getElem?_cons_zero] at k0 k1 k2 k3 k4; clear hb)
  go_upto_region 8 with (go_at_call 41; (with_reducible refine (starts_calls a0_0 _ l0_1.length _ _ l0_2.length _ _ l0_3.length _ _ l0_4.length _ _).mono ?_); rw [HS.out]; rintro e w2 ⟨rfl, hb⟩; have HB2 := Aside0.mk (below_step HB.out hb); have BK2 := Aside0.mk (blk_below BK.out hb); clear BK HB k0 k1 k2 k3 k4; have k1 := blk_cell BK2.out 1; have k2 := blk_cell BK2.out 2; have k3 := blk_cell BK2.out 3; have k4 := blk_cell BK2.out 4; have k0 := blk_cell BK2.out 0; simp only [List.getElem?_toArray, List.getElem?_cons_succ, List.getElem?_cons_zero] at k0 k1 k2 k3 k4; clear hb)
  obtain ⟨W, hW⟩ : ∃ W : World, ((w2.alloc (.cells #[.int .i64 1, .int .i64 (st1 a0_0), .int .i64 (st2 a0_0 l0_1.length), .int .i64 s3] 68)).alloc (.cells #[.func (.func 48) #[] #[.pointer (some ⟨w2.heap.size, 0, none⟩)]] 76)) = W := ⟨_, rfl⟩
  have BS : W.heap[w2.heap.size]? = some (.cells #[.int .i64 1, .int .i64 (st1 a0_0), .int .i64 (st2 a0_0 l0_1.length), .int .i64 s3] 68 (0, 0)) := by rw [← hW]; exact blk_alloc (blk_new _ _) _
  have BO : W.heap[w2.heap.size + 1]? = some (.cells #[.func (.func 48) #[] #[.pointer (some ⟨w2.heap.size, 0, none⟩)]] 76 (0, 0)) := by rw [← hW]; exact (by simp : (w2.alloc (.cells #[.int .i64 1, .int .i64 (st1 a0_0), .int .i64 (st2 a0_0 l0_1.length), .int .i64 s3] 68)).heap.size = w2.heap.size + 1) ▸ blk_new _ _
  have HB3 : Aside0 (Below w.heap.size w W) := ⟨by rw [← hW]; exact below_alloc (below_alloc HB2.out _) _⟩
  have BK3 : W.heap[w.heap.size]? = some (.cells #[.int .i64 a0_0, .slice A0_1 l0_1.length c0_1, .slice A0_2 l0_2.length c0_2, .slice A0_3 l0_3.length c0_3, .slice A0_4 l0_4.length c0_4] 26) := by rw [← hW]; exact blk_alloc (blk_alloc BK2.out _) _
  rw [hW]
  clear hW k0 k1 k2 k3 k4 BK2 HB2
  generalize w2.heap.size = gs at BS BO ⊢
  generalize gs + 1 = go at BO ⊢
  have k1 := blk_cell BK3 1
  have k2 := blk_cell BK3 2
  have k3 := blk_cell BK3 3
  have k4 := blk_cell BK3 4
  have q0 := blk_cell BO 0
  simp only [List.getElem?_toArray, List.getElem?_cons_succ, List.getElem?_cons_zero] at k1 k2 k3 k4 q0
  have BS := Aside0.mk BS
  have BO := Aside0.mk BO
  have BK3 := Aside0.mk BK3
  clear w1 w2
  generalize h5 : l0_3.any (outS s3) = y5 at H
  have C5 := Aside0.mk h5
  clear h5
  cases y5 with
  | true =>
    go_wp2_with (go_at_call 50; ((with_reducible refine (containsInts_calls _ _ l0_3 (outS s3) gs _ ?c1 ?c2).mono ?_); (case c1 => exact Kd.C_below HR0_3.out HB3.out); (case c2 => exact outP BS.out); rw [C5.out]; rintro e w' ⟨rfl, ⟨nd, rfl⟩⟩))
    go_ret
    exact ⟨by simp [← H.out], pw_below_drewN HB3.out _⟩
  | false =>
  generalize h6 : l0_4.any (outS s3) = y6 at H
  have C6 := Aside0.mk h6
  clear h6
  cases y6 with
  | true =>
    go_wp2_with (go_at_call 50; (first | ((with_reducible refine (containsInts_calls _ _ l0_3 (outS s3) gs _ ?c1 ?c2).mono ?_); (case c1 => exact Kd.C_below HR0_3.out HB3.out); (case c2 => exact outP BS.out); rw [C5.out]; rintro e w' ⟨rfl, ⟨nd, rfl⟩⟩) | ((with_reducible refine (containsInts_calls _ _ l0_4 (outS s3) gs _ ?c3 ?c4).mono ?_); (case c3 => exact Kd.C_below HR0_4.out (pw_below_drewN HB3.out _)); (case c4 => exact outP (blk_drewN BS.out _)); rw [C6.out]; rintro e w' ⟨rfl, ⟨nd2, rfl⟩⟩)))
    go_ret
    exact ⟨by simp [← H.out], pw_below_drewN HB3.out _⟩
  | false =>
  generalize h7 : l0_1.any (wrongS s3) = y7 at H
  have C7 := Aside0.mk h7
  clear h7
  cases y7 with
  | true =>
    go_wp2_with (first | (go_at_call 50; (first | ((with_reducible refine (containsInts_calls _ _ l0_3 (outS s3) gs _ ?c1 ?c2).mono ?_); (case c1 => exact Kd.C_below HR0_3.out HB3.out); (case c2 => exact outP BS.out); rw [C5.out]; rintro e w' ⟨rfl, ⟨nd, rfl⟩⟩) | ((with_reducible refine (containsInts_calls _ _ l0_4 (outS s3) gs _ ?c3 ?c4).mono ?_); (case c3 => exact Kd.C_below HR0_4.out (pw_below_drewN HB3.out _)); (case c4 => exact outP (blk_drewN BS.out _)); rw [C6.out]; rintro e w' ⟨rfl, ⟨nd2, rfl⟩⟩))) | (go_at_call 51; (with_reducible refine (containsLatches_calls _ _ l0_1 (wrongS s3) go _ ?c5 ?c6).mono ?_); (case c5 => exact Kd.C_below HR0_1.out (pw_below_drewN HB3.out _)); (case c6 => exact wrongP (blk_drewN BS.out _) (blk_drewN BO.out _)); rw [C7.out]; rintro e w7 ⟨rfl, hb⟩; have HB7 := Aside0.mk (below_step (pw_below_drewN HB3.out _) hb); have BS7 := Aside0.mk (blk_below (blk_drewN BS.out _) hb); have j2 := blk_cell (blk_below (blk_drewN BK3.out _) hb) 2; simp only [List.getElem?_toArray, List.getElem?_cons_succ, List.getElem?_cons_zero] at j2; clear hb))
    go_ret
    exact ⟨by simp [← H.out], HB7.out⟩
  | false =>
    go_upto_region 10 with (first | (go_at_call 50; (first | ((with_reducible refine (containsInts_calls _ _ l0_3 (outS s3) gs _ ?c1 ?c2).mono ?_); (case c1 => exact Kd.C_below HR0_3.out HB3.out); (case c2 => exact outP BS.out); rw [C5.out]; rintro e w' ⟨rfl, ⟨nd, rfl⟩⟩) | ((with_reducible refine (containsInts_calls _ _ l0_4 (outS s3) gs _ ?c3 ?c4).mono ?_); (case c3 => exact Kd.C_below HR0_4.out (pw_below_drewN HB3.out _)); (case c4 => exact outP (blk_drewN BS.out _)); rw [C6.out]; rintro e w' ⟨rfl, ⟨nd2, rfl⟩⟩))) | (go_at_call 51; (with_reducible refine (containsLatches_calls _ _ l0_1 (wrongS s3) go _ ?c5 ?c6).mono ?_); (case c5 => exact Kd.C_below HR0_1.out (pw_below_drewN HB3.out _)); (case c6 => exact wrongP (blk_drewN BS.out _) (blk_drewN BO.out _)); rw [C7.out]; rintro e w7 ⟨rfl, hb⟩; have HB7 := Aside0.mk (below_step (pw_below_drewN HB3.out _) hb); have BS7 := Aside0.mk (blk_below (blk_drewN BS.out _) hb); have j2 := blk_cell (blk_below (blk_drewN BK3.out _) hb) 2; simp only [List.getElem?_toArray, List.getElem?_cons_succ, List.getElem?_cons_zero] at j2; clear hb))
    clear k1 k2 k3 k4 q0
    have H8 : (if gatesBad (st2 a0_0 l0_1.length) l0_2 = true then (8 : Int) else 0) = r := H.out
    have H := Aside0.mk H8
    clear H8
    have HN := HR0_2.out.2.1
    go_wp2
    go_loopg [54] (l0_2.length + 1) (fun kq v54 w' => ∃ (i : Nat), v54 = .int .i64 (i : Int) ∧ Aside0 (i ≤ l0_2.length ∧ kq + i = l0_2.length + 1 ∧ ((List.range i).any fun q => gateBad (st2 a0_0 l0_1.length) q (rd_T33 l0_2 q)) = false) ∧ Aside0 (Below w.heap.size w w') ∧ Aside0 (w'.heap[gs]? = some (.cells #[.int .i64 1, .int .i64 (st1 a0_0), .int .i64 (st2 a0_0 l0_1.length), .int .i64 s3] 68 (0, 0))))
    case atStart => exact ⟨0, by simp, ⟨by omega, by omega, by simp⟩, HB7, BS7⟩
    case round =>
      clear HB7 BS7 j2
      obtain ⟨i, rfl, HI, HB7, BS7⟩ := hrel
      by_cases c : i < l0_2.length
      · have cb : decide (i < l0_2.length) = true := decide_eq_true c
        obtain ⟨ad, rfl, hx, hy⟩ := at_T33n (Kd.C_below HR0_2.out HB7.out) i c
        have z2 := blk_cell BS7.out 2
        simp only [List.getElem?_toArray, List.getElem?_cons_succ, List.getElem?_cons_zero] at z2
        have hgs := blk_lt BS7.out
        have hne := Nat.ne_of_lt hgs
        by_cases d1 : (rd_T33 l0_2 i).f1 < 0
        · have e1 : decide ((rd_T33 l0_2 i).f1 < 0) = true := decide_eq_true d1
          have HG : gatesBad (st2 a0_0 l0_1.length) l0_2 = true := List.any_eq_true.2 ⟨i, List.mem_range.2 c, by simp [gateBad, d1]⟩
          have H9 : 8 = r := by have := H.out; rw [if_pos HG] at this; exact this
          have H9 := Aside0.mk H9
          clear HG H d1
          go_wp2
          go_ret
          exact ⟨by simp [← H9.out], below_alloc HB7.out _⟩
        have e1 : decide ((rd_T33 l0_2 i).f1 < 0) = false := decide_eq_false d1
        by_cases d2 : (rd_T33 l0_2 i).f0 < (rd_T33 l0_2 i).f1
        · have e2 : decide ((rd_T33 l0_2 i).f0 < (rd_T33 l0_2 i).f1) = true := decide_eq_true d2
          have HG : gatesBad (st2 a0_0 l0_1.length) l0_2 = true := List.any_eq_true.2 ⟨i, List.mem_range.2 c, by simp [gateBad, d2]⟩
          have H9 : 8 = r := by have := H.out; rw [if_pos HG] at this; exact this
          have H9 := Aside0.mk H9
          clear HG H d1 d2
          go_wp2
          go_ret
          exact ⟨by simp [← H9.out], below_alloc HB7.out _⟩
        have e2 : decide ((rd_T33 l0_2 i).f0 < (rd_T33 l0_2 i).f1) = false := decide_eq_false d2
        by_cases d3 : wrap64 (2 * wrap64 (st2 a0_0 l0_1.length + i)) ≤ (rd_T33 l0_2 i).f0
        · have e3 : decide (wrap64 (2 * wrap64 (st2 a0_0 l0_1.length + i)) ≤ (rd_T33 l0_2 i).f0) = true := decide_eq_true d3
          have HG : gatesBad (st2 a0_0 l0_1.length) l0_2 = true := List.any_eq_true.2 ⟨i, List.mem_range.2 c, by simp [gateBad, d3]⟩
          have H9 : 8 = r := by have := H.out; rw [if_pos HG] at this; exact this
          have H9 := Aside0.mk H9
          clear HG H d1 d2 d3
          go_wp2
          go_ret
          exact ⟨by simp [← H9.out], below_alloc HB7.out _⟩
        have e3 : decide (wrap64 (2 * wrap64 (st2 a0_0 l0_1.length + i)) ≤ (rd_T33 l0_2 i).f0) = false := decide_eq_false d3
        have HI2 : Aside0 (((List.range (i + 1)).any fun q => gateBad (st2 a0_0 l0_1.length) q (rd_T33 l0_2 q)) = false) := ⟨by
          rw [List.range_succ, List.any_append, HI.out.2.2]
          simp only [List.any_cons, List.any_nil, Bool.or_false, Bool.false_or, gateBad, e1, e2, e3]⟩
        clear d1 d2 d3
        go_wp2
        go_roundg (gk - 1)
        case rel => exact ⟨i + 1, by go_num, ⟨by omega, by have := HI.out; omega, HI2.out⟩, ⟨below_alloc HB7.out _⟩, ⟨blk_alloc BS7.out _⟩⟩
        case measure => have := HI.out; omega
      · have cb : decide (i < l0_2.length) = false := decide_eq_false c
        go_wp2
        go_ret
        have hz := HI.out.2.2
        have hl := HI.out.1
        have he : i = l0_2.length := by omega
        subst he
        have H9 := H.out
        rw [if_neg (show ¬ gatesBad (st2 a0_0 l0_1.length) l0_2 = true by unfold gatesBad; rw [hz]; decide)] at H9
        exact ⟨by simp [← H9], HB7.out⟩

/-! ### gates_Vars: function 25, by hand -/
def gates_Vars.f (a0_0 : Int) (l0_1 : List S52) (l0_2 : List S33) (l0_3 : List Int) (l0_4 : List Int) : Option (Int × Int) :=
  (gates_Check.f a0_0 l0_1 l0_2 l0_3 l0_4).bind fun e => if e = 0 then some (wrap64 (st3 a0_0 l0_1.length l0_2.length - 1), 0) else some (0, e)
set_option maxHeartbeats 4000000 in
set_option maxRecDepth 100000 in
theorem gates_Vars.calls (a0_0 : Int) (A0_1 : Option Addr) (c0_1 : Nat) (l0_1 : List S52) (A0_2 : Option Addr) (c0_2 : Nat) (l0_2 : List S33) (A0_3 : Option Addr) (c0_3 : Nat) (l0_3 : List Int) (A0_4 : Option Addr) (c0_4 : Nat) (l0_4 : List Int) (r1 r2 : Int) (w : World) (hr0_1 : Kd.C k52 w A0_1 l0_1.length l0_1) (hc0_1 : l0_1.length ≤ c0_1) (hr0_2 : Kd.C k33 w A0_2 l0_2.length l0_2) (hc0_2 : l0_2.length ≤ c0_2) (hr0_3 : Kd.C (Kd.int .i64) w A0_3 l0_3.length l0_3) (hc0_3 : l0_3.length ≤ c0_3) (hr0_4 : Kd.C (Kd.int .i64) w A0_4 l0_4.length l0_4) (hc0_4 : l0_4.length ≤ c0_4) (h : gates_Vars.f a0_0 l0_1 l0_2 l0_3 l0_4 = some (r1, r2)) :
    Calls Try.prog 25 #[.agg #[.int .i64 a0_0, .slice A0_1 l0_1.length c0_1, .slice A0_2 l0_2.length c0_2, .slice A0_3 l0_3.length c0_3, .slice A0_4 l0_4.length c0_4]] w fun e w' => e = .returned (.tuple #[.int .i64 r1, .int .i64 r2]) ∧ Below w.heap.size w w' := by
  have hu26 := Try.underlying26
  have hu33 := Try.underlying33
  have hu68 := Try.underlying68
  have ha3 := arr3
  have HR0_1 := Aside0.mk hr0_1
  have HR0_2 := Aside0.mk hr0_2
  have HR0_3 := Aside0.mk hr0_3
  have HR0_4 := Aside0.mk hr0_4
  have HC0_1 := Aside0.mk hc0_1
  have HC0_2 := Aside0.mk hc0_2
  have HC0_3 := Aside0.mk hc0_3
  have HC0_4 := Aside0.mk hc0_4
  clear hr0_1 hr0_2 hr0_3 hr0_4 hc0_1 hc0_2 hc0_3 hc0_4
  unfold gates_Vars.f at h
  obtain ⟨e0, he, h⟩ := Option.bind_eq_some_iff.mp h
  have HE := Aside0.mk he
  clear he
  by_cases c : e0 = 0
  · rw [if_pos c] at h
    simp only [Option.some.injEq, Prod.mk.injEq] at h
    obtain ⟨rfl, rfl⟩ := h
    have b : (e0 != 0) = false := bne_eq_false_iff_eq.mpr c
    clear c
    go_enter Try.func25, Try.ntmps25
    go_wp2_with (first | (go_at_call 40; (with_reducible refine (gates_Check.calls a0_0 _ _ l0_1 _ _ l0_2 _ _ l0_3 _ _ l0_4 e0 _ ?s1 ?s2 ?s3 ?s4 ?s5 ?s6 ?s7 ?s8 HE.out).mono ?_); (case s1 => exact Kd.C_below HR0_1.out (below_alloc (Below.refl _ _) _)); (case s2 => exact HC0_1.out); (case s3 => exact Kd.C_below HR0_2.out (below_alloc (Below.refl _ _) _)); (case s4 => exact HC0_2.out); (case s5 => exact Kd.C_below HR0_3.out (below_alloc (Below.refl _ _) _)); (case s6 => exact HC0_3.out); (case s7 => exact Kd.C_below HR0_4.out (below_alloc (Below.refl _ _) _)); (case s8 => exact HC0_4.out); rintro e w1 ⟨rfl, hb⟩; have HB := Aside0.mk (below_step (below_alloc (Below.refl _ _) _) hb); have BK := Aside0.mk (blk_below (blk_new w (.cells #[.int .i64 a0_0, .slice A0_1 l0_1.length c0_1, .slice A0_2 l0_2.length c0_2, .slice A0_3 l0_3.length c0_3, .slice A0_4 l0_4.length c0_4] 26)) hb); have k1 := blk_cell BK.out 1; have k2 := blk_cell BK.out 2; have k3 := blk_cell BK.out 3; have k4 := blk_cell BK.out 4; have k0 := blk_cell BK.out 0; simp only [List.getElem?_toArray, List.getElem?_cons_succ, List.getElem?_cons_zero] at k0 k1 k2 k3 k4; clear hb) | (go_at_call 41; (with_reducible refine (starts_calls a0_0 _ l0_1.length _ _ l0_2.length _ _ l0_3.length _ _ l0_4.length _ _).mono ?_); rintro e w2 ⟨rfl, hb⟩; have HB2 := Aside0.mk (below_step HB.out hb); clear hb))
    go_ret2
    exact ⟨by simp, HB2.out⟩
  · rw [if_neg c] at h
    simp only [Option.some.injEq, Prod.mk.injEq] at h
    obtain ⟨rfl, rfl⟩ := h
    have b : (e0 != 0) = true := bne_iff_ne.mpr c
    clear c
    go_enter Try.func25, Try.ntmps25
    go_wp2_with (first | (go_at_call 40; (with_reducible refine (gates_Check.calls a0_0 _ _ l0_1 _ _ l0_2 _ _ l0_3 _ _ l0_4 e0 _ ?s1 ?s2 ?s3 ?s4 ?s5 ?s6 ?s7 ?s8 HE.out).mono ?_); (case s1 => exact Kd.C_below HR0_1.out (below_alloc (Below.refl _ _) _)); (case s2 => exact HC0_1.out); (case s3 => exact Kd.C_below HR0_2.out (below_alloc (Below.refl _ _) _)); (case s4 => exact HC0_2.out); (case s5 => exact Kd.C_below HR0_3.out (below_alloc (Below.refl _ _) _)); (case s6 => exact HC0_3.out); (case s7 => exact Kd.C_below HR0_4.out (below_alloc (Below.refl _ _) _)); (case s8 => exact HC0_4.out); rintro e w1 ⟨rfl, hb⟩; have HB := Aside0.mk (below_step (below_alloc (Below.refl _ _) _) hb); have BK := Aside0.mk (blk_below (blk_new w (.cells #[.int .i64 a0_0, .slice A0_1 l0_1.length c0_1, .slice A0_2 l0_2.length c0_2, .slice A0_3 l0_3.length c0_3, .slice A0_4 l0_4.length c0_4] 26)) hb); have k1 := blk_cell BK.out 1; have k2 := blk_cell BK.out 2; have k3 := blk_cell BK.out 3; have k4 := blk_cell BK.out 4; have k0 := blk_cell BK.out 0; simp only [List.getElem?_toArray, List.getElem?_cons_succ, List.getElem?_cons_zero] at k0 k1 k2 k3 k4; clear hb) | (go_at_call 41; (with_reducible refine (starts_calls a0_0 _ l0_1.length _ _ l0_2.length _ _ l0_3.length _ _ l0_4.length _ _).mono ?_); rintro e w2 ⟨rfl, hb⟩; have HB2 := Aside0.mk (below_step HB.out hb); clear hb))
    go_ret2
    exact ⟨by simp, HB.out⟩

/-! ### values_of: function 29 -/
def values_of.f (l0 : List Bool) (a1 : Int) : Option (Bool) := if 0 ≤ (a1 / 2) then (if (a1 / 2) < (l0.length : Int) then (some ((rdOf false l0 (a1 / 2)) != ((Go.bits .and .i64 a1 1) == 1))) else (none)) else (none)
set_option maxHeartbeats 8000000 in
set_option maxRecDepth 100000 in
theorem values_of.calls (A0 : Option Addr) (c0 : Nat) (l0 : List Bool) (a1 : Int) (r : Bool) (w : World) (hr0 : Kd.C Kd.bool w A0 l0.length l0) (hc0 : l0.length ≤ c0) (h : values_of.f l0 a1 = some r) :
    Calls Try.prog 29 #[.slice A0 l0.length c0, .int .i64 a1] w fun e w' => e = .returned (.bool r) ∧ Drawn0 w w' := by
  have HR0 := Aside0.mk hr0
  have HC0 := Aside0.mk hc0
  clear hr0 hc0
  have H : (if 0 ≤ (a1 / 2) then (if (a1 / 2) < (l0.length : Int) then (some ((rdOf false l0 (a1 / 2)) != ((Go.bits .and .i64 a1 1) == 1))) else (none)) else (none)) = some r := h
  clear h
  obtain ⟨ji3, hji3⟩ : ∃ j_ : Int, (a1 / 2) = j_ := ⟨_, rfl⟩
  replace H : (if 0 ≤ (ji3) then (if (ji3) < (l0.length : Int) then (some ((rdOf false l0 (ji3)) != ((Go.bits .and .i64 a1 1) == 1))) else (none)) else (none)) = some r := by first | (rw [hji3] at H; exact H) | (simp only [hji3] at H ⊢; exact H)
  by_cases c4 : 0 ≤ (ji3)
  · rw [if_pos c4] at H
    have c4b0 : decide (0 ≤ (ji3)) = true := decide_eq_true c4
    clear c4
    by_cases c5 : (ji3) < (l0.length : Int)
    · rw [if_pos c5] at H
      have c5b0 : decide ((ji3) < (l0.length : Int)) = true := decide_eq_true c5
      clear c5
      obtain rfl := Option.some.inj H
      have p101 : 0 ≤ ((ji3) : Int) := of_decide_eq_true (by first | (with_reducible assumption) | assumption)
      have q101 : (ji3) < (l0.length : Int) := of_decide_eq_true (by first | (with_reducible assumption) | assumption)
      obtain ⟨ad101, e101, hx101_0⟩ := Kd.at_bool HR0.out (ji3) p101 q101
      cases e101
      replace p101 := eq_true p101
      replace q101 := eq_true q101
      go_enter Try.func29, Try.ntmps29
      go_wp2
      go_ret
      exact ⟨by first | rfl | (simp; done) | (simp only [← hji3] <;> (first | rfl | (simp; done))) | (congr 1; symm; assumption) | (simp [*]; done), by repeat (first | exact Drawn0.refl _ | apply Drawn0.step)⟩
    · rw [if_neg c5] at H
      exact absurd H (by simp)
  · rw [if_neg c4] at H
    exact absurd H (by simp)

/-! ### values_All: function 13, by hand -/
theorem madeB (n : Nat) : madeCells #[Value.bool false] n = (encs Value.bool (List.replicate n false)).toArray := by
  apply Array.ext
  · simp [madeCells, encs]
  · intro i h1 h2
    simp only [madeCells, encs, Array.getElem_map, List.getElem_toArray, List.getElem_map, List.getElem_replicate]
    simp [Nat.mod_one]
theorem infoB : (Try.prog.info? 4).map (fun i => (i.zero, i.size, i.bytes)) = some (some (.bool false), 1, 1) := by kernel_rfl
theorem srcB {w : World} {A : Option Addr} {xs : List Bool} (h : Kd.C Kd.bool w A xs.length xs) (hn : 0 < xs.length) : ∃ ad, A = some ad ∧ ∀ j v, (encs Value.bool xs)[j]? = some v → w.cell? (ad.add j) = some v := by
  obtain ⟨ad, e, _⟩ := Kd.at_bool h (0 : Int) (by omega) (by omega)
  refine ⟨ad, e, fun j v hv => ?_⟩
  have hj : j < xs.length := by
    have := List.getElem?_eq_some_iff.1 hv
    obtain ⟨h1, _⟩ := this
    simpa [encs] using h1
  obtain ⟨ad', e', hx⟩ := Kd.at_bool h (j : Int) (by omega) (by omega)
  rw [e] at e'
  obtain rfl := Option.some.inj e'
  have : v = .bool (rdOf false xs (j : Int)) := by
    have := hv
    simp [encs, hj] at this
    rw [← this]
    simp [rdOf, hj]
  rw [this]
  exact hx
theorem encs_splice (Z X : List Bool) (off : Nat) : splice (encs Value.bool Z) off (encs Value.bool X) = encs Value.bool (splice Z off X) := by
  simp [splice, encs, List.map_take, List.map_drop]
theorem encs_one (X : List Bool) : ∀ v ∈ encs Value.bool X, v.oneCell' = true := by
  intro v hv
  simp [encs] at hv
  rcases hv with ⟨_, h⟩ | ⟨_, h⟩ <;> (rw [← h]; rfl)
theorem C_row {w : World} {g : Nat} {cur : List Bool} (h : w.heap[g]? = some (.cells (encs Value.bool cur).toArray 4 (0, 0))) (hl : cur.length ≤ 2000000) : Kd.C Kd.bool w (some ⟨g, 0, none⟩) cur.length cur := by
  have : Kd.R Kd.bool 4 w 0 (fun _ => True) (.slice (some ⟨g, 0, none⟩) cur.length cur.length) cur := by
    refine Kd.R_of_own (h1 := fun _ => rfl) ?_ (fun _ _ => trivial)
    refine ⟨by simp [encs], Or.inr ⟨g, cur.length, _, rfl, Nat.zero_le _, h, Nat.le_refl _, by unfold maxLen; omega, by simp [encs], ?_⟩⟩
    simp only [encs, Nat.mul_one]
    exact List.take_of_length_le (by simp)
  obtain ⟨A, c, e, _, hC⟩ := Kd.R_reads this
  injection e with e1 e2 e3
  subst e1
  exact hC

theorem encs_splice_len (Z X : List Bool) (off : Nat) (h : off + X.length ≤ Z.length) : (encs Value.bool (splice Z off X)).length = Z.length := by
  simp only [encs, List.length_map]
  exact length_splice Z off X h
theorem rowV (a b : List Bool) (m n : Nat) (h : n = b.length + a.length + m) : splice (splice (List.replicate (n + 1) false) 1 b) (1 + b.length) a = false :: (b ++ (a ++ List.replicate m false)) := by
  subst h
  have e1 : splice (List.replicate (b.length + a.length + m + 1) false) 1 b = (false :: b) ++ List.replicate (a.length + m) false := by
    simp only [splice, List.take_replicate, List.drop_replicate]
    rw [show min 1 (b.length + a.length + m + 1) = 1 by omega, show b.length + a.length + m + 1 - (1 + b.length) = a.length + m by omega]
    simp
  rw [e1]
  have hl : (false :: b).length = 1 + b.length := by simp; omega
  simp only [splice]
  rw [List.take_append_of_le_length (by omega), List.take_of_length_le (by omega), List.drop_append, List.drop_of_length_le (by omega), hl, List.drop_replicate, show a.length + m - (1 + b.length + a.length - (1 + b.length)) = m by omega]
  simp
theorem rowV' {w : World} {g : Nat} {a b : List Bool} {m n : Nat} (h : w.heap[g]? = some (.cells (splice (encs Value.bool (splice (List.replicate (n + 1) false) 1 b)) (1 + b.length) (encs Value.bool a)).toArray 4 (0, 0))) (hn : n = b.length + a.length + m) : w.heap[g]? = some (.cells (encs Value.bool (false :: (b ++ (a ++ List.replicate m false)))).toArray 4 (0, 0)) := by
  rw [encs_splice, rowV a b m n hn] at h
  exact h
theorem of_calls (n : Nat) (A0 : Option Addr) (l0 : List Bool) (a1 : Int) (r : Bool) (w : World) (hn : l0.length = n) (hr0 : Kd.C Kd.bool w A0 l0.length l0) (h : values_of.f l0 a1 = some r) :
    Calls Try.prog 29 #[.slice A0 n n, .int .i64 a1] w fun e w' => e = .returned (.bool r) ∧ Drawn0 w w' := by
  subst hn
  exact values_of.calls A0 _ l0 a1 r w hr0 (Nat.le_refl _) h
theorem encs_at (cur : List Bool) (G : Nat) (h : G < cur.length) : (encs Value.bool cur).toArray[G]? = some (.bool (cur.getD G false)) := by
  simp [encs, List.getD, h]
theorem encs_set (cur : List Bool) (G : Nat) (y : Bool) : (encs Value.bool cur).toArray.setIfInBounds G (.bool y) = (encs Value.bool (cur.set G y)).toArray := by
  simp [encs, List.map_set]
theorem blk_lt_le {w : World} {g : Nat} {o : Obj} (h : w.heap[g]? = some o) : g ≤ w.heap.size := Nat.le_of_lt (blk_lt h)
theorem R_row {w : World} {g base : Nat} {cur : List Bool} (h : w.heap[g]? = some (.cells (encs Value.bool cur).toArray 4 (0, 0))) (hl : cur.length ≤ 2000000) (hb : base ≤ g) : Kd.R Kd.bool 4 w base (fun _ => True) (.slice (some ⟨g, 0, none⟩) cur.length cur.length) cur := by
  refine Kd.R_of_own (h1 := fun _ => rfl) ?_ (fun _ _ => trivial)
  refine ⟨by simp [encs], Or.inr ⟨g, cur.length, _, rfl, hb, h, Nat.le_refl _, by unfold maxLen; omega, by simp [encs], ?_⟩⟩
  simp only [encs, Nat.mul_one]
  exact List.take_of_length_le (by simp)
def gatesV : List Bool → Nat → List S33 → Option (List Bool)
  | cur, _, [] => some cur
  | cur, i, g :: gs => (values_of.f cur g.f0).bind fun x => (if x = true then values_of.f cur g.f1 else some false).bind fun y => gatesV (cur.set i y) (i + 1) gs
def values_All.f (a0_0 : Int) (l0_1 : List S52) (l0_2 : List S33) (l0_3 : List Int) (l0_4 : List Int) (l1 l2 : List Bool) : Option (List Bool × Int) :=
  (gates_Vars.f a0_0 l0_1 l0_2 l0_3 l0_4).bind fun p => if p.2 = 0 then (if l1.length = l0_1.length ∧ (l2.length : Int) = a0_0 then
    (if p.1 = ((l2.length + l1.length + l0_2.length : Nat) : Int) ∧ l2.length + l1.length + l0_2.length ≤ 1000000 then (gatesV (false :: (l2 ++ (l1 ++ List.replicate l0_2.length false))) (1 + l2.length + l1.length) l0_2).bind fun r => some (r, 0) else none) else some ([], 2)) else some ([], p.2)
set_option maxHeartbeats 4000000 in
set_option maxRecDepth 100000 in
theorem values_All.calls (a0_0 : Int) (A0_1 : Option Addr) (c0_1 : Nat) (l0_1 : List S52) (A0_2 : Option Addr) (c0_2 : Nat) (l0_2 : List S33) (A0_3 : Option Addr) (c0_3 : Nat) (l0_3 : List Int) (A0_4 : Option Addr) (c0_4 : Nat) (l0_4 : List Int) (A1 : Option Addr) (c1 : Nat) (l1 : List Bool) (A2 : Option Addr) (c2 : Nat) (l2 : List Bool) (r1 : List Bool) (r2 : Int) (w : World) (hr0_1 : Kd.C k52 w A0_1 l0_1.length l0_1) (hc0_1 : l0_1.length ≤ c0_1) (hr0_2 : Kd.C k33 w A0_2 l0_2.length l0_2) (hc0_2 : l0_2.length ≤ c0_2) (hr0_3 : Kd.C (Kd.int .i64) w A0_3 l0_3.length l0_3) (hc0_3 : l0_3.length ≤ c0_3) (hr0_4 : Kd.C (Kd.int .i64) w A0_4 l0_4.length l0_4) (hc0_4 : l0_4.length ≤ c0_4) (hr1 : Kd.C Kd.bool w A1 l1.length l1) (hc1 : l1.length ≤ c1) (hr2 : Kd.C Kd.bool w A2 l2.length l2) (hc2 : l2.length ≤ c2) (h : values_All.f a0_0 l0_1 l0_2 l0_3 l0_4 l1 l2 = some (r1, r2)) :
    Calls Try.prog 13 #[.agg #[.int .i64 a0_0, .slice A0_1 l0_1.length c0_1, .slice A0_2 l0_2.length c0_2, .slice A0_3 l0_3.length c0_3, .slice A0_4 l0_4.length c0_4], .slice A1 l1.length c1, .slice A2 l2.length c2] w fun e w' => ∃ v0_ : Value, e = .returned (.tuple #[v0_, .int .i64 r2]) ∧ Kd.R Kd.bool 4 w' w.heap.size (fun _ => True) v0_ r1 ∧ Below w.heap.size w w' := by
  have hu26 := Try.underlying26
  have hu33 := Try.underlying33
  have hu27 := Try.underlying27
  have hu4 := Try.underlying4
  have HR0_1 := Aside0.mk hr0_1
  have HR0_2 := Aside0.mk hr0_2
  have HR0_3 := Aside0.mk hr0_3
  have HR0_4 := Aside0.mk hr0_4
  have HC0_1 := Aside0.mk hc0_1
  have HC0_2 := Aside0.mk hc0_2
  have HC0_3 := Aside0.mk hc0_3
  have HC0_4 := Aside0.mk hc0_4
  have HR1 := Aside0.mk hr1
  have HR2 := Aside0.mk hr2
  have HC1 := Aside0.mk hc1
  have HC2 := Aside0.mk hc2
  clear hr0_1 hr0_2 hr0_3 hr0_4 hc0_1 hc0_2 hc0_3 hc0_4 hr1 hr2 hc1 hc2
  unfold values_All.f at h
  obtain ⟨⟨p, e0⟩, he, h⟩ := Option.bind_eq_some_iff.mp h
  have HE := Aside0.mk he
  clear he
  simp only at h
  by_cases c : e0 = 0
  · rw [if_pos c] at h
    subst c
    by_cases cc : l1.length = l0_1.length ∧ (l2.length : Int) = a0_0
    · rw [if_pos cc] at h
      by_cases cp : p = ((l2.length + l1.length + l0_2.length : Nat) : Int) ∧ l2.length + l1.length + l0_2.length ≤ 1000000
      · rw [if_pos cp] at h
        obtain ⟨rr, hgv, h⟩ := Option.bind_eq_some_iff.mp h
        simp only [Option.some.injEq, Prod.mk.injEq] at h
        obtain ⟨rfl, rfl⟩ := h
        obtain ⟨rfl, hsz⟩ := cp
        have HG := Aside0.mk hgv
        have HZ := Aside0.mk hsz
        have b1 : (((l1.length : Int)) != (l0_1.length : Int)) = false := by simp [cc.1]
        have b2 : (((l2.length : Int)) != a0_0) = false := by simp [cc.2]
        have CC := Aside0.mk cc
        obtain ⟨n, hn⟩ : ∃ n, n = l2.length + l1.length + l0_2.length := ⟨_, rfl⟩
        rw [← hn] at HE
        have HN := Aside0.mk hn
        have wn : wrap64 ((n : Int) + 1) = ((n : Int) + 1) := by unfold wrap64; omega
        have hmk := print_make_int (P := Try.prog) 27 4 (.bool false) 1 hu27 infoB rfl (by decide) ((n : Int) + 1) (by omega) (by omega)
        obtain ⟨dp, hdp, hcut⟩ : ∃ dp : Nat → Option Addr, (∀ g, 0 < n → dp g = some ⟨g, 1, none⟩) ∧ ∀ (g : Nat) (W : World), (Instr.slice 27 (.slice (some ⟨g, 0, none⟩) (n + 1) (n + 1)) (some (.int .i64 1)) none none).run Try.prog W = .ok (.slice (dp g) n n) W := by
          refine ⟨fun g => if n + 1 = 1 then some ⟨g, 0, none⟩ else some ⟨g, 1, none⟩, fun g hg => by simp; omega, fun g W => ?_⟩
          obtain ⟨i0, hi, hzz⟩ := Option.map_eq_some_iff.1 infoB
          simp only [Prod.mk.injEq] at hzz
          have := cut_from (P := Try.prog) 27 4 .i64 hu27 hi 1 hzz.2.1 (some ⟨g, 0, none⟩) (n + 1) (n + 1) 1 (by omega) (by omega) W
          simpa [Addr.add] using this
        have HDP := Aside0.mk hdp
        clear hdp
        have hsB : (Try.prog.info? 4).map (·.size) = some 1 := by kernel_rfl
        obtain ⟨F, hF⟩ : ∃ F : Nat, F = 1 + l2.length + l1.length := ⟨_, rfl⟩
        obtain ⟨dq, hdq, hcut2⟩ : ∃ dq : Nat → Option Addr, (∀ g, 0 < l1.length → dq g = some ⟨g, 1 + l2.length, none⟩) ∧ ∀ (g : Nat) (W : World), (Instr.slice 27 (.slice (some ⟨g, 0, none⟩) (n + 1) (n + 1)) (some (.int .i64 (1 + (l2.length : Int)))) (some (.int .i64 (F : Int))) (some (.int .i64 (F : Int)))).run Try.prog W = .ok (.slice (dq g) l1.length l1.length) W := by
          refine ⟨fun g => if 1 + l2.length + l1.length = 1 + l2.length then some ⟨g, 0, none⟩ else some ⟨g, 1 + l2.length, none⟩, fun g hg => by dsimp only; rw [if_neg (by omega)], fun g W => ?_⟩
          obtain ⟨i0, hi, hzz⟩ := Option.map_eq_some_iff.1 infoB
          simp only [Prod.mk.injEq] at hzz
          have hel : Try.prog.elem 27 = 4 := by simp [Program.elem, hu27]
          have hu : Try.prog.underlying 27 = some (.slice (Try.prog.elem 27)) := by rw [hel]; exact hu27
          rw [run_slice_lhm W 27 _ _ _ hu .i64 .i64 .i64 _ _ _ (by omega) (by omega) (by omega) (by omega), hel]
          have e1 : (1 + (l2.length : Int)).toNat = 1 + l2.length := by omega
          have e2 : ((F : Int)).toNat = 1 + l2.length + l1.length := by omega
          have e4 : ∀ A : Option Addr, A.map (fun x => x.add 0) = A := by intro A; cases A <;> simp [Addr.add]
          rw [e1, e2]
          simp [sizeOf, typeInfo, hi, hzz.2.1, sliced, Result.andThen, Addr.add]
        have HDQ := Aside0.mk hdq
        clear hdq
        have w2l : wrap64 (1 + (l2.length : Int)) = 1 + (l2.length : Int) := by unfold wrap64; omega
        have w3l : wrap64 (1 + (l2.length : Int) + (l1.length : Int)) = (F : Int) := by unfold wrap64; omega
        have HF := Aside0.mk hF
        clear hF
        have le1 : (encs Value.bool l1).length = l1.length := by simp [encs]
        have le2 : (encs Value.bool l2).length = l2.length := by simp [encs]
        have lzn : ∀ m, (encs Value.bool (List.replicate m false)).length = m := by simp [encs]
        have LZ := Aside0.mk lzn
        clear lzn
        clear cc hgv hsz hn
        go_enter Try.func13, Try.ntmps13
        go_wp2_with (first | (go_at_call 25; (with_reducible refine (gates_Vars.calls a0_0 _ _ l0_1 _ _ l0_2 _ _ l0_3 _ _ l0_4 _ _ _ ?s1 ?s2 ?s3 ?s4 ?s5 ?s6 ?s7 ?s8 HE.out).mono ?_); (case s1 => exact Kd.C_below HR0_1.out (below_alloc (Below.refl _ _) _)); (case s2 => exact HC0_1.out); (case s3 => exact Kd.C_below HR0_2.out (below_alloc (Below.refl _ _) _)); (case s4 => exact HC0_2.out); (case s5 => exact Kd.C_below HR0_3.out (below_alloc (Below.refl _ _) _)); (case s6 => exact HC0_3.out); (case s7 => exact Kd.C_below HR0_4.out (below_alloc (Below.refl _ _) _)); (case s8 => exact HC0_4.out); rintro e w1 ⟨rfl, hb⟩; have HB := Aside0.mk (below_step (below_alloc (Below.refl _ _) _) hb); have BK := Aside0.mk (blk_below (blk_new w (.cells #[.int .i64 a0_0, .slice A0_1 l0_1.length c0_1, .slice A0_2 l0_2.length c0_2, .slice A0_3 l0_3.length c0_3, .slice A0_4 l0_4.length c0_4] 26)) hb); have k1 := blk_cell BK.out 1; have k2 := blk_cell BK.out 2; have k0 := blk_cell BK.out 0; simp only [List.getElem?_toArray, List.getElem?_cons_succ, List.getElem?_cons_zero] at k0 k1 k2; clear hb) | (refine wpList_copy_splice rfl (.tmp 38) (.tmp 39) 27 27 rfl 4 hu27 hsB _ _ _ _ _ _ rfl rfl w1.heap.size 1 (encs Value.bool (List.replicate (n + 1) false)) 4 ?g1 (encs Value.bool l2) ?g2 ?g3 ?g4 (encs_one _) w1.heap.size w1 ?g5 (Nat.le_refl _) ?_; (case g1 => rw [← madeB]; exact blk_new _ _); (case g2 => have := HN.out; rw [le2]; exact (Nat.min_eq_left (by omega)).symm); (case g3 => intro hp; have := HN.out; have := HDP.out w1.heap.size (by omega); obtain ⟨ad, e, hs⟩ := srcB (Kd.C_below HR2.out (below_alloc HB.out _)) (by omega); exact ⟨this, ad, e, hs⟩); (case g4 => have := HN.out; rw [le2, LZ.out]; omega); (case g5 => exact below_alloc (Below.refl _ _) _); intro w2 HG2 hB2; have HB2 := Aside0.mk hB2; have BK2 := Aside0.mk (blk_below BK.out hB2); have m1 := blk_cell BK2.out 1; have m2 := blk_cell BK2.out 2; have m0 := blk_cell BK2.out 0; simp only [List.getElem?_toArray, List.getElem?_cons_succ, List.getElem?_cons_zero] at m0 m1 m2; have HG2 := Aside0.mk HG2.out; clear k0 k1 k2 hB2) | (refine wpList_copy_splice rfl (.tmp 52) (.tmp 53) 27 27 rfl 4 hu27 hsB _ _ _ _ _ _ rfl rfl w1.heap.size (1 + l2.length) (encs Value.bool (splice (List.replicate (n + 1) false) 1 l2)) 4 ?g1 (encs Value.bool l1) ?g2 ?g3 ?g4 (encs_one _) w1.heap.size w1 HB2.out (Nat.le_refl _) ?_; (case g1 => have := HG2.out; rw [encs_splice] at this; exact this); (case g2 => rw [le1]; exact (Nat.min_self _).symm); (case g3 => intro hp; have := HDQ.out w1.heap.size (by omega); obtain ⟨ad, e, hs⟩ := srcB (Kd.C_below HR1.out (below_step HB.out HB2.out)) (by omega); exact ⟨this, ad, e, hs⟩); (case g4 => have := HN.out; rw [le1, encs_splice_len _ _ _ (by rw [List.length_replicate]; omega), List.length_replicate]; omega); intro w3 HG3 hB3; have HB3 := Aside0.mk (below_step HB.out hB3); have BK3 := Aside0.mk (blk_below BK.out hB3); have z1 := blk_cell BK3.out 1; have z2 := blk_cell BK3.out 2; have z0 := blk_cell BK3.out 0; simp only [List.getElem?_toArray, List.getElem?_cons_succ, List.getElem?_cons_zero] at z0 z1 z2; have HG3 := Aside0.mk (rowV' HG3.out HN.out); clear m0 m1 m2 hB3))
        have hlt := blk_lt BK.out
        have hne := Nat.ne_of_lt hlt
        have HNE := Aside0.mk hne
        clear hne hlt
        rw [w3l]
        go_loopg [62] (l0_2.length + 1) (fun kq v62 w' => ∃ (j : Nat) (cur : List Bool), v62 = .int .i64 (j : Int) ∧ Aside0 (j ≤ l0_2.length ∧ kq + j = l0_2.length + 1 ∧ cur.length = n + 1) ∧ Aside0 (gatesV cur (F + j) (l0_2.drop j) = some rr) ∧ Aside0 (Below w.heap.size w w') ∧ Aside0 (w'.heap[w.heap.size]? = some (.cells #[.int .i64 a0_0, .slice A0_1 l0_1.length c0_1, .slice A0_2 l0_2.length c0_2, .slice A0_3 l0_3.length c0_3, .slice A0_4 l0_4.length c0_4] 26 (0, 0))) ∧ Aside0 (w'.heap[w1.heap.size]? = some (.cells (encs Value.bool cur).toArray 4 (0, 0))))
        case atStart => exact ⟨0, _, by simp, ⟨by omega, by omega, by have := HN.out; simp; omega⟩, ⟨by have := HG.out; rw [← HF.out] at this; simpa using this⟩, HB3, BK3, HG3⟩
        case round =>
          clear HB3 BK3 HG3 z0 z1 z2
          obtain ⟨j, cur, rfl, HI, HV, HB3, BK3, HG3⟩ := hrel
          have z1 := blk_cell BK3.out 1
          have z2 := blk_cell BK3.out 2
          have z0 := blk_cell BK3.out 0
          simp only [List.getElem?_toArray, List.getElem?_cons_succ, List.getElem?_cons_zero] at z0 z1 z2
          by_cases c : j < l0_2.length
          · have cb : decide (j < l0_2.length) = true := decide_eq_true c
            obtain ⟨ad, rfl, hx, hy⟩ := at_T33n (Kd.C_below HR0_2.out HB3.out) j c
            have hv := HV.out
            rw [List.drop_eq_getElem_cons c] at hv
            simp only [gatesV] at hv
            obtain ⟨x, hx1, hv⟩ := Option.bind_eq_some_iff.mp hv
            obtain ⟨y, hy1, hv⟩ := Option.bind_eq_some_iff.mp hv
            have hrd : rd_T33 l0_2 (j : Int) = l0_2[j] := by simp [rd_T33, List.getD, c]
            rw [← hrd] at hx1 hy1
            obtain ⟨G, hG⟩ : ∃ G : Nat, G = F + j := ⟨_, rfl⟩
            have h1 := HI.out.2.2
            have h2 := HN.out
            have h3 := HF.out
            have h4 := HZ.out
            have p0 : ((0 : Int) ≤ (G : Int)) = True := eq_true (by omega)
            have q0 : ((G : Int) < (n : Int) + 1) = True := eq_true (by omega)
            have hG1 : G < n + 1 := by omega
            have WJ : Aside0 (wrap64 ((j : Int) + 1) = ((j + 1 : Nat) : Int)) := ⟨by unfold wrap64; omega⟩
            have hG2 : G < cur.length := by omega
            have wG : wrap64 ((F : Int) + (j : Int)) = (G : Int) := by unfold wrap64; omega
            have hrow : (wr.cell? ⟨w1.heap.size, G, none⟩) = some (.bool (cur.getD G false)) := (blk_cell HG3.out G).trans (encs_at cur G hG2)
            have hfz := blk_frozen HG3.out G
            have HG' := Aside0.mk hG
            have HG1 := Aside0.mk hG1
            have HX := Aside0.mk hx1
            have HV2 := Aside0.mk hv
            clear hG2 hG hG1 h1 h2 h3 h4 hx1 hv hrd
            cases x with
            | true =>
              rw [if_pos rfl] at hy1
              have HY := Aside0.mk hy1
              clear hy1
              go_wp2_with (go_at_call 29; first | ((with_reducible refine (of_calls (n + 1) _ cur (rd_T33 l0_2 (j : Int)).f0 true _ HI.out.2.2 ?s1 HX.out).mono ?_); (case s1 => exact C_row HG3.out (by have := HI.out.2.2; have := HN.out; have := HZ.out; omega)); rintro e w' ⟨rfl, ⟨nd, rfl⟩⟩) | ((with_reducible refine (of_calls (n + 1) _ cur (rd_T33 l0_2 (j : Int)).f1 y _ HI.out.2.2 ?s1 HY.out).mono ?_); (case s1 => exact C_row (blk_drewN HG3.out _) (by have := HI.out.2.2; have := HN.out; have := HZ.out; omega)); rintro e w' ⟨rfl, ⟨nd2, rfl⟩⟩))
              go_roundg (gk - 1)
              case rel =>
                have h1 := HI.out.2.2
                exact ⟨j + 1, cur.set G y, by rw [WJ.out], ⟨by omega, by have := HI.out; omega, by rw [List.length_set]; exact h1⟩, ⟨by have := HV2.out; rw [← HG'.out] at this; rw [HG'.out, Nat.add_assoc] at this; rw [HG'.out]; exact this⟩, ⟨Below.setCell (pw_below_drewN HB3.out _) (blk_lt_le BK.out) _⟩, ⟨blk_far (blk_drewN BK3.out _) HNE.out _⟩, ⟨blk_put (blk_drewN HG3.out _) G _ (encs_set cur G y)⟩⟩
              case measure => have := HI.out; omega
            | false =>
              rw [if_neg (by decide)] at hy1
              obtain rfl := Option.some.inj hy1
              clear hy1
              go_wp2_with (go_at_call 29; ((with_reducible refine (of_calls (n + 1) _ cur (rd_T33 l0_2 (j : Int)).f0 false _ HI.out.2.2 ?s1 HX.out).mono ?_); (case s1 => exact C_row HG3.out (by have := HI.out.2.2; have := HN.out; have := HZ.out; omega)); rintro e w' ⟨rfl, ⟨nd, rfl⟩⟩))
              go_roundg (gk - 1)
              case rel =>
                have h1 := HI.out.2.2
                exact ⟨j + 1, cur.set G false, by rw [WJ.out], ⟨by omega, by have := HI.out; omega, by rw [List.length_set]; exact h1⟩, ⟨by have := HV2.out; rw [← HG'.out] at this; rw [HG'.out, Nat.add_assoc] at this; rw [HG'.out]; exact this⟩, ⟨Below.setCell (pw_below_drewN HB3.out _) (blk_lt_le BK.out) _⟩, ⟨blk_far (blk_drewN BK3.out _) HNE.out _⟩, ⟨blk_put (blk_drewN HG3.out _) G _ (encs_set cur G false)⟩⟩
              case measure => have := HI.out; omega
          · have cb : decide (j < l0_2.length) = false := decide_eq_false c
            have hv := HV.out
            rw [List.drop_of_length_le (by omega)] at hv
            obtain rfl := Option.some.inj hv
            clear hv
            go_wp2
            go_ret2
            refine ⟨_, rfl, ?_, HB3.out⟩
            have h1 := HI.out.2.2
            have := R_row HG3.out (by have := HN.out; have := HZ.out; omega) (blk_lt_le BK.out)
            rw [h1] at this
            exact this
      · rw [if_neg cp] at h; simp at h
    · rw [if_neg cc] at h
      simp only [Option.some.injEq, Prod.mk.injEq] at h
      obtain ⟨rfl, rfl⟩ := h
      by_cases d1 : l1.length = l0_1.length
      · have b1 : (((l1.length : Int)) != (l0_1.length : Int)) = false := by simp [d1]
        have b2 : (((l2.length : Int)) != a0_0) = true := by simp; intro e; exact cc ⟨d1, e⟩
        clear cc d1
        go_enter Try.func13, Try.ntmps13
        go_wp2_with (go_at_call 25; (with_reducible refine (gates_Vars.calls a0_0 _ _ l0_1 _ _ l0_2 _ _ l0_3 _ _ l0_4 _ _ _ ?s1 ?s2 ?s3 ?s4 ?s5 ?s6 ?s7 ?s8 HE.out).mono ?_); (case s1 => exact Kd.C_below HR0_1.out (below_alloc (Below.refl _ _) _)); (case s2 => exact HC0_1.out); (case s3 => exact Kd.C_below HR0_2.out (below_alloc (Below.refl _ _) _)); (case s4 => exact HC0_2.out); (case s5 => exact Kd.C_below HR0_3.out (below_alloc (Below.refl _ _) _)); (case s6 => exact HC0_3.out); (case s7 => exact Kd.C_below HR0_4.out (below_alloc (Below.refl _ _) _)); (case s8 => exact HC0_4.out); rintro e w1 ⟨rfl, hb⟩; have HB := Aside0.mk (below_step (below_alloc (Below.refl _ _) _) hb); have BK := Aside0.mk (blk_below (blk_new w (.cells #[.int .i64 a0_0, .slice A0_1 l0_1.length c0_1, .slice A0_2 l0_2.length c0_2, .slice A0_3 l0_3.length c0_3, .slice A0_4 l0_4.length c0_4] 26)) hb); have k1 := blk_cell BK.out 1; have k2 := blk_cell BK.out 2; have k0 := blk_cell BK.out 0; simp only [List.getElem?_toArray, List.getElem?_cons_succ, List.getElem?_cons_zero] at k0 k1 k2; clear hb)
        go_ret2
        exact ⟨_, rfl, Kd.R_nil _ _ _ _ _, HB.out⟩
      · have b1 : (((l1.length : Int)) != (l0_1.length : Int)) = true := by simp; omega
        clear cc d1
        go_enter Try.func13, Try.ntmps13
        go_wp2_with (go_at_call 25; (with_reducible refine (gates_Vars.calls a0_0 _ _ l0_1 _ _ l0_2 _ _ l0_3 _ _ l0_4 _ _ _ ?s1 ?s2 ?s3 ?s4 ?s5 ?s6 ?s7 ?s8 HE.out).mono ?_); (case s1 => exact Kd.C_below HR0_1.out (below_alloc (Below.refl _ _) _)); (case s2 => exact HC0_1.out); (case s3 => exact Kd.C_below HR0_2.out (below_alloc (Below.refl _ _) _)); (case s4 => exact HC0_2.out); (case s5 => exact Kd.C_below HR0_3.out (below_alloc (Below.refl _ _) _)); (case s6 => exact HC0_3.out); (case s7 => exact Kd.C_below HR0_4.out (below_alloc (Below.refl _ _) _)); (case s8 => exact HC0_4.out); rintro e w1 ⟨rfl, hb⟩; have HB := Aside0.mk (below_step (below_alloc (Below.refl _ _) _) hb); have BK := Aside0.mk (blk_below (blk_new w (.cells #[.int .i64 a0_0, .slice A0_1 l0_1.length c0_1, .slice A0_2 l0_2.length c0_2, .slice A0_3 l0_3.length c0_3, .slice A0_4 l0_4.length c0_4] 26)) hb); have k1 := blk_cell BK.out 1; have k2 := blk_cell BK.out 2; have k0 := blk_cell BK.out 0; simp only [List.getElem?_toArray, List.getElem?_cons_succ, List.getElem?_cons_zero] at k0 k1 k2; clear hb)
        go_ret2
        exact ⟨_, rfl, Kd.R_nil _ _ _ _ _, HB.out⟩
  · rw [if_neg c] at h
    simp only [Option.some.injEq, Prod.mk.injEq] at h
    obtain ⟨rfl, rfl⟩ := h
    have b : (e0 != 0) = true := bne_iff_ne.mpr c
    clear c
    go_enter Try.func13, Try.ntmps13
    go_wp2_with (go_at_call 25; (with_reducible refine (gates_Vars.calls a0_0 _ _ l0_1 _ _ l0_2 _ _ l0_3 _ _ l0_4 _ _ _ ?s1 ?s2 ?s3 ?s4 ?s5 ?s6 ?s7 ?s8 HE.out).mono ?_); (case s1 => exact Kd.C_below HR0_1.out (below_alloc (Below.refl _ _) _)); (case s2 => exact HC0_1.out); (case s3 => exact Kd.C_below HR0_2.out (below_alloc (Below.refl _ _) _)); (case s4 => exact HC0_2.out); (case s5 => exact Kd.C_below HR0_3.out (below_alloc (Below.refl _ _) _)); (case s6 => exact HC0_3.out); (case s7 => exact Kd.C_below HR0_4.out (below_alloc (Below.refl _ _) _)); (case s8 => exact HC0_4.out); rintro e w1 ⟨rfl, hb⟩; have HB := Aside0.mk (below_step (below_alloc (Below.refl _ _) _) hb); have BK := Aside0.mk (blk_below (blk_new w (.cells #[.int .i64 a0_0, .slice A0_1 l0_1.length c0_1, .slice A0_2 l0_2.length c0_2, .slice A0_3 l0_3.length c0_3, .slice A0_4 l0_4.length c0_4] 26)) hb); have k1 := blk_cell BK.out 1; have k2 := blk_cell BK.out 2; have k0 := blk_cell BK.out 0; simp only [List.getElem?_toArray, List.getElem?_cons_succ, List.getElem?_cons_zero] at k0 k1 k2; clear hb)
    go_ret2
    exact ⟨_, rfl, Kd.R_nil _ _ _ _ _, HB.out⟩

end Go.Proofs.Ytfppehhhgbkhcaa.QValuesNames
