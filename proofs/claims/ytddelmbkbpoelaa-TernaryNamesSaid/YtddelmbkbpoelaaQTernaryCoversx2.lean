-- Made by wip/myprint.sh (a patched print): a text of this session's own.
import Derived.Test.YtddelmbkbpoelaaQTernaryCoversx0
namespace Go.Proofs.Ytddelmbkbpoelaa.QTernaryCovers
open Go.RowKit Go.Proofs.YtddelmbkbpoelaaW.PrintWords Go.Proofs.YtddelmbkbpoelaaW.PrintLast Go.Proofs.YtddelmbkbpoelaaW.PrintMore
attribute [local go_sem] max2_int min2_int max_two min_two max_three min_three max_four min_four   -- for this text's walks alone
set_option linter.unusedVariables false
set_option linter.unusedSimpArgs false

/-! ### gates_Check: function 40, by hand -/
def st1 (a : Int) : Int := wrap64 (1 + a)
def st2 (a : Int) (m : Nat) : Int := wrap64 (st1 a + m)
def st3 (a : Int) (m n : Nat) : Int := wrap64 (st2 a m + n)
set_option maxHeartbeats 1000000 in
set_option maxRecDepth 100000 in
theorem starts_calls (a0 : Int) (A1 : Option Addr) (n1 c1 : Nat) (A2 : Option Addr) (n2 c2 : Nat) (A3 : Option Addr) (n3 c3 : Nat) (A4 : Option Addr) (n4 c4 : Nat) (w : World) :
    Calls Try.prog 54 #[.agg #[.int .i64 a0, .slice A1 n1 c1, .slice A2 n2 c2, .slice A3 n3 c3, .slice A4 n4 c4]] w fun e w' => e = .returned (.agg #[.int .i64 1, .int .i64 (st1 a0), .int .i64 (st2 a0 n1), .int .i64 (st3 a0 n1 n2)]) ∧ Below w.heap.size w w' := by
  go_enter Try.func54, Try.ntmps54
  go_wp2
  exact bodyPost_ret (v := .agg #[.int .i64 1, .int .i64 (wrap64 (1 + a0)), .int .i64 (wrap64 (wrap64 (1 + a0) + n1)), .int .i64 (wrap64 (wrap64 (wrap64 (1 + a0) + n1) + n2))]) (by simp [results, Try.results54, go_sem]) rfl ⟨rfl, below_alloc (below_alloc (Below.refl _ _) _) _⟩
def outS (s3 l : Int) : Bool := decide (l < 0) || decide (s3 ≤ l / 2)
set_option maxHeartbeats 1000000 in
set_option maxRecDepth 100000 in
theorem outside_calls (x s3 : Int) (B : Nat) (w : World) (h3 : w.cell? ⟨B, 3, none⟩ = some (.int .i64 s3)) :
    Calls Try.prog 55 #[.int .i64 x, .pointer (some ⟨B, 0, none⟩)] w fun e w' => e = .returned (.bool (outS s3 x)) ∧ Drawn0 w w' := by
  unfold outS
  by_cases h : x < 0
  · have hb : decide (x < 0) = true := by simp [h]
    go_enter Try.func55, Try.ntmps55
    go_wp2
    go_ret
    exact ⟨by simp [h], Drawn0.refl _⟩
  · have hb : decide (x < 0) = false := by simp [h]
    have h0 : 0 ≤ x := by omega
    go_enter Try.func55, Try.ntmps55
    go_wp2
    go_ret
    exact ⟨rfl, Drawn0.refl _⟩
def wrongS (s3 : Int) (x : S61) : Bool := outS s3 x.f0 || decide (x.f1 < 0) || decide (2 < x.f1)
set_option maxHeartbeats 1000000 in
set_option maxRecDepth 100000 in
theorem wrong_calls (x : S61) (s3 : Int) (B B2 : Nat) (w : World) (h3 : w.cell? ⟨B, 3, none⟩ = some (.int .i64 s3)) (h4 : w.cell? ⟨B2, 0, none⟩ = some (.func (.func 55) #[] #[.pointer (some ⟨B, 0, none⟩)])) (hB : B < w.heap.size) (hB2 : B2 < w.heap.size) :
    Calls Try.prog 56 #[.agg #[.int .i64 x.f0, .int .i64 x.f1], .pointer (some ⟨B2, 0, none⟩)] w fun e w' => e = .returned (.bool (wrongS s3 x)) ∧ Below w.heap.size w w' := by
  have hne : B ≠ w.heap.size := by omega
  have hne2 : B2 ≠ w.heap.size := by omega
  unfold wrongS
  generalize hx : outS s3 x.f0 = o
  have HX := Aside0.mk hx
  clear hx
  cases o with
  | true =>
    go_enter Try.func56, Try.ntmps56
    go_wp2_with (go_at_call 55; (with_reducible refine (outside_calls x.f0 s3 B _ ?c1).mono ?_); (case c1 => rw [World.cell?_alloc_lt _ _ _ hB]; exact h3); rw [HX.out]; rintro e w' ⟨rfl, ⟨nd, rfl⟩⟩)
    go_ret
    exact ⟨by simp, pw_below_drewN (below_alloc (Below.refl _ _) _) _⟩
  | false =>
    by_cases h : x.f1 < 0
    · have hb : decide (x.f1 < 0) = true := by simp [h]
      go_enter Try.func56, Try.ntmps56
      go_wp2_with (go_at_call 55; (with_reducible refine (outside_calls x.f0 s3 B _ ?c1).mono ?_); (case c1 => rw [World.cell?_alloc_lt _ _ _ hB]; exact h3); rw [HX.out]; rintro e w' ⟨rfl, ⟨nd, rfl⟩⟩)
      go_ret
      exact ⟨by simp [h], pw_below_drewN (below_alloc (Below.refl _ _) _) _⟩
    · have hb : decide (x.f1 < 0) = false := by simp [h]
      have h0 : 0 ≤ x.f1 := by omega
      go_enter Try.func56, Try.ntmps56
      go_wp2_with (go_at_call 55; (with_reducible refine (outside_calls x.f0 s3 B _ ?c1).mono ?_); (case c1 => rw [World.cell?_alloc_lt _ _ _ hB]; exact h3); rw [HX.out]; rintro e w' ⟨rfl, ⟨nd, rfl⟩⟩)
      go_ret
      exact ⟨by simp; omega, pw_below_drewN (below_alloc (Below.refl _ _) _) _⟩
def idxS {α : Type} (p : α → Bool) (l : List α) : Int := match l.findIdx? p with
  | some i => (i : Int)
  | none => -1
theorem idxS_any {α : Type} (p : α → Bool) (l : List α) : decide (0 ≤ idxS p l) = l.any p := by
  unfold idxS
  cases h : l.findIdx? p with
  | none =>
    rw [List.findIdx?_eq_none_iff] at h
    have : l.any p = false := List.any_eq_false.2 (fun x hx => by simp [h x hx])
    rw [this]; rfl
  | some i =>
    obtain ⟨hi, hp, _⟩ := List.findIdx?_eq_some_iff_getElem.1 h
    have : l.any p = true := List.any_eq_true.2 ⟨_, List.getElem_mem hi, hp⟩
    rw [this]; simp
theorem idxS_none {α : Type} (p : α → Bool) (l : List α) (h : l.any p = false) : idxS p l = -1 := by
  have := idxS_any p l
  rw [h] at this
  unfold idxS at this ⊢
  split
  · rename_i i hi; rw [hi] at this; simp at this
  · rfl
theorem idxS_some {α : Type} (p : α → Bool) (l : List α) (d : α) (i : Nat) (hi : i < l.length) (h : (l.take i).any p = false) (hp : p (l.getD i d) = true) : idxS p l = i := by
  have hd : l.getD i d = l[i] := by simp [List.getD, hi]
  have : l.findIdx? p = some i := by
    rw [List.findIdx?_eq_some_iff_getElem]
    refine ⟨hi, by rw [← hd]; exact hp, fun j hj => ?_⟩
    have := List.any_eq_false.1 h l[j] (List.mem_take_iff_getElem.2 ⟨j, by omega, rfl⟩)
    simpa using this
  unfold idxS
  rw [this]
theorem any_take_succ {α : Type} (p : α → Bool) (l : List α) (d : α) (i : Nat) (hi : i < l.length) (h : (l.take i).any p = false) (hp : p (l.getD i d) = false) : (l.take (i + 1)).any p = false := by
  have hd : l.getD i d = l[i] := by simp [List.getD, hi]
  have he : p l[i] = false := by rw [← hd]; exact hp
  rw [List.take_succ_eq_append_getElem hi, List.any_append, h]
  simp [he]
set_option maxHeartbeats 2000000 in
set_option maxRecDepth 100000 in
theorem indexInts_calls (A0 : Option Addr) (c0 : Nat) (l0 : List Int) (p : Int → Bool) (B : Nat) (w : World) (hr : Kd.C (Kd.int .i64) w A0 l0.length l0)
    (hp : ∀ (x : Int) (W : World), Drawn0 w W → Calls Try.prog 55 #[.int .i64 x, .pointer (some ⟨B, 0, none⟩)] W fun e w' => e = .returned (.bool (p x)) ∧ Drawn0 W w') :
    Calls Try.prog 64 #[.slice A0 l0.length c0, .func (.func 55) #[] #[.pointer (some ⟨B, 0, none⟩)]] w fun e w' => e = .returned (.int .i64 (idxS p l0)) ∧ Drawn0 w w' := by
  have HR := Aside0.mk hr
  have HP := Aside0.mk hp
  have HN := Aside0.mk hr.2.1
  clear hr hp
  go_enter Try.func64, Try.ntmps64
  go_wp2
  go_loopg [8] (l0.length + 1) (fun kq v8 w' => ∃ (i : Nat), v8 = .int .i64 (i : Int) ∧ Aside0 (i ≤ l0.length ∧ kq + i = l0.length + 1 ∧ (l0.take i).any p = false) ∧ Aside0 (Drawn0 w w'))
  case atStart => exact ⟨0, by simp, ⟨by omega, by omega, by simp⟩, ⟨Drawn0.refl _⟩⟩
  case round =>
    obtain ⟨i, rfl, HI, HD⟩ := hrel
    by_cases c : i < l0.length
    · have cb : decide (i < l0.length) = true := decide_eq_true c
      have p0 : (0 : Int) ≤ (i : Int) := by omega
      have q0 : (i : Int) < (l0.length : Int) := by omega
      obtain ⟨⟨n1, rfl⟩⟩ := HD.out
      obtain ⟨ad, rfl, hx⟩ := Kd.at_int HR.out (i : Int) p0 q0
      have hx' : w.cell? (ad.add i) = some (.int .i64 (rd l0 i)) := hx
      clear hx
      have HL := HN.out
      generalize hv : p (rd l0 i) = b
      have HV := Aside0.mk hv
      clear hv
      cases b with
      | true =>
        go_wp2_with (go_at_call 55; (with_reducible refine (HP.out (rd l0 i) _ ?c1).mono ?_); (case c1 => exact ⟨⟨n1, rfl⟩⟩); rw [HV.out]; rintro e w' ⟨rfl, ⟨nd, rfl⟩⟩)
        go_ret
        exact ⟨by simp [idxS_some p l0 0 i c HI.out.2.2 HV.out], ⟨⟨_, rfl⟩⟩⟩
      | false =>
        go_wp2_with (go_at_call 55; (with_reducible refine (HP.out (rd l0 i) _ ?c1).mono ?_); (case c1 => exact ⟨⟨n1, rfl⟩⟩); rw [HV.out]; rintro e w' ⟨rfl, ⟨nd, rfl⟩⟩)
        go_roundg (gk - 1)
        case rel => exact ⟨i + 1, by go_num, ⟨by omega, by have := HI.out; omega, any_take_succ p l0 0 i c HI.out.2.2 HV.out⟩, ⟨⟨⟨_, rfl⟩⟩⟩⟩
        case measure => have := HI.out; omega
    · have cb : decide (i < l0.length) = false := decide_eq_false c
      obtain ⟨⟨n1, rfl⟩⟩ := HD.out
      go_wp2
      go_ret
      have hz : (l0.take i).any p = false := HI.out.2.2
      rw [List.take_of_length_le (by omega)] at hz
      exact ⟨by simp [idxS_none p l0 hz], ⟨⟨_, rfl⟩⟩⟩
set_option maxHeartbeats 1000000 in
set_option maxRecDepth 100000 in
theorem containsInts_calls (A0 : Option Addr) (c0 : Nat) (l0 : List Int) (p : Int → Bool) (B : Nat) (w : World) (hr : Kd.C (Kd.int .i64) w A0 l0.length l0)
    (hp : ∀ (x : Int) (W : World), Drawn0 w W → Calls Try.prog 55 #[.int .i64 x, .pointer (some ⟨B, 0, none⟩)] W fun e w' => e = .returned (.bool (p x)) ∧ Drawn0 W w') :
    Calls Try.prog 57 #[.slice A0 l0.length c0, .func (.func 55) #[] #[.pointer (some ⟨B, 0, none⟩)]] w fun e w' => e = .returned (.bool (l0.any p)) ∧ Drawn0 w w' := by
  have HP := Aside0.mk hp
  have HR := Aside0.mk hr
  have HA := Aside0.mk (idxS_any p l0)
  clear hp hr
  go_enter Try.func57, Try.ntmps57
  go_wp2_with (go_at_call 64; (with_reducible refine (indexInts_calls A0 c0 l0 p B w HR.out HP.out).mono ?_); rintro e w' ⟨rfl, ⟨nd, rfl⟩⟩)
  go_ret
  exact ⟨by simp [HA.out], ⟨⟨_, rfl⟩⟩⟩
theorem at_T61n {w : World} {A : Option Addr} {n : Nat} {xs : List S61} (h : Kd.C k61 w A n xs) (i : Nat) (h1 : i < n) : ∃ ad, A = some ad ∧ w.cell? (ad.add (i * 2)) = some (.int .i64 (rd_T61 xs i).f0) ∧ w.cell? ⟨(ad.add (i * 2)).block, (ad.add (i * 2)).off + 1, none⟩ = some (.int .i64 (rd_T61 xs i).f1) := by
  obtain ⟨ad, e, hx, hy⟩ := at_T61 h (i : Int) (by omega) (by omega)
  exact ⟨ad, e, hx, hy⟩
set_option maxHeartbeats 2000000 in
set_option maxRecDepth 100000 in
theorem indexLatches_calls (A0 : Option Addr) (c0 : Nat) (l0 : List S61) (p : S61 → Bool) (B : Nat) (w : World) (hr : Kd.C k61 w A0 l0.length l0)
    (hp : ∀ (x : S61) (W : World), Below w.heap.size w W → Calls Try.prog 56 #[.agg #[.int .i64 x.f0, .int .i64 x.f1], .pointer (some ⟨B, 0, none⟩)] W fun e w' => e = .returned (.bool (p x)) ∧ Below W.heap.size W w') :
    Calls Try.prog 65 #[.slice A0 l0.length c0, .func (.func 56) #[] #[.pointer (some ⟨B, 0, none⟩)]] w fun e w' => e = .returned (.int .i64 (idxS p l0)) ∧ Below w.heap.size w w' := by
  have HR := Aside0.mk hr
  have HP := Aside0.mk hp
  have HN := Aside0.mk hr.2.1
  have hu61 := Try.underlying61
  clear hr hp
  go_enter Try.func65, Try.ntmps65
  go_wp2
  go_loopg [8] (l0.length + 1) (fun kq v8 w' => ∃ (i : Nat), v8 = .int .i64 (i : Int) ∧ Aside0 (i ≤ l0.length ∧ kq + i = l0.length + 1 ∧ (l0.take i).any p = false) ∧ Aside0 (Below w.heap.size w w'))
  case atStart => exact ⟨0, by simp, ⟨by omega, by omega, by simp⟩, ⟨Below.refl _ _⟩⟩
  case round =>
    obtain ⟨i, rfl, HI, HD⟩ := hrel
    by_cases c : i < l0.length
    · have cb : decide (i < l0.length) = true := decide_eq_true c
      have p0 : (0 : Int) ≤ (i : Int) := by omega
      have q0 : (i : Int) < (l0.length : Int) := by omega
      obtain ⟨ad, rfl, hx, hy⟩ := at_T61n (Kd.C_below HR.out HD.out) i c
      have HL := HN.out
      generalize hv : p (rd_T61 l0 i) = b
      have HV := Aside0.mk hv
      clear hv
      cases b with
      | true =>
        go_wp2_with (go_at_call 56; (with_reducible refine (HP.out (rd_T61 l0 i) _ HD.out).mono ?_); rw [HV.out]; rintro e w' ⟨rfl, hb⟩)
        go_ret
        exact ⟨by simp [idxS_some p l0 z61 i c HI.out.2.2 HV.out], below_step HD.out hb⟩
      | false =>
        go_wp2_with (go_at_call 56; (with_reducible refine (HP.out (rd_T61 l0 i) _ HD.out).mono ?_); rw [HV.out]; rintro e w' ⟨rfl, hb⟩; have HB2 := Aside0.mk (below_step HD.out hb); clear hb)
        go_roundg (gk - 1)
        case rel => exact ⟨i + 1, by go_num, ⟨by omega, by have := HI.out; omega, any_take_succ p l0 z61 i c HI.out.2.2 HV.out⟩, HB2⟩
        case measure => have := HI.out; omega
    · have cb : decide (i < l0.length) = false := decide_eq_false c
      go_wp2
      go_ret
      have hz : (l0.take i).any p = false := HI.out.2.2
      rw [List.take_of_length_le (by omega)] at hz
      exact ⟨by simp [idxS_none p l0 hz], HD.out⟩
set_option maxHeartbeats 1000000 in
set_option maxRecDepth 100000 in
theorem containsLatches_calls (A0 : Option Addr) (c0 : Nat) (l0 : List S61) (p : S61 → Bool) (B : Nat) (w : World) (hr : Kd.C k61 w A0 l0.length l0)
    (hp : ∀ (x : S61) (W : World), Below w.heap.size w W → Calls Try.prog 56 #[.agg #[.int .i64 x.f0, .int .i64 x.f1], .pointer (some ⟨B, 0, none⟩)] W fun e w' => e = .returned (.bool (p x)) ∧ Below W.heap.size W w') :
    Calls Try.prog 58 #[.slice A0 l0.length c0, .func (.func 56) #[] #[.pointer (some ⟨B, 0, none⟩)]] w fun e w' => e = .returned (.bool (l0.any p)) ∧ Below w.heap.size w w' := by
  have HP := Aside0.mk hp
  have HR := Aside0.mk hr
  have HA := Aside0.mk (idxS_any p l0)
  clear hp hr
  go_enter Try.func58, Try.ntmps58
  go_wp2_with (go_at_call 65; (with_reducible refine (indexLatches_calls A0 c0 l0 p B w HR.out HP.out).mono ?_); rintro e w' ⟨rfl, hb⟩)
  go_ret
  exact ⟨by simp [HA.out], hb⟩
theorem outP {W : World} {gs : Nat} {a b c : Value} {s3 : Int} (hs : W.heap[gs]? = some (.cells #[a, b, c, .int .i64 s3] 87 (0, 0))) (x : Int) (W' : World) (hd : Drawn0 W W') :
    Calls Try.prog 55 #[.int .i64 x, .pointer (some ⟨gs, 0, none⟩)] W' fun e w' => e = .returned (.bool (outS s3 x)) ∧ Drawn0 W' w' := by
  obtain ⟨⟨n, rfl⟩⟩ := hd
  exact outside_calls x s3 gs _ (blk_cell (blk_drewN hs n) 3)
theorem wrongP {W : World} {gs go : Nat} {a b c : Value} {s3 : Int} (hs : W.heap[gs]? = some (.cells #[a, b, c, .int .i64 s3] 87 (0, 0))) (ho : W.heap[go]? = some (.cells #[.func (.func 55) #[] #[.pointer (some ⟨gs, 0, none⟩)]] 90 (0, 0)))
    (x : S61) (W' : World) (hb : Below W.heap.size W W') :
    Calls Try.prog 56 #[.agg #[.int .i64 x.f0, .int .i64 x.f1], .pointer (some ⟨go, 0, none⟩)] W' fun e w' => e = .returned (.bool (wrongS s3 x)) ∧ Below W'.heap.size W' w' :=
  wrong_calls x s3 gs go W' (blk_cell (blk_below hs hb) 3) (blk_cell (blk_below ho hb) 0) (blk_lt (blk_below hs hb)) (blk_lt (blk_below ho hb))
theorem at_T71n {w : World} {A : Option Addr} {n : Nat} {xs : List S71} (h : Kd.C k71 w A n xs) (i : Nat) (h1 : i < n) : ∃ ad, A = some ad ∧ w.cell? (ad.add (i * 2)) = some (.int .i64 (rd_T71 xs i).f0) ∧ w.cell? ⟨(ad.add (i * 2)).block, (ad.add (i * 2)).off + 1, none⟩ = some (.int .i64 (rd_T71 xs i).f1) := by
  obtain ⟨ad, e, hx, hy⟩ := at_T71 h (i : Int) (by omega) (by omega)
  exact ⟨ad, e, hx, hy⟩
theorem arr3 (x0 x1 x2 x3 : Value) (w : World) : (Instr.index 87 (.agg #[x0, x1, x2, x3]) (.int .i64 3)).run Try.prog w = .ok x3 w := by kernel_rfl
theorem arr2 (x0 x1 x2 x3 : Value) (w : World) : (Instr.index 87 (.agg #[x0, x1, x2, x3]) (.int .i64 2)).run Try.prog w = .ok x2 w := by kernel_rfl
def gateBad (s2 : Int) (i : Nat) (g : S71) : Bool := decide (g.f1 < 0) || decide (g.f0 < g.f1) || decide (wrap64 (2 * wrap64 (s2 + i)) ≤ g.f0)
def gatesBad (s2 : Int) (l : List S71) : Bool := (List.range l.length).any fun i => gateBad s2 i (rd_T71 l i)
def gates_Check.f (a0_0 : Int) (l0_1 : List S61) (l0_2 : List S71) (l0_3 : List Int) (l0_4 : List Int) : Option Int :=
  some (if a0_0 < 0 then 8 else if a0_0 > 1000 then 4 else if wrap64 (st3 a0_0 l0_1.length l0_2.length - 1) > 1000 then 4 else if (if (l0_3.length : Int) < (l0_4.length : Int) then (l0_4.length : Int) else (l0_3.length : Int)) > 100 then 4
    else if l0_3.any (outS (st3 a0_0 l0_1.length l0_2.length)) = true then 8 else if l0_4.any (outS (st3 a0_0 l0_1.length l0_2.length)) = true then 8 else if l0_1.any (wrongS (st3 a0_0 l0_1.length l0_2.length)) = true then 8
    else if gatesBad (st2 a0_0 l0_1.length) l0_2 = true then 8 else 0)
set_option maxHeartbeats 4000000 in
set_option maxRecDepth 100000 in
theorem gates_Check.calls (a0_0 : Int) (A0_1 : Option Addr) (c0_1 : Nat) (l0_1 : List S61) (A0_2 : Option Addr) (c0_2 : Nat) (l0_2 : List S71) (A0_3 : Option Addr) (c0_3 : Nat) (l0_3 : List Int) (A0_4 : Option Addr) (c0_4 : Nat) (l0_4 : List Int) (r : Int) (w : World) (hr0_1 : Kd.C k61 w A0_1 l0_1.length l0_1) (hc0_1 : l0_1.length ≤ c0_1) (hr0_2 : Kd.C k71 w A0_2 l0_2.length l0_2) (hc0_2 : l0_2.length ≤ c0_2) (hr0_3 : Kd.C (Kd.int .i64) w A0_3 l0_3.length l0_3) (hc0_3 : l0_3.length ≤ c0_3) (hr0_4 : Kd.C (Kd.int .i64) w A0_4 l0_4.length l0_4) (hc0_4 : l0_4.length ≤ c0_4) (h : gates_Check.f a0_0 l0_1 l0_2 l0_3 l0_4 = some r) :
    Calls Try.prog 40 #[.agg #[.int .i64 a0_0, .slice A0_1 l0_1.length c0_1, .slice A0_2 l0_2.length c0_2, .slice A0_3 l0_3.length c0_3, .slice A0_4 l0_4.length c0_4]] w fun e w' => e = .returned (.int .i64 r) ∧ Below w.heap.size w w' := by
  have hu45 := Try.underlying45
  have hu71 := Try.underlying71
  have hu87 := Try.underlying87
  have ha3 := arr3
  have HR0_1 := Aside0.mk hr0_1
  have HR0_2 := Aside0.mk hr0_2
  have HR0_3 := Aside0.mk hr0_3
  have HR0_4 := Aside0.mk hr0_4
  clear hr0_1 hr0_2 hr0_3 hr0_4 hc0_1 hc0_2 hc0_3 hc0_4
  unfold gates_Check.f at h
  replace h := Option.some.inj h
  by_cases c1 : a0_0 < 0
  · rw [if_pos c1] at h
    have b1 : decide (a0_0 < 0) = true := decide_eq_true c1
    clear c1
    have H := Aside0.mk h
    clear h
    go_enter Try.func40, Try.ntmps40
    go_wp2
    go_ret
    exact ⟨by simp [← H.out], below_alloc (Below.refl _ _) _⟩
  have b1 : decide (a0_0 < 0) = false := decide_eq_false c1
  rw [if_neg c1] at h
  by_cases c2 : a0_0 > 1000
  · rw [if_pos c2] at h
    have b2 : decide (1000 < a0_0) = true := decide_eq_true c2
    clear c1 c2
    have H := Aside0.mk h
    clear h
    go_enter Try.func40, Try.ntmps40
    go_wp2
    go_ret
    exact ⟨by simp [← H.out], below_alloc (Below.refl _ _) _⟩
  rw [if_neg c2] at h
  have b2 : decide (1000 < a0_0) = false := decide_eq_false c2
  obtain ⟨s3, hs3⟩ : ∃ s, st3 a0_0 l0_1.length l0_2.length = s := ⟨_, rfl⟩
  rw [hs3] at h
  have HS := Aside0.mk hs3
  clear hs3
  by_cases c3 : wrap64 (s3 - 1) > 1000
  · rw [if_pos c3] at h
    have b3 : decide (1000 < wrap64 (s3 - 1)) = true := decide_eq_true c3
    clear c1 c2 c3
    have H := Aside0.mk h
    clear h
    go_enter Try.func40, Try.ntmps40
    go_wp2_with (go_at_call 54; (with_reducible refine (starts_calls a0_0 _ l0_1.length _ _ l0_2.length _ _ l0_3.length _ _ l0_4.length _ _).mono ?_); rw [HS.out]; rintro e w' ⟨rfl, hb⟩; have HB := Aside0.mk (below_step (below_alloc (Below.refl _ _) _) hb); have BK := Aside0.mk (blk_below (blk_new w (.cells #[.int .i64 a0_0, .slice A0_1 l0_1.length c0_1, .slice A0_2 l0_2.length c0_2, .slice A0_3 l0_3.length c0_3, .slice A0_4 l0_4.length c0_4] 45)) hb); have k1 := blk_cell BK.out 1; have k2 := blk_cell BK.out 2; have k3 := blk_cell BK.out 3; have k4 := blk_cell BK.out 4; have k0 := blk_cell BK.out 0; simp only [List.getElem?_toArray, List.getElem?_cons_succ, List.getElem?_cons_zero] at k0 k1 k2 k3 k4; clear hb)
    go_ret
    exact ⟨by simp [← H.out], HB.out⟩
  rw [if_neg c3] at h
  have b3 : decide (1000 < wrap64 (s3 - 1)) = false := decide_eq_false c3
  obtain ⟨m, hm⟩ : ∃ m : Int, (if (l0_3.length : Int) < (l0_4.length : Int) then (l0_4.length : Int) else (l0_3.length : Int)) = m := ⟨_, rfl⟩
  rw [hm] at h
  have hm' : (if l0_3.length < l0_4.length then (l0_4.length : Int) else (l0_3.length : Int)) = m := by rw [← hm]; split <;> split <;> omega
  by_cases c4 : m > 100
  · rw [if_pos c4] at h
    have b4 : decide (100 < m) = true := decide_eq_true c4
    clear c1 c2 c3 c4
    have H := Aside0.mk h
    clear h
    go_enter Try.func40, Try.ntmps40
    go_wp2_with (go_at_call 54; (with_reducible refine (starts_calls a0_0 _ l0_1.length _ _ l0_2.length _ _ l0_3.length _ _ l0_4.length _ _).mono ?_); rw [HS.out]; rintro e w' ⟨rfl, hb⟩; have HB := Aside0.mk (below_step (below_alloc (Below.refl _ _) _) hb); have BK := Aside0.mk (blk_below (blk_new w (.cells #[.int .i64 a0_0, .slice A0_1 l0_1.length c0_1, .slice A0_2 l0_2.length c0_2, .slice A0_3 l0_3.length c0_3, .slice A0_4 l0_4.length c0_4] 45)) hb); have k1 := blk_cell BK.out 1; have k2 := blk_cell BK.out 2; have k3 := blk_cell BK.out 3; have k4 := blk_cell BK.out 4; have k0 := blk_cell BK.out 0; simp only [List.getElem?_toArray, List.getElem?_cons_succ, List.getElem?_cons_zero] at k0 k1 k2 k3 k4; clear hb)
    go_ret
    exact ⟨by simp [← H.out], HB.out⟩
  rw [if_neg c4] at h
  have b4 : decide (100 < m) = false := decide_eq_false c4
  clear c1 c2 c3 c4
  have H := Aside0.mk h
  clear h
  go_enter Try.func40, Try.ntmps40
  go_upto_region 5 with (go_at_call 54; (with_reducible refine (starts_calls a0_0 _ l0_1.length _ _ l0_2.length _ _ l0_3.length _ _ l0_4.length _ _).mono ?_); rw [HS.out]; rintro e w1 ⟨rfl, hb⟩; have HB := Aside0.mk (below_step (below_alloc (Below.refl _ _) _) hb); have BK := Aside0.mk (blk_below (blk_new w (.cells #[.int .i64 a0_0, .slice A0_1 l0_1.length c0_1, .slice A0_2 l0_2.length c0_2, .slice A0_3 l0_3.length c0_3, .slice A0_4 l0_4.length c0_4] 45)) hb); have k1 := blk_cell BK.out 1; have k2 := blk_cell BK.out 2; have k3 := blk_cell BK.out 3; have k4 := blk_cell BK.out 4; have k0 := blk_cell BK.out 0; simp only [List.getElem?_toArray, List.getElem?_cons_succ, List.getElem?_cons_zero] at k0 k1 k2 k3 k4; clear hb)
  go_upto_region 8 with (go_at_call 54; (with_reducible refine (starts_calls a0_0 _ l0_1.length _ _ l0_2.length _ _ l0_3.length _ _ l0_4.length _ _).mono ?_); rw [HS.out]; rintro e w2 ⟨rfl, hb⟩; have HB2 := Aside0.mk (below_step HB.out hb); have BK2 := Aside0.mk (blk_below BK.out hb); clear BK HB k0 k1 k2 k3 k4; have k1 := blk_cell BK2.out 1; have k2 := blk_cell BK2.out 2; have k3 := blk_cell BK2.out 3; have k4 := blk_cell BK2.out 4; have k0 := blk_cell BK2.out 0; simp only [List.getElem?_toArray, List.getElem?_cons_succ, List.getElem?_cons_zero] at k0 k1 k2 k3 k4; clear hb)
  obtain ⟨W, hW⟩ : ∃ W : World, ((w2.alloc (.cells #[.int .i64 1, .int .i64 (st1 a0_0), .int .i64 (st2 a0_0 l0_1.length), .int .i64 s3] 87)).alloc (.cells #[.func (.func 55) #[] #[.pointer (some ⟨w2.heap.size, 0, none⟩)]] 90)) = W := ⟨_, rfl⟩
  have BS : W.heap[w2.heap.size]? = some (.cells #[.int .i64 1, .int .i64 (st1 a0_0), .int .i64 (st2 a0_0 l0_1.length), .int .i64 s3] 87 (0, 0)) := by rw [← hW]; exact blk_alloc (blk_new _ _) _
  have BO : W.heap[w2.heap.size + 1]? = some (.cells #[.func (.func 55) #[] #[.pointer (some ⟨w2.heap.size, 0, none⟩)]] 90 (0, 0)) := by rw [← hW]; exact (by simp : (w2.alloc (.cells #[.int .i64 1, .int .i64 (st1 a0_0), .int .i64 (st2 a0_0 l0_1.length), .int .i64 s3] 87)).heap.size = w2.heap.size + 1) ▸ blk_new _ _
  have HB3 : Aside0 (Below w.heap.size w W) := ⟨by rw [← hW]; exact below_alloc (below_alloc HB2.out _) _⟩
  have BK3 : W.heap[w.heap.size]? = some (.cells #[.int .i64 a0_0, .slice A0_1 l0_1.length c0_1, .slice A0_2 l0_2.length c0_2, .slice A0_3 l0_3.length c0_3, .slice A0_4 l0_4.length c0_4] 45) := by rw [← hW]; exact blk_alloc (blk_alloc BK2.out _) _
  rw [hW]
  clear hW k0 k1 k2 k3 k4 BK2 HB2
  generalize w2.heap.size = gs at BS BO ⊢
  generalize gs + 1 = go at BO ⊢
  have k1 := blk_cell BK3 1
  have k2 := blk_cell BK3 2
  have k3 := blk_cell BK3 3
  have k4 := blk_cell BK3 4
  have q0 := blk_cell BO 0
  simp only [List.getElem?_toArray, List.getElem?_cons_succ, List.getElem?_cons_zero] at k1 k2 k3 k4 q0
  have BS := Aside0.mk BS
  have BO := Aside0.mk BO
  have BK3 := Aside0.mk BK3
  clear w1 w2
  generalize h5 : l0_3.any (outS s3) = y5 at H
  have C5 := Aside0.mk h5
  clear h5
  cases y5 with
  | true =>
    go_wp2_with (go_at_call 57; ((with_reducible refine (containsInts_calls _ _ l0_3 (outS s3) gs _ ?c1 ?c2).mono ?_); (case c1 => exact Kd.C_below HR0_3.out HB3.out); (case c2 => exact outP BS.out); rw [C5.out]; rintro e w' ⟨rfl, ⟨nd, rfl⟩⟩))
    go_ret
    exact ⟨by simp [← H.out], pw_below_drewN HB3.out _⟩
  | false =>
  generalize h6 : l0_4.any (outS s3) = y6 at H
  have C6 := Aside0.mk h6
  clear h6
  cases y6 with
  | true =>
    go_wp2_with (go_at_call 57; (first | ((with_reducible refine (containsInts_calls _ _ l0_3 (outS s3) gs _ ?c1 ?c2).mono ?_); (case c1 => exact Kd.C_below HR0_3.out HB3.out); (case c2 => exact outP BS.out); rw [C5.out]; rintro e w' ⟨rfl, ⟨nd, rfl⟩⟩) | ((with_reducible refine (containsInts_calls _ _ l0_4 (outS s3) gs _ ?c3 ?c4).mono ?_); (case c3 => exact Kd.C_below HR0_4.out (pw_below_drewN HB3.out _)); (case c4 => exact outP (blk_drewN BS.out _)); rw [C6.out]; rintro e w' ⟨rfl, ⟨nd2, rfl⟩⟩)))
    go_ret
    exact ⟨by simp [← H.out], pw_below_drewN HB3.out _⟩
  | false =>
  generalize h7 : l0_1.any (wrongS s3) = y7 at H
  have C7 := Aside0.mk h7
  clear h7
  cases y7 with
  | true =>
    go_wp2_with (first | (go_at_call 57; (first | ((with_reducible refine (containsInts_calls _ _ l0_3 (outS s3) gs _ ?c1 ?c2).mono ?_); (case c1 => exact Kd.C_below HR0_3.out HB3.out); (case c2 => exact outP BS.out); rw [C5.out]; rintro e w' ⟨rfl, ⟨nd, rfl⟩⟩) | ((with_reducible refine (containsInts_calls _ _ l0_4 (outS s3) gs _ ?c3 ?c4).mono ?_); (case c3 => exact Kd.C_below HR0_4.out (pw_below_drewN HB3.out _)); (case c4 => exact outP (blk_drewN BS.out _)); rw [C6.out]; rintro e w' ⟨rfl, ⟨nd2, rfl⟩⟩))) | (go_at_call 58; (with_reducible refine (containsLatches_calls _ _ l0_1 (wrongS s3) go _ ?c5 ?c6).mono ?_); (case c5 => exact Kd.C_below HR0_1.out (pw_below_drewN HB3.out _)); (case c6 => exact wrongP (blk_drewN BS.out _) (blk_drewN BO.out _)); rw [C7.out]; rintro e w7 ⟨rfl, hb⟩; have HB7 := Aside0.mk (below_step (pw_below_drewN HB3.out _) hb); have BS7 := Aside0.mk (blk_below (blk_drewN BS.out _) hb); have j2 := blk_cell (blk_below (blk_drewN BK3.out _) hb) 2; simp only [List.getElem?_toArray, List.getElem?_cons_succ, List.getElem?_cons_zero] at j2; clear hb))
    go_ret
    exact ⟨by simp [← H.out], HB7.out⟩
  | false =>
    go_upto_region 10 with (first | (go_at_call 57; (first | ((with_reducible refine (containsInts_calls _ _ l0_3 (outS s3) gs _ ?c1 ?c2).mono ?_); (case c1 => exact Kd.C_below HR0_3.out HB3.out); (case c2 => exact outP BS.out); rw [C5.out]; rintro e w' ⟨rfl, ⟨nd, rfl⟩⟩) | ((with_reducible refine (containsInts_calls _ _ l0_4 (outS s3) gs _ ?c3 ?c4).mono ?_); (case c3 => exact Kd.C_below HR0_4.out (pw_below_drewN HB3.out _)); (case c4 => exact outP (blk_drewN BS.out _)); rw [C6.out]; rintro e w' ⟨rfl, ⟨nd2, rfl⟩⟩))) | (go_at_call 58; (with_reducible refine (containsLatches_calls _ _ l0_1 (wrongS s3) go _ ?c5 ?c6).mono ?_); (case c5 => exact Kd.C_below HR0_1.out (pw_below_drewN HB3.out _)); (case c6 => exact wrongP (blk_drewN BS.out _) (blk_drewN BO.out _)); rw [C7.out]; rintro e w7 ⟨rfl, hb⟩; have HB7 := Aside0.mk (below_step (pw_below_drewN HB3.out _) hb); have BS7 := Aside0.mk (blk_below (blk_drewN BS.out _) hb); have j2 := blk_cell (blk_below (blk_drewN BK3.out _) hb) 2; simp only [List.getElem?_toArray, List.getElem?_cons_succ, List.getElem?_cons_zero] at j2; clear hb))
    clear k1 k2 k3 k4 q0
    have H8 : (if gatesBad (st2 a0_0 l0_1.length) l0_2 = true then (8 : Int) else 0) = r := H.out
    have H := Aside0.mk H8
    clear H8
    have HN := HR0_2.out.2.1
    go_wp2
    go_loopg [54] (l0_2.length + 1) (fun kq v54 w' => ∃ (i : Nat), v54 = .int .i64 (i : Int) ∧ Aside0 (i ≤ l0_2.length ∧ kq + i = l0_2.length + 1 ∧ ((List.range i).any fun q => gateBad (st2 a0_0 l0_1.length) q (rd_T71 l0_2 q)) = false) ∧ Aside0 (Below w.heap.size w w') ∧ Aside0 (w'.heap[gs]? = some (.cells #[.int .i64 1, .int .i64 (st1 a0_0), .int .i64 (st2 a0_0 l0_1.length), .int .i64 s3] 87 (0, 0))))
    case atStart => exact ⟨0, by simp, ⟨by omega, by omega, by simp⟩, HB7, BS7⟩
    case round =>
      clear HB7 BS7 j2
      obtain ⟨i, rfl, HI, HB7, BS7⟩ := hrel
      by_cases c : i < l0_2.length
      · have cb : decide (i < l0_2.length) = true := decide_eq_true c
        obtain ⟨ad, rfl, hx, hy⟩ := at_T71n (Kd.C_below HR0_2.out HB7.out) i c
        have z2 := blk_cell BS7.out 2
        simp only [List.getElem?_toArray, List.getElem?_cons_succ, List.getElem?_cons_zero] at z2
        have hgs := blk_lt BS7.out
        have hne := Nat.ne_of_lt hgs
        by_cases d1 : (rd_T71 l0_2 i).f1 < 0
        · have e1 : decide ((rd_T71 l0_2 i).f1 < 0) = true := decide_eq_true d1
          have HG : gatesBad (st2 a0_0 l0_1.length) l0_2 = true := List.any_eq_true.2 ⟨i, List.mem_range.2 c, by simp [gateBad, d1]⟩
          have H9 : 8 = r := by have := H.out; rw [if_pos HG] at this; exact this
          have H9 := Aside0.mk H9
          clear HG H d1
          go_wp2
          go_ret
          exact ⟨by simp [← H9.out], below_alloc HB7.out _⟩
        have e1 : decide ((rd_T71 l0_2 i).f1 < 0) = false := decide_eq_false d1
        by_cases d2 : (rd_T71 l0_2 i).f0 < (rd_T71 l0_2 i).f1
        · have e2 : decide ((rd_T71 l0_2 i).f0 < (rd_T71 l0_2 i).f1) = true := decide_eq_true d2
          have HG : gatesBad (st2 a0_0 l0_1.length) l0_2 = true := List.any_eq_true.2 ⟨i, List.mem_range.2 c, by simp [gateBad, d2]⟩
          have H9 : 8 = r := by have := H.out; rw [if_pos HG] at this; exact this
          have H9 := Aside0.mk H9
          clear HG H d1 d2
          go_wp2
          go_ret
          exact ⟨by simp [← H9.out], below_alloc HB7.out _⟩
        have e2 : decide ((rd_T71 l0_2 i).f0 < (rd_T71 l0_2 i).f1) = false := decide_eq_false d2
        by_cases d3 : wrap64 (2 * wrap64 (st2 a0_0 l0_1.length + i)) ≤ (rd_T71 l0_2 i).f0
        · have e3 : decide (wrap64 (2 * wrap64 (st2 a0_0 l0_1.length + i)) ≤ (rd_T71 l0_2 i).f0) = true := decide_eq_true d3
          have HG : gatesBad (st2 a0_0 l0_1.length) l0_2 = true := List.any_eq_true.2 ⟨i, List.mem_range.2 c, by simp [gateBad, d3]⟩
          have H9 : 8 = r := by have := H.out; rw [if_pos HG] at this; exact this
          have H9 := Aside0.mk H9
          clear HG H d1 d2 d3
          go_wp2
          go_ret
          exact ⟨by simp [← H9.out], below_alloc HB7.out _⟩
        have e3 : decide (wrap64 (2 * wrap64 (st2 a0_0 l0_1.length + i)) ≤ (rd_T71 l0_2 i).f0) = false := decide_eq_false d3
        have HI2 : Aside0 (((List.range (i + 1)).any fun q => gateBad (st2 a0_0 l0_1.length) q (rd_T71 l0_2 q)) = false) := ⟨by
          rw [List.range_succ, List.any_append, HI.out.2.2]
          simp only [List.any_cons, List.any_nil, Bool.or_false, Bool.false_or, gateBad, e1, e2, e3]⟩
        clear d1 d2 d3
        go_wp2
        go_roundg (gk - 1)
        case rel => exact ⟨i + 1, by go_num, ⟨by omega, by have := HI.out; omega, HI2.out⟩, ⟨below_alloc HB7.out _⟩, ⟨blk_alloc BS7.out _⟩⟩
        case measure => have := HI.out; omega
      · have cb : decide (i < l0_2.length) = false := decide_eq_false c
        go_wp2
        go_ret
        have hz := HI.out.2.2
        have hl := HI.out.1
        have he : i = l0_2.length := by omega
        subst he
        have H9 := H.out
        rw [if_neg (show ¬ gatesBad (st2 a0_0 l0_1.length) l0_2 = true by unfold gatesBad; rw [hz]; decide)] at H9
        exact ⟨by simp [← H9], HB7.out⟩

-- NOT PRINTED: function 59 (slices_Grow_uint8_uint8)

/-! ### slices_Concat_uint8_uint8: function 41, by hand -/
theorem infoU8 : (Try.prog.info? 5).map (fun i => (i.zero, i.size, i.bytes)) = some (some (.int .u8 0), 1, 1) := by kernel_rfl
theorem cutZero (A : Option Addr) (len c : Nat) (h : len ≤ c) (W : World) : (Instr.slice 22 (.slice A len c) none (some (.int .i64 0)) none).run Try.prog W = .ok (.slice A 0 c) W := by
  obtain ⟨i0, hi, hzz⟩ := Option.map_eq_some_iff.1 infoU8
  simp only [Prod.mk.injEq] at hzz
  have := (print_take_of (Value.int .u8) (0 : Int) 22 5 .i64 Try.underlying22 hi hzz.2.1 A c (List.replicate len (0 : Int)) 0 (by omega) (by simp) (by simpa using h)).1 W
  simpa using this
set_option maxHeartbeats 2000000 in
set_option maxRecDepth 100000 in
theorem growNil_calls (n : Int) (w : World) (h0 : 0 ≤ n) (h1 : n ≤ 140737488355328) :
    Calls Try.prog 59 #[.slice none 0 0, .int .i64 n] w fun e w' => ∃ v, e = .returned v ∧ Kd.R (Kd.int .u8) 5 w' w.heap.size (fun _ => True) v [] ∧ Below w.heap.size w w' := by
  have hu22 := Try.underlying22
  have hu5 := Try.underlying5
  have hn : decide (n < 0) = false := decide_eq_false (by omega)
  by_cases c : 0 < n
  · have cb : decide (0 < n) = true := decide_eq_true c
    go_enter Try.func59, Try.ntmps59
    go_wp2_with (at_builtin; refine Kd.R_append_zeros (Kd.int .u8) (w0 := w) w.heap.size rfl _ _ 22 _ 5 (.int .u8 0) 1 rfl hu22 Try.underlying3 infoU8 rfl (by decide) (by decide) (.slice none 0 0) [] 0 n (fun _ => True) rfl rfl rfl (fun _ _ => trivial) (Kd.R_nil _ _ _ _ _) h0 (Below.refl _ _) (Nat.le_refl _) (by simp; omega) ?_; intro v1 w1 HO hb hg hat; clear hg hat; obtain ⟨A1, c1, rfl, hl1, hr1⟩ := Kd.R_reads HO; have HO := Aside0.mk HO; have hcut := cutZero A1 _ c1 hl1; clear hr1 hl1; have HB := Aside0.mk hb; clear hb)
    go_ret
    exact ⟨_, rfl, Kd.R_take HO.out (Nat.zero_le _), HB.out⟩
  · have cb : decide (0 < n) = false := decide_eq_false c
    go_enter Try.func59, Try.ntmps59
    go_wp2
    go_ret
    exact ⟨_, rfl, Kd.R_nil _ _ _ _ _, Below.refl _ _⟩
def slices_Concat_uint8_uint8.f (l0 : List (List Int)) : Option (List Int) := if l0.flatten.length ≤ 140737488355328 then some l0.flatten else none
theorem flat_take (ll : List (List Int)) (i : Nat) (h : i < ll.length) : (ll.take (i + 1)).flatten = (ll.take i).flatten ++ ll.getD i [] := by
  rw [List.take_succ_eq_append_getElem h, List.flatten_append]
  simp [List.getD, h]
theorem flat_take_le (ll : List (List Int)) (i : Nat) : (ll.take i).flatten.length ≤ ll.flatten.length := by
  have : ll.flatten = (ll.take i).flatten ++ (ll.drop i).flatten := by rw [← List.flatten_append, List.take_append_drop]
  rw [this, List.length_append]; omega
theorem at_rows {w : World} {A : Option Addr} {ll : List (List Int)} (h : Kd.C (Kd.slice 5 (Kd.int .u8)) w A ll.length ll) (i : Nat) (hi : i < ll.length) :
    ∃ ad A1 c1, A = some ad ∧ w.cell? (ad.add i) = some (.slice A1 (ll.getD i []).length c1) ∧ (ll.getD i []).length ≤ c1 ∧ Kd.C (Kd.int .u8) w A1 (ll.getD i []).length (ll.getD i []) := by
  obtain ⟨ad, c, e, _, hK, hc0⟩ := Kd.C_get h [] (i : Int) (by omega) (by omega)
  obtain ⟨A1, c1, rfl, hl1, hC1⟩ := hK
  have hx : w.cell? (ad.add (i * 1 + 0)) = some (.slice A1 (ll.getD i []).length c1) := hc0 0 _ rfl
  rw [Nat.mul_one, Nat.add_zero] at hx
  exact ⟨ad, A1, c1, e, hx, hl1, hC1⟩
set_option maxHeartbeats 4000000 in
set_option maxRecDepth 100000 in
theorem slices_Concat_uint8_uint8.calls (A0 : Option Addr) (c0 : Nat) (l0 : List (List Int)) (r : List Int) (w : World) (hr0 : Kd.C (Kd.slice 5 (Kd.int .u8)) w A0 l0.length l0) (hc0 : l0.length ≤ c0) (h : slices_Concat_uint8_uint8.f l0 = some r) :
    Calls Try.prog 41 #[.slice A0 l0.length c0] w fun e w' => ∃ v1_ : Value, e = .returned (v1_) ∧ Kd.R (Kd.int .u8) 5 w' w.heap.size (fun _ => True) v1_ r ∧ Below w.heap.size w w' := by
  have hu22 := Try.underlying22
  have hu5 := Try.underlying5
  unfold slices_Concat_uint8_uint8.f at h
  split at h
  · rename_i hb
    obtain rfl := Option.some.inj h
    have HR := Aside0.mk hr0
    have HN := hr0.2.1
    have HT := Aside0.mk hb
    clear hr0 hb h
    go_enter Try.func41, Try.ntmps41
    go_wp2
    go_loopg [3, 11] (l0.length + 1) (fun kq v3 v11 w' => ∃ (i : Nat) (s : Int), v11 = .int .i64 (i : Int) ∧ v3 = .int .i64 s ∧ Aside0 (i ≤ l0.length ∧ kq + i = l0.length + 1 ∧ s = ((l0.take i).flatten.length : Int)) ∧ Aside0 (Drawn0 w w'))
    case atStart => exact ⟨0, 0, by simp, by simp, ⟨by omega, by omega, by simp⟩, ⟨Drawn0.refl _⟩⟩
    case round =>
      obtain ⟨i, s, rfl, rfl, HI, HD⟩ := hrel
      obtain ⟨⟨n1, rfl⟩⟩ := HD.out
      by_cases c : i < l0.length
      · have cb : decide (i < l0.length) = true := decide_eq_true c
        obtain ⟨ad, A1, c1, rfl, hx, hl1, hC1⟩ := at_rows HR.out i c
        have hf := flat_take l0 i c
        have hle := flat_take_le l0 (i + 1)
        have hT := HT.out
        rw [hf, List.length_append] at hle
        have hs := HI.out.2.2
        have b0 : 0 ≤ s := by omega
        have b1 : s + ((l0.getD i []).length : Int) ≤ 140737488355328 := by omega
        have b2 : decide (s + ((l0.getD i []).length : Int) < 0) = false := decide_eq_false (by omega)
        have HS : Aside0 (s + ((l0.getD i []).length : Int) = ((l0.take (i + 1)).flatten.length : Int)) := ⟨by rw [hf, List.length_append]; omega⟩
        have b3 : 0 ≤ s + ((l0.getD i []).length : Int) := by omega
        clear hf hle hT hs hC1 hl1
        generalize (l0.getD i []).length = q at hx b1 b2 HS b3
        go_wp2
        go_roundg (gk - 1)
        case rel => exact ⟨i + 1, s + (q : Int), by go_num, rfl, ⟨by omega, by have := HI.out; omega, HS.out⟩, ⟨⟨⟨_, rfl⟩⟩⟩⟩
        case measure => have := HI.out; omega
      · have cb : decide (i < l0.length) = false := decide_eq_false c
        have hs : s = (l0.flatten.length : Int) := by
          have := HI.out.2.2
          rw [List.take_of_length_le (by omega)] at this
          exact this
        have hT := HT.out
        have b0 : 0 ≤ s := by omega
        have b1 : s ≤ 140737488355328 := by omega
        clear hs hT
        go_upto_region 10 with (go_at_call 59; (with_reducible refine (growNil_calls s _ b0 b1).mono ?_); rintro e w1 ⟨v1, rfl, hR1, hb1⟩; have HV := Aside0.mk hR1; have HB := Aside0.mk (below_step (pw_below_drewN (Below.refl _ w) _) hb1); clear hR1 hb1)
        go_wp2
        go_loopg [6, 27] (l0.length + 1) (fun kq v6 v27 w' => ∃ (i : Nat), v27 = .int .i64 (i : Int) ∧ Aside0 (i ≤ l0.length ∧ kq + i = l0.length + 1) ∧ Aside0 (Kd.R (Kd.int .u8) 5 w' w.heap.size (fun _ => True) v6 (l0.take i).flatten) ∧ Aside0 (Below w.heap.size w w'))
        case atStart => exact ⟨0, by simp, ⟨by omega, by omega⟩, ⟨by simpa using HV.out⟩, HB⟩
        case round =>
          clear HV HB
          obtain ⟨j, rfl, HJ, HV, HB⟩ := hrel
          by_cases d : j < l0.length
          · have db : decide (j < l0.length) = true := decide_eq_true d
            obtain ⟨ad, A1, c1, rfl, hx, hl1, hC1⟩ := at_rows (Kd.C_below HR.out HB.out) j d
            have HC1 := Aside0.mk hC1
            have HF := Aside0.mk (flat_take l0 j d)
            have hle := flat_take_le l0 (j + 1)
            have hT2 := HT.out
            rw [HF.out, List.length_append] at hle
            have HL := Aside0.mk (show ((l0.take j).flatten.length + (l0.getD j []).length) * 1 ≤ 140737488355328 by omega)
            clear hC1 hl1 hle hT2
            generalize l0.getD j [] = ys at hx HC1 HF HL
            go_wp2_with (at_builtin; refine Kd.R_append_row (Value.int .u8) (0 : Int) (w0 := w) w.heap.size rfl _ _ 22 5 (.int .u8 0) 1 rfl hu22 infoU8 rfl (by decide) _ (l0.take j).flatten ys _ ys.length c1 (fun _ => True) rfl rfl (fun _ _ => trivial) HV.out HC1.out HB.out HB.out.size HL.out ?_; intro v2 w2 hR2 hb2 hg hat; clear hg hat; rw [← HF.out] at hR2; have HV2 := Aside0.mk hR2; have HB2 := Aside0.mk hb2; clear hR2 hb2)
            go_roundg (gk - 1)
            case rel => exact ⟨j + 1, by go_num, ⟨by omega, by have := HJ.out; omega⟩, HV2, HB2⟩
            case measure => have := HJ.out; omega
          · have db : decide (j < l0.length) = false := decide_eq_false d
            go_wp2
            go_ret
            have hv := HV.out
            rw [List.take_of_length_le (by omega)] at hv
            exact ⟨_, rfl, hv, HB.out⟩
  · simp at h

/-! ### ternary_not: function 37 -/
def ternary_not.f (a0 : Int) : Option (Int) := if a0 = 2 then (some a0) else (some (Go.bits .xor .u8 a0 1))
set_option maxHeartbeats 8000000 in
set_option maxRecDepth 100000 in
theorem ternary_not.calls (a0 : Int) (r : Int) (w : World) (h : ternary_not.f a0 = some r) :
    Calls Try.prog 37 #[.int .u8 a0] w fun e w' => e = .returned (.int .u8 r) ∧ Drawn0 w w' := by
  have H : (if a0 = 2 then (some a0) else (some (Go.bits .xor .u8 a0 1))) = some r := h
  clear h
  by_cases c2 : a0 = 2
  · rw [if_pos c2] at H
    have c2b0 : (a0 == 2) = true := beq_iff_eq.mpr c2
    have c2b1 : (a0 != 2) = false := bne_eq_false_iff_eq.mpr c2
    clear c2
    obtain rfl := Option.some.inj H
    go_enter Try.func37, Try.ntmps37
    go_wp2
    go_ret
    exact ⟨by first | rfl | (simp; done) | (simp [*]; done), by repeat (first | exact Drawn0.refl _ | apply Drawn0.step)⟩
  · rw [if_neg c2] at H
    have c2b0 : (a0 == 2) = false := beq_eq_false_iff_ne.mpr c2
    have c2b1 : (a0 != 2) = true := bne_iff_ne.mpr c2
    obtain rfl := Option.some.inj H
    go_enter Try.func37, Try.ntmps37
    go_wp2
    go_ret
    exact ⟨by first | rfl | (simp; done) | (simp [*]; done), by repeat (first | exact Drawn0.refl _ | apply Drawn0.step)⟩

/-! ### ternary_of: function 42 -/
def ternary_of.f (l0 : List Int) (a1 : Int) : Option (Int) := if (Go.bits .and .i64 a1 1) = 1 then (if 0 ≤ (a1 / 2) then (if (a1 / 2) < (l0.length : Int) then ((ternary_not.f (rd l0 (a1 / 2))).bind fun t115 => (some t115)) else (none)) else (none)) else (if 0 ≤ (a1 / 2) then (if (a1 / 2) < (l0.length : Int) then (some (rd l0 (a1 / 2))) else (none)) else (none))
set_option maxHeartbeats 8000000 in
set_option maxRecDepth 100000 in
theorem ternary_of.calls (A0 : Option Addr) (c0 : Nat) (l0 : List Int) (a1 : Int) (r : Int) (w : World) (hr0 : Kd.C (Kd.int .u8) w A0 l0.length l0) (hc0 : l0.length ≤ c0) (h : ternary_of.f l0 a1 = some r) :
    Calls Try.prog 42 #[.slice A0 l0.length c0, .int .i64 a1] w fun e w' => e = .returned (.int .u8 r) ∧ Drawn0 w w' := by
  have HR0 := Aside0.mk hr0
  have HC0 := Aside0.mk hc0
  clear hr0 hc0
  have H : (if (Go.bits .and .i64 a1 1) = 1 then (if 0 ≤ (a1 / 2) then (if (a1 / 2) < (l0.length : Int) then ((ternary_not.f (rd l0 (a1 / 2))).bind fun t115 => (some t115)) else (none)) else (none)) else (if 0 ≤ (a1 / 2) then (if (a1 / 2) < (l0.length : Int) then (some (rd l0 (a1 / 2))) else (none)) else (none))) = some r := h
  clear h
  by_cases c3 : (Go.bits .and .i64 a1 1) = 1
  · rw [if_pos c3] at H
    have c3b0 : ((Go.bits .and .i64 a1 1) == 1) = true := beq_iff_eq.mpr c3
    have c3b1 : ((Go.bits .and .i64 a1 1) != 1) = false := bne_eq_false_iff_eq.mpr c3
    clear c3
    obtain ⟨ji4, hji4⟩ : ∃ j_ : Int, (a1 / 2) = j_ := ⟨_, rfl⟩
    replace H : (if 0 ≤ (ji4) then (if (ji4) < (l0.length : Int) then ((ternary_not.f (rd l0 (ji4))).bind fun t115 => (some t115)) else (none)) else (none)) = some r := by first | (rw [hji4] at H; exact H) | (simp only [hji4] at H ⊢; exact H)
    by_cases c5 : 0 ≤ (ji4)
    · rw [if_pos c5] at H
      have c5b0 : decide (0 ≤ (ji4)) = true := decide_eq_true c5
      clear c5
      by_cases c6 : (ji4) < (l0.length : Int)
      · rw [if_pos c6] at H
        have c6b0 : decide ((ji4) < (l0.length : Int)) = true := decide_eq_true c6
        clear c6
        replace H := Option.bind_eq_some_iff.mp H
        obtain ⟨t115, A70, H⟩ := H
        replace H : (some t115) = some r := H
        have A7 := Aside0.mk A70
        clear A70
        obtain rfl := Option.some.inj H
        have p114 : 0 ≤ ((ji4) : Int) := of_decide_eq_true (by first | (with_reducible assumption) | assumption)
        have q114 : (ji4) < (l0.length : Int) := of_decide_eq_true (by first | (with_reducible assumption) | assumption)
        obtain ⟨ad114, e114, hx114_0⟩ := Kd.at_int HR0.out (ji4) p114 q114
        cases e114
        replace p114 := eq_true p114
        replace q114 := eq_true q114
        go_enter Try.func42, Try.ntmps42
        go_wp2_with (first | ((with_reducible refine gate_callee (f := 37) rfl ?_); refine goesL_ (some 13) rfl rfl Try.func37 (by kernel_rfl) rfl #[.int .u8 (rd l0 (ji4))] rfl (by (try simp only [List.map_toArray, List.map_cons, List.map_nil]); first | done | (simp only [hji4]; rfl) | rfl | (simp only [List.length_drop, List.length_take]; rfl)) ?_; (with_reducible refine (ternary_not.calls (rd l0 (ji4)) t115 _ A7.out).mono ?_); rintro e w' ⟨rfl, ⟨nd, rfl⟩⟩; refine ⟨_, rfl, ?_⟩))
        go_ret
        exact ⟨by first | rfl | (simp; done) | (simp only [← hji4] <;> (first | rfl | (simp; done))) | (congr 1; symm; assumption) | (simp [*]; done), by repeat (first | exact Drawn0.refl _ | apply Drawn0.step)⟩
      · rw [if_neg c6] at H
        exact absurd H (by simp)
    · rw [if_neg c5] at H
      exact absurd H (by simp)
  · rw [if_neg c3] at H
    have c3b0 : ((Go.bits .and .i64 a1 1) == 1) = false := beq_eq_false_iff_ne.mpr c3
    have c3b1 : ((Go.bits .and .i64 a1 1) != 1) = true := bne_iff_ne.mpr c3
    obtain ⟨ji8, hji8⟩ : ∃ j_ : Int, (a1 / 2) = j_ := ⟨_, rfl⟩
    replace H : (if 0 ≤ (ji8) then (if (ji8) < (l0.length : Int) then (some (rd l0 (ji8))) else (none)) else (none)) = some r := by first | (rw [hji8] at H; exact H) | (simp only [hji8] at H ⊢; exact H)
    by_cases c9 : 0 ≤ (ji8)
    · rw [if_pos c9] at H
      have c9b0 : decide (0 ≤ (ji8)) = true := decide_eq_true c9
      clear c9
      by_cases c10 : (ji8) < (l0.length : Int)
      · rw [if_pos c10] at H
        have c10b0 : decide ((ji8) < (l0.length : Int)) = true := decide_eq_true c10
        clear c10
        obtain rfl := Option.some.inj H
        have p116 : 0 ≤ ((ji8) : Int) := of_decide_eq_true (by first | (with_reducible assumption) | assumption)
        have q116 : (ji8) < (l0.length : Int) := of_decide_eq_true (by first | (with_reducible assumption) | assumption)
        obtain ⟨ad116, e116, hx116_0⟩ := Kd.at_int HR0.out (ji8) p116 q116
        cases e116
        replace p116 := eq_true p116
        replace q116 := eq_true q116
        go_enter Try.func42, Try.ntmps42
        go_wp2
        go_ret
        exact ⟨by first | rfl | (simp; done) | (simp only [← hji8] <;> (first | rfl | (simp; done))) | (congr 1; symm; assumption) | (simp [*]; done), by repeat (first | exact Drawn0.refl _ | apply Drawn0.step)⟩
      · rw [if_neg c10] at H
        exact absurd H (by simp)
    · rw [if_neg c9] at H
      exact absurd H (by simp)

end Go.Proofs.Ytddelmbkbpoelaa.QTernaryCovers
