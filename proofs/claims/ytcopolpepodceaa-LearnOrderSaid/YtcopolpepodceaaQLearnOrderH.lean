/- The walk of LearnOrder: what the law function does, step by step, given what the functions that it calls return. -/
import Derived.Test.YtcopolpepodceaaQLearnFollowsx0
import Derived.Test.YtcopolpepodceaaQLearnFollowsx1
import Derived.Test.YtcopolpepodceaaQLearnFollowsx6
import Derived.Test.YtcopolpepodceaaQLearnFollowsx7
import Derived.Test.YtcopolpepodceaaQLearnFollowsx10
import Derived.Deep.RegionHeld3
import Derived.Deep.RegionLaw
import Derived.Deep.CutBlock
import Derived.Deep.DeepCutAuto
namespace Go.Proofs.Ytcopolpepodceaa.QLearnOrder
open Go.RowKit Go.Proofs.Ytcopolpepodceaa.QLearnFollows Go.Proofs.YtcopolpepodceaaW.PrintWords Go.Proofs.YtcopolpepodceaaW.PrintLast Go.Proofs.YtcopolpepodceaaW.PrintMore
set_option linter.unusedVariables false
set_option linter.unusedSimpArgs false
theorem R_new0 {α : Type} (d : Kd α) {w W : World} (e : Nat) (hb : w.heap.size ≤ W.heap.size) : Kd.R d e (W.alloc (.cells #[] e)) w.heap.size (fun _ => True) (.slice (some ⟨W.heap.size, 0, none⟩) 0 0) [] := by
  refine ⟨fun k hk => trivial, [], ?_, Reps.none _ _⟩
  have h2 := World.ownsRow_lit (base := w.heap.size) (e := e) (size := d.sz) W #[] 0 hb (by decide) (by simp)
  simpa using h2
theorem R_new1 {α : Type} (d : Kd α) {w W : World} (e : Nat) (o : Obj) (hb : w.heap.size ≤ W.heap.size) : Kd.R d e ((W.alloc o).alloc (.cells #[] e)) w.heap.size (fun _ => True) (.slice (some ⟨W.heap.size + 1, 0, none⟩) 0 0) [] := by
  have := R_new0 d (w := w) (W := W.alloc o) e (by simp; omega)
  simpa using this
/-- Rows of slices that were read at w are read now. -/
theorem fixed_C {α : Type} {d : Kd α} {w W : World} {A : Option Addr} {n : Nat} {xs : List α} (h : (Kd.fixed d w).C W A n xs) (hb : Below w.heap.size w W) : d.C W A n xs :=
  ReadsRow.imp_ h (Below.refl _ _) (fun _ _ hp => d.K_below hb hp)
set_option maxHeartbeats 8000000 in
set_option maxRecDepth 100000 in
theorem order_walk (k : Nat) (b p : Bool) (a0 : Int) (A1 : Option Addr) (c1 : Nat) (l1 : List (List Int)) (A2 : Option Addr) (c2 : Nat) (l2 : List Int) (a3 : Int) (w : World) (hr1 : Kd.C (Kd.slice 3 (Kd.int .i64)) w A1 l1.length l1) (hc1 : l1.length ≤ c1) (hr2 : Kd.C (Kd.int .i64) w A2 l2.length l2) (hc2 : l2.length ≤ c2)
    (h0 : spiritlevellaw17_alive.f k = some true) (h1 : spiritlevellaw17_fit.f k a0 l1 l2 = some b) (h2 : b = true → l1.length ≤ 60 ∧ l2.length ≤ 50 ∧ learn_Conflict.f k a0 l1 l2 = some (p, 0))
    (h3 : b = true → ∀ c : Nat, c ≤ l1.length → c ≤ l2.length → learn_Conflict.f k a0 (l1.drop c ++ l1.take c) (l2.drop c ++ l2.take c) = some (p, 0)) :
    Calls Try.prog 6 #[.int .i64 a0, .slice A1 l1.length c1, .slice A2 l2.length c2, .int .i64 a3] w fun e w' => e = .returned (.bool true) ∧ Below w.heap.size w w' := by
  have HR1 := Aside0.mk hr1
  have HC1 := Aside0.mk hc1
  have HR2 := Aside0.mk hr2
  have HC2 := Aside0.mk hc2
  have H0 := Aside0.mk h0
  have H1 := Aside0.mk h1
  clear hr1 hc1 hr2 hc2 h0 h1
  cases b with
  | false =>
    clear h2 h3
    go_enter Try.func6, Try.ntmps6
    go_wp2_with (first
      | (go_at_call 14; (with_reducible refine (spiritlevellaw17_alive.calls k true _ H0.out).mono ?_); rintro e wa ⟨rfl, hb⟩; have HBa := Aside0.mk hb; clear hb)
      | (go_at_call 15; (with_reducible refine (spiritlevellaw17_fit.calls k a0 A1 c1 l1 A2 c2 l2 false _ (Kd.C_below HR1.out HBa.out) HC1.out (Kd.C_below HR2.out HBa.out) HC2.out H1.out).mono ?_); rintro e wb ⟨rfl, hb⟩; have HBb := Aside0.mk (below_step HBa.out hb); clear hb))
    go_ret
    exact ⟨by first | rfl | simp, HBb.out⟩
  | true =>
    obtain ⟨n1, n2, h2⟩ := h2 rfl
    have H2 := Aside0.mk h2
    have H3 := Aside0.mk (h3 rfl)
    have HN := Aside0.mk (And.intro n1 n2)
    clear h2 h3 n1 n2
    by_cases e0 : a3 < 0 ∨ a3 > (l1.length : Int) ∨ a3 > (l2.length : Int)
    · by_cases d0 : a3 < 0
      · have b0 : decide (a3 < 0) = true := decide_eq_true d0
        clear e0 d0
        go_enter Try.func6, Try.ntmps6
        go_wp2_with (first
          | (go_at_call 14; (with_reducible refine (spiritlevellaw17_alive.calls k true _ H0.out).mono ?_); rintro e wa ⟨rfl, hb⟩; have HBa := Aside0.mk hb; clear hb)
          | (go_at_call 15; (with_reducible refine (spiritlevellaw17_fit.calls k a0 A1 c1 l1 A2 c2 l2 true _ (Kd.C_below HR1.out HBa.out) HC1.out (Kd.C_below HR2.out HBa.out) HC2.out H1.out).mono ?_); rintro e wb ⟨rfl, hb⟩; have HBb := Aside0.mk (below_step HBa.out hb); clear hb))
        go_ret
        exact ⟨by first | rfl | simp, HBb.out⟩
      · have b0 : decide (a3 < 0) = false := decide_eq_false d0
        by_cases d1 : a3 > (l1.length : Int)
        · have b1 : decide (a3 > (l1.length : Int)) = true := decide_eq_true d1
          have b1' : decide ((l1.length : Int) < a3) = true := decide_eq_true d1
          clear e0 d0 d1
          go_enter Try.func6, Try.ntmps6
          go_wp2_with (first
            | (go_at_call 14; (with_reducible refine (spiritlevellaw17_alive.calls k true _ H0.out).mono ?_); rintro e wa ⟨rfl, hb⟩; have HBa := Aside0.mk hb; clear hb)
            | (go_at_call 15; (with_reducible refine (spiritlevellaw17_fit.calls k a0 A1 c1 l1 A2 c2 l2 true _ (Kd.C_below HR1.out HBa.out) HC1.out (Kd.C_below HR2.out HBa.out) HC2.out H1.out).mono ?_); rintro e wb ⟨rfl, hb⟩; have HBb := Aside0.mk (below_step HBa.out hb); clear hb))
          go_ret
          exact ⟨by first | rfl | simp, HBb.out⟩
        · have b1 : decide (a3 > (l1.length : Int)) = false := decide_eq_false d1
          have b1' : decide ((l1.length : Int) < a3) = false := decide_eq_false d1
          have d2 : a3 > (l2.length : Int) := by omega
          have b2 : decide (a3 > (l2.length : Int)) = true := decide_eq_true d2
          have b2' : decide ((l2.length : Int) < a3) = true := decide_eq_true d2
          clear e0 d0 d1 d2
          go_enter Try.func6, Try.ntmps6
          go_wp2_with (first
            | (go_at_call 14; (with_reducible refine (spiritlevellaw17_alive.calls k true _ H0.out).mono ?_); rintro e wa ⟨rfl, hb⟩; have HBa := Aside0.mk hb; clear hb)
            | (go_at_call 15; (with_reducible refine (spiritlevellaw17_fit.calls k a0 A1 c1 l1 A2 c2 l2 true _ (Kd.C_below HR1.out HBa.out) HC1.out (Kd.C_below HR2.out HBa.out) HC2.out H1.out).mono ?_); rintro e wb ⟨rfl, hb⟩; have HBb := Aside0.mk (below_step HBa.out hb); clear hb))
          go_ret
          exact ⟨by first | rfl | simp, HBb.out⟩
    · obtain ⟨c, rfl⟩ : ∃ c : Nat, a3 = (c : Int) := ⟨a3.toNat, by omega⟩
      have d1 : c ≤ l1.length := by omega
      have d2 : c ≤ l2.length := by omega
      have b0 : decide ((c : Int) < 0) = false := decide_eq_false (by omega)
      have b1 : decide ((c : Int) > (l1.length : Int)) = false := decide_eq_false (by omega)
      have b1' : decide ((l1.length : Int) < (c : Int)) = false := decide_eq_false (by omega)
      have b2 : decide ((c : Int) > (l2.length : Int)) = false := decide_eq_false (by omega)
      have b2' : decide ((l2.length : Int) < (c : Int)) = false := decide_eq_false (by omega)
      have p0 : (0 : Int) ≤ (c : Int) := by omega
      have p1 : (c : Int) ≤ (l1.length : Int) := by omega
      have p2 : (c : Int) ≤ (l2.length : Int) := by omega
      have p3 : (c : Int) ≤ (c1 : Int) := by have := HC1.out; omega
      have p4 : (c : Int) ≤ (c2 : Int) := by have := HC2.out; omega
      have p5 : (l1.length : Int) ≤ (c1 : Int) := by have := HC1.out; omega
      have p6 : (l2.length : Int) ≤ (c2 : Int) := by have := HC2.out; omega
      have H4 := Aside0.mk (H3.out c d1 d2)
      have HD := Aside0.mk (And.intro d1 d2)
      clear e0 H3 d1 d2
      go_enter Try.func6, Try.ntmps6
      go_upto_region 5 with (first
        | (go_at_call 14; (with_reducible refine (spiritlevellaw17_alive.calls k true _ H0.out).mono ?_); rintro e wa ⟨rfl, hb⟩; have HBa := Aside0.mk hb; clear hb)
        | (go_at_call 15; (with_reducible refine (spiritlevellaw17_fit.calls k a0 A1 c1 l1 A2 c2 l2 true _ (Kd.C_below HR1.out HBa.out) HC1.out (Kd.C_below HR2.out HBa.out) HC2.out H1.out).mono ?_); rintro e wb ⟨rfl, hb⟩; have HBb := Aside0.mk (below_step HBa.out hb); clear hb)
        | (go_at_call 9; (with_reducible refine (learn_Conflict.calls k a0 A1 c1 l1 A2 c2 l2 p 0 _ (Kd.C_below HR1.out HBb.out) HC1.out (Kd.C_below HR2.out HBb.out) HC2.out H2.out).mono ?_); rintro e wc ⟨rfl, hb⟩; have HBc := Aside0.mk (below_step HBb.out hb); clear hb))
      have DR1 := Aside0.mk (show (Kd.slice 3 (Kd.int .i64)).C w (if c1 = c then A1 else Option.map (fun x => x.add c) A1) (l1.length - c) (l1.drop c) by
        have := Kd.C_drop (m := c) HR1.out HD.out.1 HC1.out
        rw [List.length_drop, show c * (Kd.slice 3 (Kd.int .i64)).sz = c from Nat.mul_one c] at this
        exact this)
      have TR1 := Aside0.mk (show (Kd.slice 3 (Kd.int .i64)).C w A1 c (l1.take c) by
        have := Kd.C_take (m := c) HR1.out HD.out.1
        rw [List.length_take, Nat.min_eq_left HD.out.1] at this
        exact this)
      have DR2 := Aside0.mk (show (Kd.int .i64).C w (if c2 = c then A2 else Option.map (fun x => x.add c) A2) (l2.length - c) (l2.drop c) by
        have := Kd.C_drop (m := c) HR2.out HD.out.2 HC2.out
        rw [List.length_drop, show c * (Kd.int .i64).sz = c from Nat.mul_one c] at this
        exact this)
      have TR2 := Aside0.mk (show (Kd.int .i64).C w A2 c (l2.take c) by
        have := Kd.C_take (m := c) HR2.out HD.out.2
        rw [List.length_take, Nat.min_eq_left HD.out.2] at this
        exact this)
      have HL := Aside0.mk (show (([] : List (List Int)).length + (l1.length - c)) * 24 ≤ 140737488355328 ∧ ((l1.drop c).length + c) * 24 ≤ 140737488355328 ∧ (([] : List Int).length + (l2.length - c)) * 8 ≤ 140737488355328 ∧ ((l2.drop c).length + c) * 8 ≤ 140737488355328 by
        have h1 := HN.out; have h2 := HD.out
        rw [List.length_drop, List.length_drop, List.length_nil, List.length_nil]
        omega)
      obtain ⟨X1, X1E⟩ : ∃ X, Aside0 (X = l1.drop c ++ l1.take c) := ⟨_, ⟨rfl⟩⟩
      obtain ⟨X2, X2E⟩ : ∃ X, Aside0 (X = l2.drop c ++ l2.take c) := ⟨_, ⟨rfl⟩⟩
      rw [← X1E.out, ← X2E.out] at H4
      have N1 := Aside0.mk (R_new0 (Kd.fixed (Kd.slice 3 (Kd.int .i64)) w) (w := w) (W := wc) 23 HBc.out.size)
      have M1 := Aside0.mk (R_new1 (Kd.fixed (Kd.slice 3 (Kd.int .i64)) w) (w := w) (W := wc) 23 (.cells #[] 3) HBc.out.size)
      have N2 := Aside0.mk (R_new0 (Kd.int .i64) (w := w) (W := wc) 3 HBc.out.size)
      have M2 := Aside0.mk (R_new1 (Kd.int .i64) (w := w) (W := wc) 3 (.cells #[] 23) HBc.out.size)
      go_region_held3 (fun _ => True) (trivial)
        (first
          | (refine Kd.R_append_rows_step (Kd.fixed (Kd.slice 3 (Kd.int .i64)) w) (w0 := w) w.heap.size (by rfl) (.tmp 50) (.tmp 53) 22 23 (.slice none 0 0) 24 rfl Try.underlying22 info23 rfl (show 0 < 1 by decide) (by omega) _ [] (l1.drop c) _ _ _ (fun _ => True) (fun _ => False) rfl rfl ?aO ?aR (fun _ _ h => h) (fun _ h => h.elim) (fun _ _ => trivial) ?aB ?aS HL.out.1 ?_; (case aO => first | exact E1.out | exact Kd.R_drew E1.out | exact Kd.R_alloc E1.out _ | exact Kd.R_drew (Kd.R_alloc E1.out _) | exact N1.out | exact Kd.R_drew N1.out | exact Kd.R_alloc N1.out _ | exact Kd.R_drew (Kd.R_alloc N1.out _) | exact M1.out | exact Kd.R_drew M1.out); (case aR => exact ReadsRow.imp_ DR1.out (by repeat (first | with_reducible exact HBc.out | with_reducible apply below_alloc | with_reducible apply below_drew)) (fun _ _ h => h)); (case aB => repeat (first | with_reducible exact HBc.out | with_reducible apply below_alloc | with_reducible apply below_drew)); (case aS => exact below_size (by repeat (first | with_reducible exact HBc.out | with_reducible apply below_alloc | with_reducible apply below_drew))); intro v9 x9 hr hb1 hg hat; (first | (have En := Aside0.mk (Kd.R_over' (d := (Kd.int .i64)) (e := 3) (by first | exact E2.out | exact Kd.R_drew E2.out | exact Kd.R_alloc E2.out _ | exact Kd.R_drew (Kd.R_alloc E2.out _) | exact N2.out | exact Kd.R_drew N2.out | exact Kd.R_alloc N2.out _ | exact Kd.R_drew (Kd.R_alloc N2.out _) | exact M2.out | exact Kd.R_drew M2.out) (Kd.R_typed (d := (Kd.fixed (Kd.slice 3 (Kd.int .i64)) w)) (e := 23) (base := w.heap.size) (ok := fun _ => True) (xs := []) (by first | exact E1.out | exact Kd.R_drew E1.out | exact Kd.R_alloc E1.out _ | exact Kd.R_drew (Kd.R_alloc E1.out _) | exact N1.out | exact Kd.R_drew N1.out | exact Kd.R_alloc N1.out _ | exact Kd.R_drew (Kd.R_alloc N1.out _) | exact M1.out | exact Kd.R_drew M1.out)) (by decide) hg); have E2 := En; clear En) | skip); rw [List.nil_append] at hr; have E1 := Aside0.mk hr; have HBc := Aside0.mk hb1; have N1 := Aside0.mk (R_new0 (Kd.fixed (Kd.slice 3 (Kd.int .i64)) w) (w := w) (W := x9) 23 HBc.out.size); have M1 := Aside0.mk (R_new1 (Kd.fixed (Kd.slice 3 (Kd.int .i64)) w) (w := w) (W := x9) 23 (.cells #[] 3) HBc.out.size); have N2 := Aside0.mk (R_new0 (Kd.int .i64) (w := w) (W := x9) 3 HBc.out.size); have M2 := Aside0.mk (R_new1 (Kd.int .i64) (w := w) (W := x9) 3 (.cells #[] 23) HBc.out.size); clear hr hb1 hg hat)
          | (refine Kd.R_append_rows_step (Kd.fixed (Kd.slice 3 (Kd.int .i64)) w) (w0 := w) w.heap.size (by rfl) (.tmp 54) (.tmp 57) 22 23 (.slice none 0 0) 24 rfl Try.underlying22 info23 rfl (show 0 < 1 by decide) (by omega) _ (l1.drop c) (l1.take c) _ _ _ (fun _ => True) (fun _ => False) rfl rfl ?aO ?aR (fun _ _ h => h) (fun _ h => h.elim) (fun _ _ => trivial) ?aB ?aS HL.out.2.1 ?_; (case aO => first | exact E1.out | exact Kd.R_drew E1.out | exact Kd.R_alloc E1.out _ | exact Kd.R_drew (Kd.R_alloc E1.out _) | exact N1.out | exact Kd.R_drew N1.out | exact Kd.R_alloc N1.out _ | exact Kd.R_drew (Kd.R_alloc N1.out _) | exact M1.out | exact Kd.R_drew M1.out); (case aR => exact ReadsRow.imp_ TR1.out (by repeat (first | with_reducible exact HBc.out | with_reducible apply below_alloc | with_reducible apply below_drew)) (fun _ _ h => h)); (case aB => repeat (first | with_reducible exact HBc.out | with_reducible apply below_alloc | with_reducible apply below_drew)); (case aS => exact below_size (by repeat (first | with_reducible exact HBc.out | with_reducible apply below_alloc | with_reducible apply below_drew))); intro v9 x9 hr hb1 hg hat; (first | (have En := Aside0.mk (Kd.R_over' (d := (Kd.int .i64)) (e := 3) (by first | exact E2.out | exact Kd.R_drew E2.out | exact Kd.R_alloc E2.out _ | exact Kd.R_drew (Kd.R_alloc E2.out _) | exact N2.out | exact Kd.R_drew N2.out | exact Kd.R_alloc N2.out _ | exact Kd.R_drew (Kd.R_alloc N2.out _) | exact M2.out | exact Kd.R_drew M2.out) (Kd.R_typed (d := (Kd.fixed (Kd.slice 3 (Kd.int .i64)) w)) (e := 23) (base := w.heap.size) (ok := fun _ => True) (xs := (l1.drop c)) (by first | exact E1.out | exact Kd.R_drew E1.out | exact Kd.R_alloc E1.out _ | exact Kd.R_drew (Kd.R_alloc E1.out _) | exact N1.out | exact Kd.R_drew N1.out | exact Kd.R_alloc N1.out _ | exact Kd.R_drew (Kd.R_alloc N1.out _) | exact M1.out | exact Kd.R_drew M1.out)) (by decide) hg); have E2 := En; clear En) | skip); rw [← X1E.out] at hr; obtain ⟨AX1, cX1, rfl⟩ := Kd.R_slice hr; have E1 := Aside0.mk hr; have HBc := Aside0.mk hb1; have N1 := Aside0.mk (R_new0 (Kd.fixed (Kd.slice 3 (Kd.int .i64)) w) (w := w) (W := x9) 23 HBc.out.size); have M1 := Aside0.mk (R_new1 (Kd.fixed (Kd.slice 3 (Kd.int .i64)) w) (w := w) (W := x9) 23 (.cells #[] 3) HBc.out.size); have N2 := Aside0.mk (R_new0 (Kd.int .i64) (w := w) (W := x9) 3 HBc.out.size); have M2 := Aside0.mk (R_new1 (Kd.int .i64) (w := w) (W := x9) 3 (.cells #[] 23) HBc.out.size); clear hr hb1 hg hat)
          | (refine Kd.R_append_rows_step (Kd.int .i64) (w0 := w) w.heap.size (by rfl) (.tmp 59) (.tmp 62) 23 3 (.int .i64 0) 8 rfl Try.underlying23 info3 rfl (show 0 < 1 by decide) (by omega) _ [] (l2.drop c) _ _ _ (fun _ => True) (fun _ => False) rfl rfl ?aO ?aR (fun _ _ h => h) (fun _ h => h.elim) (fun _ _ => trivial) ?aB ?aS HL.out.2.2.1 ?_; (case aO => first | exact E2.out | exact Kd.R_drew E2.out | exact Kd.R_alloc E2.out _ | exact Kd.R_drew (Kd.R_alloc E2.out _) | exact N2.out | exact Kd.R_drew N2.out | exact Kd.R_alloc N2.out _ | exact Kd.R_drew (Kd.R_alloc N2.out _) | exact M2.out | exact Kd.R_drew M2.out); (case aR => exact ReadsRow.imp_ DR2.out (by repeat (first | with_reducible exact HBc.out | with_reducible apply below_alloc | with_reducible apply below_drew)) (fun _ _ h => h)); (case aB => repeat (first | with_reducible exact HBc.out | with_reducible apply below_alloc | with_reducible apply below_drew)); (case aS => exact below_size (by repeat (first | with_reducible exact HBc.out | with_reducible apply below_alloc | with_reducible apply below_drew))); intro v9 x9 hr hb1 hg hat; (first | (have En := Aside0.mk (Kd.R_over' (d := (Kd.fixed (Kd.slice 3 (Kd.int .i64)) w)) (e := 23) (by first | exact E1.out | exact Kd.R_drew E1.out | exact Kd.R_alloc E1.out _ | exact Kd.R_drew (Kd.R_alloc E1.out _) | exact N1.out | exact Kd.R_drew N1.out | exact Kd.R_alloc N1.out _ | exact Kd.R_drew (Kd.R_alloc N1.out _) | exact M1.out | exact Kd.R_drew M1.out) (Kd.R_typed (d := (Kd.int .i64)) (e := 3) (base := w.heap.size) (ok := fun _ => True) (xs := []) (by first | exact E2.out | exact Kd.R_drew E2.out | exact Kd.R_alloc E2.out _ | exact Kd.R_drew (Kd.R_alloc E2.out _) | exact N2.out | exact Kd.R_drew N2.out | exact Kd.R_alloc N2.out _ | exact Kd.R_drew (Kd.R_alloc N2.out _) | exact M2.out | exact Kd.R_drew M2.out)) (fun q hq => by have : q = 23 := (by simpa [Kd.fixed] using hq); subst this; decide) hg); have E1 := En; clear En) | skip); rw [List.nil_append] at hr; have E2 := Aside0.mk hr; have HBc := Aside0.mk hb1; have N1 := Aside0.mk (R_new0 (Kd.fixed (Kd.slice 3 (Kd.int .i64)) w) (w := w) (W := x9) 23 HBc.out.size); have M1 := Aside0.mk (R_new1 (Kd.fixed (Kd.slice 3 (Kd.int .i64)) w) (w := w) (W := x9) 23 (.cells #[] 3) HBc.out.size); have N2 := Aside0.mk (R_new0 (Kd.int .i64) (w := w) (W := x9) 3 HBc.out.size); have M2 := Aside0.mk (R_new1 (Kd.int .i64) (w := w) (W := x9) 3 (.cells #[] 23) HBc.out.size); clear hr hb1 hg hat)
          | (refine Kd.R_append_rows_step (Kd.int .i64) (w0 := w) w.heap.size (by rfl) (.tmp 63) (.tmp 66) 23 3 (.int .i64 0) 8 rfl Try.underlying23 info3 rfl (show 0 < 1 by decide) (by omega) _ (l2.drop c) (l2.take c) _ _ _ (fun _ => True) (fun _ => False) rfl rfl ?aO ?aR (fun _ _ h => h) (fun _ h => h.elim) (fun _ _ => trivial) ?aB ?aS HL.out.2.2.2 ?_; (case aO => first | exact E2.out | exact Kd.R_drew E2.out | exact Kd.R_alloc E2.out _ | exact Kd.R_drew (Kd.R_alloc E2.out _) | exact N2.out | exact Kd.R_drew N2.out | exact Kd.R_alloc N2.out _ | exact Kd.R_drew (Kd.R_alloc N2.out _) | exact M2.out | exact Kd.R_drew M2.out); (case aR => exact ReadsRow.imp_ TR2.out (by repeat (first | with_reducible exact HBc.out | with_reducible apply below_alloc | with_reducible apply below_drew)) (fun _ _ h => h)); (case aB => repeat (first | with_reducible exact HBc.out | with_reducible apply below_alloc | with_reducible apply below_drew)); (case aS => exact below_size (by repeat (first | with_reducible exact HBc.out | with_reducible apply below_alloc | with_reducible apply below_drew))); intro v9 x9 hr hb1 hg hat; (first | (have En := Aside0.mk (Kd.R_over' (d := (Kd.fixed (Kd.slice 3 (Kd.int .i64)) w)) (e := 23) (by first | exact E1.out | exact Kd.R_drew E1.out | exact Kd.R_alloc E1.out _ | exact Kd.R_drew (Kd.R_alloc E1.out _) | exact N1.out | exact Kd.R_drew N1.out | exact Kd.R_alloc N1.out _ | exact Kd.R_drew (Kd.R_alloc N1.out _) | exact M1.out | exact Kd.R_drew M1.out) (Kd.R_typed (d := (Kd.int .i64)) (e := 3) (base := w.heap.size) (ok := fun _ => True) (xs := (l2.drop c)) (by first | exact E2.out | exact Kd.R_drew E2.out | exact Kd.R_alloc E2.out _ | exact Kd.R_drew (Kd.R_alloc E2.out _) | exact N2.out | exact Kd.R_drew N2.out | exact Kd.R_alloc N2.out _ | exact Kd.R_drew (Kd.R_alloc N2.out _) | exact M2.out | exact Kd.R_drew M2.out)) (fun q hq => by have : q = 23 := (by simpa [Kd.fixed] using hq); subst this; decide) hg); have E1 := En; clear En) | skip); rw [← X2E.out] at hr; obtain ⟨AX2, cX2, rfl⟩ := Kd.R_slice hr; have E2 := Aside0.mk hr; have HBc := Aside0.mk hb1; have N1 := Aside0.mk (R_new0 (Kd.fixed (Kd.slice 3 (Kd.int .i64)) w) (w := w) (W := x9) 23 HBc.out.size); have M1 := Aside0.mk (R_new1 (Kd.fixed (Kd.slice 3 (Kd.int .i64)) w) (w := w) (W := x9) 23 (.cells #[] 3) HBc.out.size); have N2 := Aside0.mk (R_new0 (Kd.int .i64) (w := w) (W := x9) 3 HBc.out.size); have M2 := Aside0.mk (R_new1 (Kd.int .i64) (w := w) (W := x9) 3 (.cells #[] 23) HBc.out.size); clear hr hb1 hg hat)
          | (go_simp; go_at_call 9; (with_reducible refine (learn_Conflict.calls k a0 _ _ X1 _ _ X2 p 0 _ ?s1 ?s2 ?s3 ?s4 H4.out).mono ?_); (case s1 => exact fixed_C (Kd.R_reads' E1.out).2.2 HBc.out); (case s2 => exact (Kd.R_reads' E1.out).2.1); (case s3 => exact (Kd.R_reads' E2.out).2.2); (case s4 => exact (Kd.R_reads' E2.out).2.1); rintro e wd ⟨rfl, hb⟩; have HBd := Aside0.mk (below_step HBc.out hb); clear hb; dsimp only))
      all_goals (go_wp2_with fail)
      all_goals (
        go_ret
        exact ⟨by cases p <;> first | rfl | simp, HBd.out⟩)
end Go.Proofs.Ytcopolpepodceaa.QLearnOrder
