-- Made by wip/myprint.sh (a patched print): a text of this session's own.
import Derived.Test.YtnicmgakboghpaaQClauseResolvesx0
import Derived.Test.YtnicmgakboghpaaQClauseResolvesx1
import Derived.Test.YtnicmgakboghpaaQClauseResolvesx2
namespace Go.Proofs.Ytnicmgakboghpaa.QClauseResolves
open Go.RowKit Go.Proofs.YtnicmgakboghpaaW.PrintWords Go.Proofs.YtnicmgakboghpaaW.PrintLast Go.Proofs.YtnicmgakboghpaaW.PrintMore
attribute [local go_sem] max2_int min2_int max_two min_two max_three min_three max_four min_four   -- for this text's walks alone
set_option linter.unusedVariables false
set_option linter.unusedSimpArgs false

/-! ### clause_Resolve: function 18, by hand -/
set_option maxHeartbeats 1000000 in
theorem resolve1_calls (x v : Int) (B : Nat) (w : World) (hb : w.cell? ⟨B, 0, none⟩ = some (.int .i64 v)) :
    Calls Try.prog 38 #[.int .i64 x, .pointer (some ⟨B, 0, none⟩)] w fun e w' => e = .returned (.bool (decide (wrap64 (Int.tdiv x 2) = v))) ∧ ∃ q, w' = w.drewN q := by
  go_enter Try.func38, Try.ntmps38
  go_wp2
  go_ret
  exact ⟨rfl, 0, rfl⟩
theorem encs_mapD {α : Type} (enc : α → Value) (l : List α) : encs enc l = l.map enc := by simp [encs]
theorem deleteV_calls (P0 : Nat → Prop) (u : Value) (l0 : List Int) (v : Int) (B : Nat) (w0 w : World) (hB : Below w0.heap.size w0 w) (ho0 : Kd.R (Kd.int .i64) 3 w w0.heap.size P0 u l0) (hl0 : 0 < l0.length) (hl : l0.length ≤ 1000000000) (hlt : B < w.heap.size) (hb : w.cell? ⟨B, 0, none⟩ = some (.int .i64 v)) (hne : ∀ k, P0 k → k ≠ B) :
    Calls Try.prog 36 #[u, .func (.func 38) #[] #[.pointer (some ⟨B, 0, none⟩)]] w fun e w' => ∃ v0_ : Value, e = .returned v0_ ∧ Kd.R (Kd.int .i64) 3 w' w0.heap.size (fun _ => True) v0_ (l0.filter fun x => !decide (wrap64 (Int.tdiv x 2) = v)) ∧ Below w0.heap.size w0 w' := by
  have ho := Kd.own_of_R ho0
  rw [encs_mapD] at ho
  rcases ho.2 with ⟨rfl, hn⟩ | ⟨g, cap, cur, rfl, hg, hh, h1, h2, h3, h4⟩
  · have hn0 : l0.length = 0 := hn
    omega
  · have hlt2 : g < w.heap.size := (Array.getElem?_eq_some_iff.1 hh).1
    have hBg : B ≠ g := fun e => hne g (ho0.1 g rfl) e.symm
    rw [Nat.mul_one] at h4
    have eg : ∀ args w, (callFunc 38 args).run Try.prog w = .ok (.enter 38 args) w := enters_of Try.func38 (by kernel_rfl) rfl
    have hp : PredAt Try.prog 38 #[.pointer (some ⟨B, 0, none⟩)] (Value.int .i64) (fun x => decide (wrap64 (Int.tdiv x 2) = v)) w :=
      fun W x hb' => resolve1_calls x v B W ((hb'.cell (p := ⟨B, 0, none⟩) hlt).trans hb)
    have hpo : PredOver Try.prog 38 #[.pointer (some ⟨B, 0, none⟩)] (Value.int .i64) (fun x => decide (wrap64 (Int.tdiv x 2) = v)) g 0 l0.toArray.size w :=
      fun n os dk x _ => resolve1_calls x v B _ (by
        unfold sortWorld
        rw [Sort.cell?_grow _ _ _ (by show B < (Sort.putRow _ _ _ _ _).heap.size; rw [Sort.size_putRow]; exact hlt), Sort.cell?_putRow_other _ _ g 0 _ _ (Or.inl hBg)]
        exact hb)
    refine (Try.slices_DeleteFunc (Value.int .i64) (fun _ => rfl) (fun x => decide (wrap64 (Int.tdiv x 2) = v)) 38 #[.pointer (some ⟨B, 0, none⟩)] eg 0 Try.zeroValue3 g 0 cap l0.toArray w hp hpo (holds_of_blockI hh h4) (by simp; omega) (by simpa using h1)).mono ?_
    rintro e w' ⟨rfl, q, rfl⟩
    have hk : (l0.filter fun x => !decide (wrap64 (Int.tdiv x 2) = v)).length ≤ l0.length := List.length_filter_le _ _
    have hy : ((l0.filter fun x => !decide (wrap64 (Int.tdiv x 2) = v)) ++ List.replicate (l0.length - (l0.filter fun x => !decide (wrap64 (Int.tdiv x 2) = v)).length) (0 : Int)).length = l0.length := by rw [List.length_append, List.length_replicate]; omega
    have hw := Lib.ownsRow_putRow (q := q) ho hy hk
    rw [List.take_left' rfl] at hw
    have hgr := grownBy_sortedI (w := w) (g := g) (n := q) (os := #[]) ((l0.filter fun x => !decide (wrap64 (Int.tdiv x 2) = v)) ++ List.replicate (l0.length - (l0.filter fun x => !decide (wrap64 (Int.tdiv x 2) = v)).length) (0 : Int)).toArray
    rw [Sort.grow_empty] at hgr
    exact ⟨_, rfl, Kd.R_of_own (by rw [encs_mapD]; exact hw) (fun _ _ => trivial), pw_below_grown hB (some g) hB.size hgr (fun k e => by cases e; exact hg)⟩
theorem rows2 {W : World} {g : Nat} {A1 A2 : Option Addr} {c1 c2 : Nat} {l1 l2 : List Int} (hb : W.heap[g]? = some (.cells #[.slice A1 l1.length c1, .slice A2 l2.length c2] 22 (0, 0))) (h1 : Kd.C (Kd.int .i64) W A1 l1.length l1) (hc1 : l1.length ≤ c1) (h2 : Kd.C (Kd.int .i64) W A2 l2.length l2) (hc2 : l2.length ≤ c2) :
    Kd.C (Kd.slice 3 (Kd.int .i64)) W (some ⟨g, 0, none⟩) ([l1, l2] : List (List Int)).length [l1, l2] := by
  refine ⟨rfl, by simp, fun _ => ⟨_, rfl, ?_⟩⟩
  intro j p hj
  rcases j with _ | _ | j
  · simp at hj
    subst hj
    refine ⟨[.slice A1 l1.length c1], rfl, ⟨A1, c1, rfl, hc1, h1⟩, fun i u hu => ?_⟩
    rcases i with _ | i
    · simp at hu
      subst hu
      exact (blk_cell hb 0).trans rfl
    · simp at hu
  · simp at hj
    subst hj
    refine ⟨[.slice A2 l2.length c2], rfl, ⟨A2, c2, rfl, hc2, h2⟩, fun i u hu => ?_⟩
    rcases i with _ | i
    · simp at hu
      subst hu
      exact (blk_cell hb 1).trans rfl
    · simp at hu
  · simp at hj
theorem concat2_calls {W : World} {g : Nat} {A1 A2 : Option Addr} {c1 c2 : Nat} {l1 l2 : List Int} (hb : W.heap[g]? = some (.cells #[.slice A1 l1.length c1, .slice A2 l2.length c2] 22 (0, 0))) (h1 : Kd.C (Kd.int .i64) W A1 l1.length l1) (hc1 : l1.length ≤ c1) (h2 : Kd.C (Kd.int .i64) W A2 l2.length l2) (hc2 : l2.length ≤ c2) (hl : (l1 ++ l2).length ≤ 1000000000) :
    Calls Try.prog 37 #[.slice (some ⟨g, 0, none⟩) 2 2] W fun e w' => ∃ v1_ : Value, e = .returned (v1_) ∧ Kd.R (Kd.int .i64) 3 w' W.heap.size (fun _ => True) v1_ (l1 ++ l2) ∧ Below W.heap.size W w' := by
  have hf : slices_Concat_int_int.f [l1, l2] = some (l1 ++ l2) := by
    unfold slices_Concat_int_int.f
    rw [show ([l1, l2] : List (List Int)).flatten = l1 ++ l2 by simp, if_pos hl]
  exact slices_Concat_int_int.calls (some ⟨g, 0, none⟩) 2 [l1, l2] (l1 ++ l2) W (rows2 hb h1 hc1 h2 hc2) (by simp) hf
theorem new_at {W : World} {g : Nat} {cs : Array Value} {e : TypeId} (h : W.heap.size = g) : (W.alloc (.cells cs e)).heap[g]? = some (.cells cs e (0, 0)) := h ▸ heap_alloc_new W _
theorem box_cell (w : World) (x : Value) (e : TypeId) : (w.alloc (.cells #[x] e)).cell? ⟨w.heap.size, 0, none⟩ = some x := (blk_cell (heap_alloc_new w _) 0).trans rfl
theorem own_past {e base b g : Nat} {w : World} {v : Value} {xs : List Int} (h : Kd.R (Kd.int .i64) e w b (fun _ => True) v xs) (hb : base ≤ b) (hg : g < b) : Kd.R (Kd.int .i64) e w base (fun k_ => k_ ≠ g) v xs :=
  Kd.R_lower (Kd.R_mono (Kd.R_bound h) (fun k_ hk e_ => by have := hk.2.1; omega)) hb
/-- Both tests of one side. -/
def sideV (k : Nat) (l1 l2 : List Int) (x y : Int) : Option Bool := (slices_Contains_int_int.f k l1 x).bind fun c => if c = true then slices_Contains_int_int.f k l2 y else some false
def clause_Resolve.f (k : Nat) (a0 : Int) (l1 l2 : List Int) (a3 : Int) : Option (List Int × Bool × Int) :=
  (clause_both.f k a0 l1 l2).bind fun e => if e = 0 then (if a3 < 1 then some ([], false, 6) else if a3 > a0 then some ([], false, 6) else
    (sideV k l1 l2 (wrap64 (2 * a3)) (wrap64 (wrap64 (2 * a3) + 1))).bind fun s => (sideV k l1 l2 (wrap64 (wrap64 (2 * a3) + 1)) (wrap64 (2 * a3))).bind fun t =>
      if s = false then (if t = false then some ([], false, 6) else (if 0 < (l1 ++ l2).length then (if (l1 ++ l2).length ≤ 1000000000 then clause_Make.f k a0 ((l1 ++ l2).filter fun x => !decide (wrap64 (Int.tdiv x 2) = a3)) else none) else none))
      else (if 0 < (l1 ++ l2).length then (if (l1 ++ l2).length ≤ 1000000000 then clause_Make.f k a0 ((l1 ++ l2).filter fun x => !decide (wrap64 (Int.tdiv x 2) = a3)) else none) else none)) else some ([], false, e)
theorem sideV.mono (l1 l2 : List Int) (x y : Int) (k : Nat) : LeO (sideV k l1 l2 x y) (sideV (k + 1) l1 l2 x y) := by
  unfold sideV
  refine LeO.bind (slices_Contains_int_int.mono _ _ _) (fun _ => ?_)
  exact LeO.ite (slices_Contains_int_int.mono _ _ _) (LeO.refl _)
theorem clause_Resolve.mono : ∀ a0 l1 l2 a3 k, LeO (clause_Resolve.f k a0 l1 l2 a3) (clause_Resolve.f (k + 1) a0 l1 l2 a3) := by
  intro a0 l1 l2 a3 k
  unfold clause_Resolve.f
  repeat' first
    | (with_reducible exact clause_both.mono _ _ _ _)
    | (with_reducible exact sideV.mono _ _ _ _ _)
    | (with_reducible exact clause_Make.mono _ _ _)
    | (with_reducible exact LeO.refl _)
    | (with_reducible exact LeO.none _)
    | (with_reducible refine LeO.ite ?_ ?_)
    | (with_reducible refine LeO.bind ?_ (fun _ => ?_))
set_option maxHeartbeats 4000000 in
set_option maxRecDepth 100000 in
theorem clause_Resolve.calls (k : Nat) (a0 : Int) (A1 : Option Addr) (c1 : Nat) (l1 : List Int) (A2 : Option Addr) (c2 : Nat) (l2 : List Int) (a3 : Int) (r1 : List Int) (r2 : Bool) (r3 : Int) (w : World) (hr1 : Kd.C (Kd.int .i64) w A1 l1.length l1) (hc1 : l1.length ≤ c1) (hr2 : Kd.C (Kd.int .i64) w A2 l2.length l2) (hc2 : l2.length ≤ c2) (h : clause_Resolve.f k a0 l1 l2 a3 = some (r1, r2, r3)) :
    Calls Try.prog 18 #[.int .i64 a0, .slice A1 l1.length c1, .slice A2 l2.length c2, .int .i64 a3] w fun e w' => ∃ v0_ : Value, e = .returned (.tuple #[v0_, .bool r2, .int .i64 r3]) ∧ Kd.R (Kd.int .i64) 3 w' w.heap.size (fun _ => True) v0_ r1 ∧ Below w.heap.size w w' := by
  have HR1 := Aside0.mk hr1
  have HC1 := Aside0.mk hc1
  have HR2 := Aside0.mk hr2
  have HC2 := Aside0.mk hc2
  clear hr1 hc1 hr2 hc2
  have hu22 := Try.underlying22
  have hu49 := Try.underlying49
  unfold clause_Resolve.f at h
  obtain ⟨e0, he, h⟩ := Option.bind_eq_some_iff.mp h
  have HE := Aside0.mk he
  clear he
  by_cases c : e0 = 0
  · rw [if_pos c] at h
    subst c
    by_cases c : a3 < 1
    · rw [if_pos c] at h
      simp only [Option.some.injEq, Prod.mk.injEq] at h
      obtain ⟨rfl, rfl, rfl⟩ := h
      have b1 : decide (a3 < 1) = true := decide_eq_true c
      clear c
      go_enter Try.func18, Try.ntmps18
      go_wp2_with (go_at_call 34; (with_reducible refine (clause_both.calls k a0 A1 c1 l1 A2 c2 l2 _ _ ?s1 ?s2 ?s3 ?s4 HE.out).mono ?_); (case s1 => exact Kd.C_below HR1.out (below_alloc (Below.refl _ _) _)); (case s2 => exact HC1.out); (case s3 => exact Kd.C_below HR2.out (below_alloc (Below.refl _ _) _)); (case s4 => exact HC2.out); rintro e w' ⟨rfl, ⟨nd, rfl⟩⟩)
      go_ret3
      exact ⟨_, rfl, Kd.R_nil _ _ _ _ _, by repeat (first | (with_reducible first | apply below_alloc | apply pw_below_drewN | apply below_drew1) | exact Below.refl _ _)⟩
    rw [if_neg c] at h
    have b1 : decide (a3 < 1) = false := decide_eq_false c
    clear c
    by_cases c : a3 > a0
    · rw [if_pos c] at h
      simp only [Option.some.injEq, Prod.mk.injEq] at h
      obtain ⟨rfl, rfl, rfl⟩ := h
      have b2 : decide (a0 < a3) = true := decide_eq_true c
      clear c
      go_enter Try.func18, Try.ntmps18
      go_wp2_with (go_at_call 34; (with_reducible refine (clause_both.calls k a0 A1 c1 l1 A2 c2 l2 _ _ ?s1 ?s2 ?s3 ?s4 HE.out).mono ?_); (case s1 => exact Kd.C_below HR1.out (below_alloc (Below.refl _ _) _)); (case s2 => exact HC1.out); (case s3 => exact Kd.C_below HR2.out (below_alloc (Below.refl _ _) _)); (case s4 => exact HC2.out); rintro e w' ⟨rfl, ⟨nd, rfl⟩⟩)
      go_ret3
      exact ⟨_, rfl, Kd.R_nil _ _ _ _ _, by repeat (first | (with_reducible first | apply below_alloc | apply pw_below_drewN | apply below_drew1) | exact Below.refl _ _)⟩
    rw [if_neg c] at h
    have b2 : decide (a0 < a3) = false := decide_eq_false c
    clear c
    obtain ⟨s, hs, h⟩ := Option.bind_eq_some_iff.mp h
    obtain ⟨t, ht, h⟩ := Option.bind_eq_some_iff.mp h
    unfold sideV at hs ht
    obtain ⟨x1, hx1, hs⟩ := Option.bind_eq_some_iff.mp hs
    obtain ⟨y1, hy1, ht⟩ := Option.bind_eq_some_iff.mp ht
    have hS : (x1 = false ∧ s = false) ∨ (x1 = true ∧ s = false ∧ slices_Contains_int_int.f k l2 (wrap64 (wrap64 (2 * a3) + 1)) = some false) ∨ (x1 = true ∧ s = true ∧ slices_Contains_int_int.f k l2 (wrap64 (wrap64 (2 * a3) + 1)) = some true) := by
      cases x1 with
      | false => rw [if_neg (by decide)] at hs; exact .inl ⟨rfl, (Option.some.inj hs).symm⟩
      | true => rw [if_pos rfl] at hs; cases s with
        | false => exact .inr (.inl ⟨rfl, rfl, hs⟩)
        | true => exact .inr (.inr ⟨rfl, rfl, hs⟩)
    have hT : (y1 = false ∧ t = false) ∨ (y1 = true ∧ t = false ∧ slices_Contains_int_int.f k l2 (wrap64 (2 * a3)) = some false) ∨ (y1 = true ∧ t = true ∧ slices_Contains_int_int.f k l2 (wrap64 (2 * a3)) = some true) := by
      cases y1 with
      | false => rw [if_neg (by decide)] at ht; exact .inl ⟨rfl, (Option.some.inj ht).symm⟩
      | true => rw [if_pos rfl] at ht; cases t with
        | false => exact .inr (.inl ⟨rfl, rfl, ht⟩)
        | true => exact .inr (.inr ⟨rfl, rfl, ht⟩)
    have HX1 := Aside0.mk hx1
    have HY1 := Aside0.mk hy1
    clear hx1 hy1 hs ht
    rcases hS with ⟨rfl, rfl⟩ | ⟨rfl, rfl, hS⟩ | ⟨rfl, rfl, hS⟩ <;> rcases hT with ⟨rfl, rfl⟩ | ⟨rfl, rfl, hT⟩ | ⟨rfl, rfl, hT⟩
    · rw [if_pos rfl, if_pos rfl] at h
      simp only [Option.some.injEq, Prod.mk.injEq] at h
      obtain ⟨rfl, rfl, rfl⟩ := h
      go_enter Try.func18, Try.ntmps18
      go_wp2_with (first
          | (go_at_call 34; (with_reducible refine (clause_both.calls k a0 A1 c1 l1 A2 c2 l2 _ _ ?s1 ?s2 ?s3 ?s4 HE.out).mono ?_); (case s1 => exact Kd.C_below HR1.out (below_alloc (Below.refl _ _) _)); (case s2 => exact HC1.out); (case s3 => exact Kd.C_below HR2.out (below_alloc (Below.refl _ _) _)); (case s4 => exact HC2.out); rintro e w' ⟨rfl, ⟨nd, rfl⟩⟩)
          | (go_at_call 35; (with_reducible refine (slices_Contains_int_int.calls k A1 c1 l1 (wrap64 (2 * a3)) _ _ ?s1 ?s2 HX1.out).mono ?_); (case s1 => exact Kd.C_below HR1.out (by repeat (first | (with_reducible first | apply below_alloc | apply pw_below_drewN | apply below_drew1) | exact Below.refl _ _))); (case s2 => exact HC1.out); rintro e w' ⟨rfl, ⟨nd, rfl⟩⟩)
          | (go_at_call 35; (with_reducible refine (slices_Contains_int_int.calls k A1 c1 l1 (wrap64 (wrap64 (2 * a3) + 1)) _ _ ?s1 ?s2 HY1.out).mono ?_); (case s1 => exact Kd.C_below HR1.out (by repeat (first | (with_reducible first | apply below_alloc | apply pw_below_drewN | apply below_drew1) | exact Below.refl _ _))); (case s2 => exact HC1.out); rintro e w' ⟨rfl, ⟨nd, rfl⟩⟩))
      go_ret3
      exact ⟨_, rfl, Kd.R_nil _ _ _ _ _, (by repeat (first | (with_reducible first | apply below_alloc | apply pw_below_drewN | apply below_drew1) | exact Below.refl _ _))⟩
    · have HT := Aside0.mk hT
      clear hT
      rw [if_pos rfl, if_pos rfl] at h
      simp only [Option.some.injEq, Prod.mk.injEq] at h
      obtain ⟨rfl, rfl, rfl⟩ := h
      go_enter Try.func18, Try.ntmps18
      go_wp2_with (first
          | (go_at_call 34; (with_reducible refine (clause_both.calls k a0 A1 c1 l1 A2 c2 l2 _ _ ?s1 ?s2 ?s3 ?s4 HE.out).mono ?_); (case s1 => exact Kd.C_below HR1.out (below_alloc (Below.refl _ _) _)); (case s2 => exact HC1.out); (case s3 => exact Kd.C_below HR2.out (below_alloc (Below.refl _ _) _)); (case s4 => exact HC2.out); rintro e w' ⟨rfl, ⟨nd, rfl⟩⟩)
          | (go_at_call 35; (with_reducible refine (slices_Contains_int_int.calls k A1 c1 l1 (wrap64 (2 * a3)) _ _ ?s1 ?s2 HX1.out).mono ?_); (case s1 => exact Kd.C_below HR1.out (by repeat (first | (with_reducible first | apply below_alloc | apply pw_below_drewN | apply below_drew1) | exact Below.refl _ _))); (case s2 => exact HC1.out); rintro e w' ⟨rfl, ⟨nd, rfl⟩⟩)
          | (go_at_call 35; (with_reducible refine (slices_Contains_int_int.calls k A1 c1 l1 (wrap64 (wrap64 (2 * a3) + 1)) _ _ ?s1 ?s2 HY1.out).mono ?_); (case s1 => exact Kd.C_below HR1.out (by repeat (first | (with_reducible first | apply below_alloc | apply pw_below_drewN | apply below_drew1) | exact Below.refl _ _))); (case s2 => exact HC1.out); rintro e w' ⟨rfl, ⟨nd, rfl⟩⟩)
          | (go_at_call 35; (with_reducible refine (slices_Contains_int_int.calls k A2 c2 l2 (wrap64 (2 * a3)) _ _ ?s1 ?s2 HT.out).mono ?_); (case s1 => exact Kd.C_below HR2.out (by repeat (first | (with_reducible first | apply below_alloc | apply pw_below_drewN | apply below_drew1) | exact Below.refl _ _))); (case s2 => exact HC2.out); rintro e w' ⟨rfl, ⟨nd, rfl⟩⟩))
      go_ret3
      exact ⟨_, rfl, Kd.R_nil _ _ _ _ _, (by repeat (first | (with_reducible first | apply below_alloc | apply pw_below_drewN | apply below_drew1) | exact Below.refl _ _))⟩
    · have HT := Aside0.mk hT
      clear hT
      rw [if_pos rfl, if_neg (by decide)] at h
      by_cases d0 : 0 < (l1 ++ l2).length
      · rw [if_pos d0] at h
        by_cases d1 : (l1 ++ l2).length ≤ 1000000000
        · rw [if_pos d1] at h
          generalize hfl : (l1 ++ l2).filter (fun x => !decide (wrap64 (Int.tdiv x 2) = a3)) = fl at h
          have HFL := Aside0.mk hfl
          have HM := Aside0.mk h
          clear hfl
          have HL0 := Aside0.mk d0
          have HL1 := Aside0.mk d1
          clear h d0 d1
          go_enter Try.func18, Try.ntmps18
          go_wp2_with (first
          | (go_at_call 34; (with_reducible refine (clause_both.calls k a0 A1 c1 l1 A2 c2 l2 _ _ ?s1 ?s2 ?s3 ?s4 HE.out).mono ?_); (case s1 => exact Kd.C_below HR1.out (below_alloc (Below.refl _ _) _)); (case s2 => exact HC1.out); (case s3 => exact Kd.C_below HR2.out (below_alloc (Below.refl _ _) _)); (case s4 => exact HC2.out); rintro e w' ⟨rfl, ⟨nd, rfl⟩⟩)
          | (go_at_call 35; (with_reducible refine (slices_Contains_int_int.calls k A1 c1 l1 (wrap64 (2 * a3)) _ _ ?s1 ?s2 HX1.out).mono ?_); (case s1 => exact Kd.C_below HR1.out (by repeat (first | (with_reducible first | apply below_alloc | apply pw_below_drewN | apply below_drew1) | exact Below.refl _ _))); (case s2 => exact HC1.out); rintro e w' ⟨rfl, ⟨nd, rfl⟩⟩)
          | (go_at_call 35; (with_reducible refine (slices_Contains_int_int.calls k A1 c1 l1 (wrap64 (wrap64 (2 * a3) + 1)) _ _ ?s1 ?s2 HY1.out).mono ?_); (case s1 => exact Kd.C_below HR1.out (by repeat (first | (with_reducible first | apply below_alloc | apply pw_below_drewN | apply below_drew1) | exact Below.refl _ _))); (case s2 => exact HC1.out); rintro e w' ⟨rfl, ⟨nd, rfl⟩⟩)
          | (go_at_call 35; (with_reducible refine (slices_Contains_int_int.calls k A2 c2 l2 (wrap64 (2 * a3)) _ _ ?s1 ?s2 HT.out).mono ?_); (case s1 => exact Kd.C_below HR2.out (by repeat (first | (with_reducible first | apply below_alloc | apply pw_below_drewN | apply below_drew1) | exact Below.refl _ _))); (case s2 => exact HC2.out); rintro e w' ⟨rfl, ⟨nd, rfl⟩⟩)
          | (go_at_call 37; go_loud (refine (concat2_calls (A1 := A1) (A2 := A2) (c1 := c1) (c2 := c2) (l1 := l1) (l2 := l2) (new_at (by simp)) (Kd.C_below HR1.out (by repeat (first | (with_reducible first | apply below_alloc | apply pw_below_drewN | apply below_drew1) | exact Below.refl _ _))) HC1.out (Kd.C_below HR2.out (by repeat (first | (with_reducible first | apply below_alloc | apply pw_below_drewN | apply below_drew1) | exact Below.refl _ _))) HC2.out HL1.out).mono ?_; rintro e w1 ⟨v1, rfl, hR1, hb1⟩; have HBX := Aside0.mk (below_step (by repeat (first | (with_reducible first | apply below_alloc | apply pw_below_drewN | apply below_drew1) | exact Below.refl _ _)) hb1); have HCX := Aside0.mk (pw_cell_below (a := ⟨w.heap.size, 0, none⟩) (v := .int .i64 a3) hb1 (Lib.cell?_alloc_some _ (box_cell w (.int .i64 a3) 3))); have HSX := Aside0.mk (show w.heap.size < w1.heap.size by have := hb1.size; simp at this; omega); have HVX := Aside0.mk (own_past (base := w.heap.size) (g := w.heap.size) hR1 (by simp; omega) (by simp; omega)); clear hR1 hb1))
          | (go_at_call 36; go_loud ((with_reducible refine (deleteV_calls (fun k_ => k_ ≠ w.heap.size) v1 (l1 ++ l2) a3 w.heap.size w w1 ?s1 ?s2 ?s3 ?s4 ?s5 ?s6 ?s7).mono ?_); (case s1 => exact HBX.out); (case s2 => exact HVX.out); (case s3 => exact HL0.out); (case s4 => exact HL1.out); (case s5 => exact HSX.out); (case s6 => exact HCX.out); (case s7 => exact fun _ h_ => h_); rintro e w2 ⟨v2, rfl, hR2, hb2⟩; rw [HFL.out] at hR2; have HBY := Aside0.mk hb2; obtain ⟨A3, c3, rfl, hl3, hr3⟩ := Kd.R_reads hR2; have HL3 := Aside0.mk hl3; have HR3 := Aside0.mk hr3; clear hb2 hR2 hl3 hr3))
          | (go_at_call 10; go_loud ((with_reducible refine (clause_Make.calls k a0 A3 c3 fl r1 r2 r3 _ ?s1 ?s2 HM.out).mono ?_); (case s1 => exact HR3.out); (case s2 => exact HL3.out); rintro e w3 ⟨v3, rfl, hR3, hb3⟩; have HBZ := Aside0.mk (below_step HBY.out hb3); have HVZ := Aside0.mk (Kd.R_lower hR3 HBY.out.size); clear hR3 hb3)))
          go_ret3
          exact ⟨_, rfl, HVZ.out, HBZ.out⟩
        · rw [if_neg d1] at h; simp at h
      · rw [if_neg d0] at h; simp at h
    · have HS := Aside0.mk hS
      clear hS
      rw [if_pos rfl, if_pos rfl] at h
      simp only [Option.some.injEq, Prod.mk.injEq] at h
      obtain ⟨rfl, rfl, rfl⟩ := h
      go_enter Try.func18, Try.ntmps18
      go_wp2_with (first
          | (go_at_call 34; (with_reducible refine (clause_both.calls k a0 A1 c1 l1 A2 c2 l2 _ _ ?s1 ?s2 ?s3 ?s4 HE.out).mono ?_); (case s1 => exact Kd.C_below HR1.out (below_alloc (Below.refl _ _) _)); (case s2 => exact HC1.out); (case s3 => exact Kd.C_below HR2.out (below_alloc (Below.refl _ _) _)); (case s4 => exact HC2.out); rintro e w' ⟨rfl, ⟨nd, rfl⟩⟩)
          | (go_at_call 35; (with_reducible refine (slices_Contains_int_int.calls k A1 c1 l1 (wrap64 (2 * a3)) _ _ ?s1 ?s2 HX1.out).mono ?_); (case s1 => exact Kd.C_below HR1.out (by repeat (first | (with_reducible first | apply below_alloc | apply pw_below_drewN | apply below_drew1) | exact Below.refl _ _))); (case s2 => exact HC1.out); rintro e w' ⟨rfl, ⟨nd, rfl⟩⟩)
          | (go_at_call 35; (with_reducible refine (slices_Contains_int_int.calls k A2 c2 l2 (wrap64 (wrap64 (2 * a3) + 1)) _ _ ?s1 ?s2 HS.out).mono ?_); (case s1 => exact Kd.C_below HR2.out (by repeat (first | (with_reducible first | apply below_alloc | apply pw_below_drewN | apply below_drew1) | exact Below.refl _ _))); (case s2 => exact HC2.out); rintro e w' ⟨rfl, ⟨nd, rfl⟩⟩)
          | (go_at_call 35; (with_reducible refine (slices_Contains_int_int.calls k A1 c1 l1 (wrap64 (wrap64 (2 * a3) + 1)) _ _ ?s1 ?s2 HY1.out).mono ?_); (case s1 => exact Kd.C_below HR1.out (by repeat (first | (with_reducible first | apply below_alloc | apply pw_below_drewN | apply below_drew1) | exact Below.refl _ _))); (case s2 => exact HC1.out); rintro e w' ⟨rfl, ⟨nd, rfl⟩⟩))
      go_ret3
      exact ⟨_, rfl, Kd.R_nil _ _ _ _ _, (by repeat (first | (with_reducible first | apply below_alloc | apply pw_below_drewN | apply below_drew1) | exact Below.refl _ _))⟩
    · have HS := Aside0.mk hS
      clear hS
      have HT := Aside0.mk hT
      clear hT
      rw [if_pos rfl, if_pos rfl] at h
      simp only [Option.some.injEq, Prod.mk.injEq] at h
      obtain ⟨rfl, rfl, rfl⟩ := h
      go_enter Try.func18, Try.ntmps18
      go_wp2_with (first
          | (go_at_call 34; (with_reducible refine (clause_both.calls k a0 A1 c1 l1 A2 c2 l2 _ _ ?s1 ?s2 ?s3 ?s4 HE.out).mono ?_); (case s1 => exact Kd.C_below HR1.out (below_alloc (Below.refl _ _) _)); (case s2 => exact HC1.out); (case s3 => exact Kd.C_below HR2.out (below_alloc (Below.refl _ _) _)); (case s4 => exact HC2.out); rintro e w' ⟨rfl, ⟨nd, rfl⟩⟩)
          | (go_at_call 35; (with_reducible refine (slices_Contains_int_int.calls k A1 c1 l1 (wrap64 (2 * a3)) _ _ ?s1 ?s2 HX1.out).mono ?_); (case s1 => exact Kd.C_below HR1.out (by repeat (first | (with_reducible first | apply below_alloc | apply pw_below_drewN | apply below_drew1) | exact Below.refl _ _))); (case s2 => exact HC1.out); rintro e w' ⟨rfl, ⟨nd, rfl⟩⟩)
          | (go_at_call 35; (with_reducible refine (slices_Contains_int_int.calls k A2 c2 l2 (wrap64 (wrap64 (2 * a3) + 1)) _ _ ?s1 ?s2 HS.out).mono ?_); (case s1 => exact Kd.C_below HR2.out (by repeat (first | (with_reducible first | apply below_alloc | apply pw_below_drewN | apply below_drew1) | exact Below.refl _ _))); (case s2 => exact HC2.out); rintro e w' ⟨rfl, ⟨nd, rfl⟩⟩)
          | (go_at_call 35; (with_reducible refine (slices_Contains_int_int.calls k A1 c1 l1 (wrap64 (wrap64 (2 * a3) + 1)) _ _ ?s1 ?s2 HY1.out).mono ?_); (case s1 => exact Kd.C_below HR1.out (by repeat (first | (with_reducible first | apply below_alloc | apply pw_below_drewN | apply below_drew1) | exact Below.refl _ _))); (case s2 => exact HC1.out); rintro e w' ⟨rfl, ⟨nd, rfl⟩⟩)
          | (go_at_call 35; (with_reducible refine (slices_Contains_int_int.calls k A2 c2 l2 (wrap64 (2 * a3)) _ _ ?s1 ?s2 HT.out).mono ?_); (case s1 => exact Kd.C_below HR2.out (by repeat (first | (with_reducible first | apply below_alloc | apply pw_below_drewN | apply below_drew1) | exact Below.refl _ _))); (case s2 => exact HC2.out); rintro e w' ⟨rfl, ⟨nd, rfl⟩⟩))
      go_ret3
      exact ⟨_, rfl, Kd.R_nil _ _ _ _ _, (by repeat (first | (with_reducible first | apply below_alloc | apply pw_below_drewN | apply below_drew1) | exact Below.refl _ _))⟩
    · have HS := Aside0.mk hS
      clear hS
      have HT := Aside0.mk hT
      clear hT
      rw [if_pos rfl, if_neg (by decide)] at h
      by_cases d0 : 0 < (l1 ++ l2).length
      · rw [if_pos d0] at h
        by_cases d1 : (l1 ++ l2).length ≤ 1000000000
        · rw [if_pos d1] at h
          generalize hfl : (l1 ++ l2).filter (fun x => !decide (wrap64 (Int.tdiv x 2) = a3)) = fl at h
          have HFL := Aside0.mk hfl
          have HM := Aside0.mk h
          clear hfl
          have HL0 := Aside0.mk d0
          have HL1 := Aside0.mk d1
          clear h d0 d1
          go_enter Try.func18, Try.ntmps18
          go_wp2_with (first
          | (go_at_call 34; (with_reducible refine (clause_both.calls k a0 A1 c1 l1 A2 c2 l2 _ _ ?s1 ?s2 ?s3 ?s4 HE.out).mono ?_); (case s1 => exact Kd.C_below HR1.out (below_alloc (Below.refl _ _) _)); (case s2 => exact HC1.out); (case s3 => exact Kd.C_below HR2.out (below_alloc (Below.refl _ _) _)); (case s4 => exact HC2.out); rintro e w' ⟨rfl, ⟨nd, rfl⟩⟩)
          | (go_at_call 35; (with_reducible refine (slices_Contains_int_int.calls k A1 c1 l1 (wrap64 (2 * a3)) _ _ ?s1 ?s2 HX1.out).mono ?_); (case s1 => exact Kd.C_below HR1.out (by repeat (first | (with_reducible first | apply below_alloc | apply pw_below_drewN | apply below_drew1) | exact Below.refl _ _))); (case s2 => exact HC1.out); rintro e w' ⟨rfl, ⟨nd, rfl⟩⟩)
          | (go_at_call 35; (with_reducible refine (slices_Contains_int_int.calls k A2 c2 l2 (wrap64 (wrap64 (2 * a3) + 1)) _ _ ?s1 ?s2 HS.out).mono ?_); (case s1 => exact Kd.C_below HR2.out (by repeat (first | (with_reducible first | apply below_alloc | apply pw_below_drewN | apply below_drew1) | exact Below.refl _ _))); (case s2 => exact HC2.out); rintro e w' ⟨rfl, ⟨nd, rfl⟩⟩)
          | (go_at_call 35; (with_reducible refine (slices_Contains_int_int.calls k A1 c1 l1 (wrap64 (wrap64 (2 * a3) + 1)) _ _ ?s1 ?s2 HY1.out).mono ?_); (case s1 => exact Kd.C_below HR1.out (by repeat (first | (with_reducible first | apply below_alloc | apply pw_below_drewN | apply below_drew1) | exact Below.refl _ _))); (case s2 => exact HC1.out); rintro e w' ⟨rfl, ⟨nd, rfl⟩⟩)
          | (go_at_call 35; (with_reducible refine (slices_Contains_int_int.calls k A2 c2 l2 (wrap64 (2 * a3)) _ _ ?s1 ?s2 HT.out).mono ?_); (case s1 => exact Kd.C_below HR2.out (by repeat (first | (with_reducible first | apply below_alloc | apply pw_below_drewN | apply below_drew1) | exact Below.refl _ _))); (case s2 => exact HC2.out); rintro e w' ⟨rfl, ⟨nd, rfl⟩⟩)
          | (go_at_call 37; go_loud (refine (concat2_calls (A1 := A1) (A2 := A2) (c1 := c1) (c2 := c2) (l1 := l1) (l2 := l2) (new_at (by simp)) (Kd.C_below HR1.out (by repeat (first | (with_reducible first | apply below_alloc | apply pw_below_drewN | apply below_drew1) | exact Below.refl _ _))) HC1.out (Kd.C_below HR2.out (by repeat (first | (with_reducible first | apply below_alloc | apply pw_below_drewN | apply below_drew1) | exact Below.refl _ _))) HC2.out HL1.out).mono ?_; rintro e w1 ⟨v1, rfl, hR1, hb1⟩; have HBX := Aside0.mk (below_step (by repeat (first | (with_reducible first | apply below_alloc | apply pw_below_drewN | apply below_drew1) | exact Below.refl _ _)) hb1); have HCX := Aside0.mk (pw_cell_below (a := ⟨w.heap.size, 0, none⟩) (v := .int .i64 a3) hb1 (Lib.cell?_alloc_some _ (box_cell w (.int .i64 a3) 3))); have HSX := Aside0.mk (show w.heap.size < w1.heap.size by have := hb1.size; simp at this; omega); have HVX := Aside0.mk (own_past (base := w.heap.size) (g := w.heap.size) hR1 (by simp; omega) (by simp; omega)); clear hR1 hb1))
          | (go_at_call 36; go_loud ((with_reducible refine (deleteV_calls (fun k_ => k_ ≠ w.heap.size) v1 (l1 ++ l2) a3 w.heap.size w w1 ?s1 ?s2 ?s3 ?s4 ?s5 ?s6 ?s7).mono ?_); (case s1 => exact HBX.out); (case s2 => exact HVX.out); (case s3 => exact HL0.out); (case s4 => exact HL1.out); (case s5 => exact HSX.out); (case s6 => exact HCX.out); (case s7 => exact fun _ h_ => h_); rintro e w2 ⟨v2, rfl, hR2, hb2⟩; rw [HFL.out] at hR2; have HBY := Aside0.mk hb2; obtain ⟨A3, c3, rfl, hl3, hr3⟩ := Kd.R_reads hR2; have HL3 := Aside0.mk hl3; have HR3 := Aside0.mk hr3; clear hb2 hR2 hl3 hr3))
          | (go_at_call 10; go_loud ((with_reducible refine (clause_Make.calls k a0 A3 c3 fl r1 r2 r3 _ ?s1 ?s2 HM.out).mono ?_); (case s1 => exact HR3.out); (case s2 => exact HL3.out); rintro e w3 ⟨v3, rfl, hR3, hb3⟩; have HBZ := Aside0.mk (below_step HBY.out hb3); have HVZ := Aside0.mk (Kd.R_lower hR3 HBY.out.size); clear hR3 hb3)))
          go_ret3
          exact ⟨_, rfl, HVZ.out, HBZ.out⟩
        · rw [if_neg d1] at h; simp at h
      · rw [if_neg d0] at h; simp at h
    · have HS := Aside0.mk hS
      clear hS
      rw [if_neg (by decide)] at h
      by_cases d0 : 0 < (l1 ++ l2).length
      · rw [if_pos d0] at h
        by_cases d1 : (l1 ++ l2).length ≤ 1000000000
        · rw [if_pos d1] at h
          generalize hfl : (l1 ++ l2).filter (fun x => !decide (wrap64 (Int.tdiv x 2) = a3)) = fl at h
          have HFL := Aside0.mk hfl
          have HM := Aside0.mk h
          clear hfl
          have HL0 := Aside0.mk d0
          have HL1 := Aside0.mk d1
          clear h d0 d1
          go_enter Try.func18, Try.ntmps18
          go_wp2_with (first
          | (go_at_call 34; (with_reducible refine (clause_both.calls k a0 A1 c1 l1 A2 c2 l2 _ _ ?s1 ?s2 ?s3 ?s4 HE.out).mono ?_); (case s1 => exact Kd.C_below HR1.out (below_alloc (Below.refl _ _) _)); (case s2 => exact HC1.out); (case s3 => exact Kd.C_below HR2.out (below_alloc (Below.refl _ _) _)); (case s4 => exact HC2.out); rintro e w' ⟨rfl, ⟨nd, rfl⟩⟩)
          | (go_at_call 35; (with_reducible refine (slices_Contains_int_int.calls k A1 c1 l1 (wrap64 (2 * a3)) _ _ ?s1 ?s2 HX1.out).mono ?_); (case s1 => exact Kd.C_below HR1.out (by repeat (first | (with_reducible first | apply below_alloc | apply pw_below_drewN | apply below_drew1) | exact Below.refl _ _))); (case s2 => exact HC1.out); rintro e w' ⟨rfl, ⟨nd, rfl⟩⟩)
          | (go_at_call 35; (with_reducible refine (slices_Contains_int_int.calls k A2 c2 l2 (wrap64 (wrap64 (2 * a3) + 1)) _ _ ?s1 ?s2 HS.out).mono ?_); (case s1 => exact Kd.C_below HR2.out (by repeat (first | (with_reducible first | apply below_alloc | apply pw_below_drewN | apply below_drew1) | exact Below.refl _ _))); (case s2 => exact HC2.out); rintro e w' ⟨rfl, ⟨nd, rfl⟩⟩)
          | (go_at_call 35; (with_reducible refine (slices_Contains_int_int.calls k A1 c1 l1 (wrap64 (wrap64 (2 * a3) + 1)) _ _ ?s1 ?s2 HY1.out).mono ?_); (case s1 => exact Kd.C_below HR1.out (by repeat (first | (with_reducible first | apply below_alloc | apply pw_below_drewN | apply below_drew1) | exact Below.refl _ _))); (case s2 => exact HC1.out); rintro e w' ⟨rfl, ⟨nd, rfl⟩⟩)
          | (go_at_call 37; go_loud (refine (concat2_calls (A1 := A1) (A2 := A2) (c1 := c1) (c2 := c2) (l1 := l1) (l2 := l2) (new_at (by simp)) (Kd.C_below HR1.out (by repeat (first | (with_reducible first | apply below_alloc | apply pw_below_drewN | apply below_drew1) | exact Below.refl _ _))) HC1.out (Kd.C_below HR2.out (by repeat (first | (with_reducible first | apply below_alloc | apply pw_below_drewN | apply below_drew1) | exact Below.refl _ _))) HC2.out HL1.out).mono ?_; rintro e w1 ⟨v1, rfl, hR1, hb1⟩; have HBX := Aside0.mk (below_step (by repeat (first | (with_reducible first | apply below_alloc | apply pw_below_drewN | apply below_drew1) | exact Below.refl _ _)) hb1); have HCX := Aside0.mk (pw_cell_below (a := ⟨w.heap.size, 0, none⟩) (v := .int .i64 a3) hb1 (Lib.cell?_alloc_some _ (box_cell w (.int .i64 a3) 3))); have HSX := Aside0.mk (show w.heap.size < w1.heap.size by have := hb1.size; simp at this; omega); have HVX := Aside0.mk (own_past (base := w.heap.size) (g := w.heap.size) hR1 (by simp; omega) (by simp; omega)); clear hR1 hb1))
          | (go_at_call 36; go_loud ((with_reducible refine (deleteV_calls (fun k_ => k_ ≠ w.heap.size) v1 (l1 ++ l2) a3 w.heap.size w w1 ?s1 ?s2 ?s3 ?s4 ?s5 ?s6 ?s7).mono ?_); (case s1 => exact HBX.out); (case s2 => exact HVX.out); (case s3 => exact HL0.out); (case s4 => exact HL1.out); (case s5 => exact HSX.out); (case s6 => exact HCX.out); (case s7 => exact fun _ h_ => h_); rintro e w2 ⟨v2, rfl, hR2, hb2⟩; rw [HFL.out] at hR2; have HBY := Aside0.mk hb2; obtain ⟨A3, c3, rfl, hl3, hr3⟩ := Kd.R_reads hR2; have HL3 := Aside0.mk hl3; have HR3 := Aside0.mk hr3; clear hb2 hR2 hl3 hr3))
          | (go_at_call 10; go_loud ((with_reducible refine (clause_Make.calls k a0 A3 c3 fl r1 r2 r3 _ ?s1 ?s2 HM.out).mono ?_); (case s1 => exact HR3.out); (case s2 => exact HL3.out); rintro e w3 ⟨v3, rfl, hR3, hb3⟩; have HBZ := Aside0.mk (below_step HBY.out hb3); have HVZ := Aside0.mk (Kd.R_lower hR3 HBY.out.size); clear hR3 hb3)))
          go_ret3
          exact ⟨_, rfl, HVZ.out, HBZ.out⟩
        · rw [if_neg d1] at h; simp at h
      · rw [if_neg d0] at h; simp at h
    · have HS := Aside0.mk hS
      clear hS
      have HT := Aside0.mk hT
      clear hT
      rw [if_neg (by decide)] at h
      by_cases d0 : 0 < (l1 ++ l2).length
      · rw [if_pos d0] at h
        by_cases d1 : (l1 ++ l2).length ≤ 1000000000
        · rw [if_pos d1] at h
          generalize hfl : (l1 ++ l2).filter (fun x => !decide (wrap64 (Int.tdiv x 2) = a3)) = fl at h
          have HFL := Aside0.mk hfl
          have HM := Aside0.mk h
          clear hfl
          have HL0 := Aside0.mk d0
          have HL1 := Aside0.mk d1
          clear h d0 d1
          go_enter Try.func18, Try.ntmps18
          go_wp2_with (first
          | (go_at_call 34; (with_reducible refine (clause_both.calls k a0 A1 c1 l1 A2 c2 l2 _ _ ?s1 ?s2 ?s3 ?s4 HE.out).mono ?_); (case s1 => exact Kd.C_below HR1.out (below_alloc (Below.refl _ _) _)); (case s2 => exact HC1.out); (case s3 => exact Kd.C_below HR2.out (below_alloc (Below.refl _ _) _)); (case s4 => exact HC2.out); rintro e w' ⟨rfl, ⟨nd, rfl⟩⟩)
          | (go_at_call 35; (with_reducible refine (slices_Contains_int_int.calls k A1 c1 l1 (wrap64 (2 * a3)) _ _ ?s1 ?s2 HX1.out).mono ?_); (case s1 => exact Kd.C_below HR1.out (by repeat (first | (with_reducible first | apply below_alloc | apply pw_below_drewN | apply below_drew1) | exact Below.refl _ _))); (case s2 => exact HC1.out); rintro e w' ⟨rfl, ⟨nd, rfl⟩⟩)
          | (go_at_call 35; (with_reducible refine (slices_Contains_int_int.calls k A2 c2 l2 (wrap64 (wrap64 (2 * a3) + 1)) _ _ ?s1 ?s2 HS.out).mono ?_); (case s1 => exact Kd.C_below HR2.out (by repeat (first | (with_reducible first | apply below_alloc | apply pw_below_drewN | apply below_drew1) | exact Below.refl _ _))); (case s2 => exact HC2.out); rintro e w' ⟨rfl, ⟨nd, rfl⟩⟩)
          | (go_at_call 35; (with_reducible refine (slices_Contains_int_int.calls k A1 c1 l1 (wrap64 (wrap64 (2 * a3) + 1)) _ _ ?s1 ?s2 HY1.out).mono ?_); (case s1 => exact Kd.C_below HR1.out (by repeat (first | (with_reducible first | apply below_alloc | apply pw_below_drewN | apply below_drew1) | exact Below.refl _ _))); (case s2 => exact HC1.out); rintro e w' ⟨rfl, ⟨nd, rfl⟩⟩)
          | (go_at_call 35; (with_reducible refine (slices_Contains_int_int.calls k A2 c2 l2 (wrap64 (2 * a3)) _ _ ?s1 ?s2 HT.out).mono ?_); (case s1 => exact Kd.C_below HR2.out (by repeat (first | (with_reducible first | apply below_alloc | apply pw_below_drewN | apply below_drew1) | exact Below.refl _ _))); (case s2 => exact HC2.out); rintro e w' ⟨rfl, ⟨nd, rfl⟩⟩)
          | (go_at_call 37; go_loud (refine (concat2_calls (A1 := A1) (A2 := A2) (c1 := c1) (c2 := c2) (l1 := l1) (l2 := l2) (new_at (by simp)) (Kd.C_below HR1.out (by repeat (first | (with_reducible first | apply below_alloc | apply pw_below_drewN | apply below_drew1) | exact Below.refl _ _))) HC1.out (Kd.C_below HR2.out (by repeat (first | (with_reducible first | apply below_alloc | apply pw_below_drewN | apply below_drew1) | exact Below.refl _ _))) HC2.out HL1.out).mono ?_; rintro e w1 ⟨v1, rfl, hR1, hb1⟩; have HBX := Aside0.mk (below_step (by repeat (first | (with_reducible first | apply below_alloc | apply pw_below_drewN | apply below_drew1) | exact Below.refl _ _)) hb1); have HCX := Aside0.mk (pw_cell_below (a := ⟨w.heap.size, 0, none⟩) (v := .int .i64 a3) hb1 (Lib.cell?_alloc_some _ (box_cell w (.int .i64 a3) 3))); have HSX := Aside0.mk (show w.heap.size < w1.heap.size by have := hb1.size; simp at this; omega); have HVX := Aside0.mk (own_past (base := w.heap.size) (g := w.heap.size) hR1 (by simp; omega) (by simp; omega)); clear hR1 hb1))
          | (go_at_call 36; go_loud ((with_reducible refine (deleteV_calls (fun k_ => k_ ≠ w.heap.size) v1 (l1 ++ l2) a3 w.heap.size w w1 ?s1 ?s2 ?s3 ?s4 ?s5 ?s6 ?s7).mono ?_); (case s1 => exact HBX.out); (case s2 => exact HVX.out); (case s3 => exact HL0.out); (case s4 => exact HL1.out); (case s5 => exact HSX.out); (case s6 => exact HCX.out); (case s7 => exact fun _ h_ => h_); rintro e w2 ⟨v2, rfl, hR2, hb2⟩; rw [HFL.out] at hR2; have HBY := Aside0.mk hb2; obtain ⟨A3, c3, rfl, hl3, hr3⟩ := Kd.R_reads hR2; have HL3 := Aside0.mk hl3; have HR3 := Aside0.mk hr3; clear hb2 hR2 hl3 hr3))
          | (go_at_call 10; go_loud ((with_reducible refine (clause_Make.calls k a0 A3 c3 fl r1 r2 r3 _ ?s1 ?s2 HM.out).mono ?_); (case s1 => exact HR3.out); (case s2 => exact HL3.out); rintro e w3 ⟨v3, rfl, hR3, hb3⟩; have HBZ := Aside0.mk (below_step HBY.out hb3); have HVZ := Aside0.mk (Kd.R_lower hR3 HBY.out.size); clear hR3 hb3)))
          go_ret3
          exact ⟨_, rfl, HVZ.out, HBZ.out⟩
        · rw [if_neg d1] at h; simp at h
      · rw [if_neg d0] at h; simp at h
    · have HS := Aside0.mk hS
      clear hS
      have HT := Aside0.mk hT
      clear hT
      rw [if_neg (by decide)] at h
      by_cases d0 : 0 < (l1 ++ l2).length
      · rw [if_pos d0] at h
        by_cases d1 : (l1 ++ l2).length ≤ 1000000000
        · rw [if_pos d1] at h
          generalize hfl : (l1 ++ l2).filter (fun x => !decide (wrap64 (Int.tdiv x 2) = a3)) = fl at h
          have HFL := Aside0.mk hfl
          have HM := Aside0.mk h
          clear hfl
          have HL0 := Aside0.mk d0
          have HL1 := Aside0.mk d1
          clear h d0 d1
          go_enter Try.func18, Try.ntmps18
          go_wp2_with (first
          | (go_at_call 34; (with_reducible refine (clause_both.calls k a0 A1 c1 l1 A2 c2 l2 _ _ ?s1 ?s2 ?s3 ?s4 HE.out).mono ?_); (case s1 => exact Kd.C_below HR1.out (below_alloc (Below.refl _ _) _)); (case s2 => exact HC1.out); (case s3 => exact Kd.C_below HR2.out (below_alloc (Below.refl _ _) _)); (case s4 => exact HC2.out); rintro e w' ⟨rfl, ⟨nd, rfl⟩⟩)
          | (go_at_call 35; (with_reducible refine (slices_Contains_int_int.calls k A1 c1 l1 (wrap64 (2 * a3)) _ _ ?s1 ?s2 HX1.out).mono ?_); (case s1 => exact Kd.C_below HR1.out (by repeat (first | (with_reducible first | apply below_alloc | apply pw_below_drewN | apply below_drew1) | exact Below.refl _ _))); (case s2 => exact HC1.out); rintro e w' ⟨rfl, ⟨nd, rfl⟩⟩)
          | (go_at_call 35; (with_reducible refine (slices_Contains_int_int.calls k A2 c2 l2 (wrap64 (wrap64 (2 * a3) + 1)) _ _ ?s1 ?s2 HS.out).mono ?_); (case s1 => exact Kd.C_below HR2.out (by repeat (first | (with_reducible first | apply below_alloc | apply pw_below_drewN | apply below_drew1) | exact Below.refl _ _))); (case s2 => exact HC2.out); rintro e w' ⟨rfl, ⟨nd, rfl⟩⟩)
          | (go_at_call 35; (with_reducible refine (slices_Contains_int_int.calls k A1 c1 l1 (wrap64 (wrap64 (2 * a3) + 1)) _ _ ?s1 ?s2 HY1.out).mono ?_); (case s1 => exact Kd.C_below HR1.out (by repeat (first | (with_reducible first | apply below_alloc | apply pw_below_drewN | apply below_drew1) | exact Below.refl _ _))); (case s2 => exact HC1.out); rintro e w' ⟨rfl, ⟨nd, rfl⟩⟩)
          | (go_at_call 35; (with_reducible refine (slices_Contains_int_int.calls k A2 c2 l2 (wrap64 (2 * a3)) _ _ ?s1 ?s2 HT.out).mono ?_); (case s1 => exact Kd.C_below HR2.out (by repeat (first | (with_reducible first | apply below_alloc | apply pw_below_drewN | apply below_drew1) | exact Below.refl _ _))); (case s2 => exact HC2.out); rintro e w' ⟨rfl, ⟨nd, rfl⟩⟩)
          | (go_at_call 37; go_loud (refine (concat2_calls (A1 := A1) (A2 := A2) (c1 := c1) (c2 := c2) (l1 := l1) (l2 := l2) (new_at (by simp)) (Kd.C_below HR1.out (by repeat (first | (with_reducible first | apply below_alloc | apply pw_below_drewN | apply below_drew1) | exact Below.refl _ _))) HC1.out (Kd.C_below HR2.out (by repeat (first | (with_reducible first | apply below_alloc | apply pw_below_drewN | apply below_drew1) | exact Below.refl _ _))) HC2.out HL1.out).mono ?_; rintro e w1 ⟨v1, rfl, hR1, hb1⟩; have HBX := Aside0.mk (below_step (by repeat (first | (with_reducible first | apply below_alloc | apply pw_below_drewN | apply below_drew1) | exact Below.refl _ _)) hb1); have HCX := Aside0.mk (pw_cell_below (a := ⟨w.heap.size, 0, none⟩) (v := .int .i64 a3) hb1 (Lib.cell?_alloc_some _ (box_cell w (.int .i64 a3) 3))); have HSX := Aside0.mk (show w.heap.size < w1.heap.size by have := hb1.size; simp at this; omega); have HVX := Aside0.mk (own_past (base := w.heap.size) (g := w.heap.size) hR1 (by simp; omega) (by simp; omega)); clear hR1 hb1))
          | (go_at_call 36; go_loud ((with_reducible refine (deleteV_calls (fun k_ => k_ ≠ w.heap.size) v1 (l1 ++ l2) a3 w.heap.size w w1 ?s1 ?s2 ?s3 ?s4 ?s5 ?s6 ?s7).mono ?_); (case s1 => exact HBX.out); (case s2 => exact HVX.out); (case s3 => exact HL0.out); (case s4 => exact HL1.out); (case s5 => exact HSX.out); (case s6 => exact HCX.out); (case s7 => exact fun _ h_ => h_); rintro e w2 ⟨v2, rfl, hR2, hb2⟩; rw [HFL.out] at hR2; have HBY := Aside0.mk hb2; obtain ⟨A3, c3, rfl, hl3, hr3⟩ := Kd.R_reads hR2; have HL3 := Aside0.mk hl3; have HR3 := Aside0.mk hr3; clear hb2 hR2 hl3 hr3))
          | (go_at_call 10; go_loud ((with_reducible refine (clause_Make.calls k a0 A3 c3 fl r1 r2 r3 _ ?s1 ?s2 HM.out).mono ?_); (case s1 => exact HR3.out); (case s2 => exact HL3.out); rintro e w3 ⟨v3, rfl, hR3, hb3⟩; have HBZ := Aside0.mk (below_step HBY.out hb3); have HVZ := Aside0.mk (Kd.R_lower hR3 HBY.out.size); clear hR3 hb3)))
          go_ret3
          exact ⟨_, rfl, HVZ.out, HBZ.out⟩
        · rw [if_neg d1] at h; simp at h
      · rw [if_neg d0] at h; simp at h
  · rw [if_neg c] at h
    simp only [Option.some.injEq, Prod.mk.injEq] at h
    obtain ⟨rfl, rfl, rfl⟩ := h
    have b : (e0 != 0) = true := bne_iff_ne.mpr c
    clear c
    go_enter Try.func18, Try.ntmps18
    go_wp2_with (go_at_call 34; (with_reducible refine (clause_both.calls k a0 A1 c1 l1 A2 c2 l2 _ _ ?s1 ?s2 ?s3 ?s4 HE.out).mono ?_); (case s1 => exact Kd.C_below HR1.out (below_alloc (Below.refl _ _) _)); (case s2 => exact HC1.out); (case s3 => exact Kd.C_below HR2.out (below_alloc (Below.refl _ _) _)); (case s4 => exact HC2.out); rintro e w' ⟨rfl, ⟨nd, rfl⟩⟩)
    go_ret3
    exact ⟨_, rfl, Kd.R_nil _ _ _ _ _, by repeat (first | (with_reducible first | apply below_alloc | apply pw_below_drewN | apply below_drew1) | exact Below.refl _ _)⟩

/-! ### slices_isNaN_int: function 50 -/
def slices_isNaN_int.f (a0 : Int) : Option (Bool) := some (a0 != a0)
set_option maxHeartbeats 8000000 in
set_option maxRecDepth 100000 in
theorem slices_isNaN_int.calls (a0 : Int) (r : Bool) (w : World) (h : slices_isNaN_int.f a0 = some r) :
    Calls Try.prog 50 #[.int .i64 a0] w fun e w' => e = .returned (.bool r) ∧ Drawn0 w w' := by
  have H : (some (a0 != a0)) = some r := h
  clear h
  obtain rfl := Option.some.inj H
  go_enter Try.func50, Try.ntmps50
  go_wp2
  go_ret
  exact ⟨by first | rfl | (simp; done) | (simp [*]; done), by repeat (first | exact Drawn0.refl _ | apply Drawn0.step)⟩

/-! ### slices_BinarySearch_int_int: function 40 -/
def slices_BinarySearch_int_int.l0 : Nat → List Int → Int → Int → Int → Int → Option (Int × Bool)
  | 0, _, _, _, _, _ => none
  | k + 1, x0, x1, x6, x7, x8 => if x7 < x8 then (if 0 ≤ (wrap64 ((IntKind.u64.wrap (wrap64 (x7 + x8))) / 2)) then (if (wrap64 ((IntKind.u64.wrap (wrap64 (x7 + x8))) / 2)) < (x0.length : Int) then ((cmp_Less_int.f (rd x0 (wrap64 ((IntKind.u64.wrap (wrap64 (x7 + x8))) / 2))) x1).bind fun t125 => (if t125 = true then (slices_BinarySearch_int_int.l0 k x0 x1 x6 (wrap64 ((wrap64 ((IntKind.u64.wrap (wrap64 (x7 + x8))) / 2)) + 1)) x8) else (slices_BinarySearch_int_int.l0 k x0 x1 x6 x7 (wrap64 ((IntKind.u64.wrap (wrap64 (x7 + x8))) / 2))))) else (none)) else (none)) else (if x7 < x6 then (if 0 ≤ x7 then (if x7 < (x0.length : Int) then (if (rd x0 x7) = x1 then (some (x7, true)) else ((slices_isNaN_int.f (rd x0 x7)).bind fun t128 => (if t128 = true then ((slices_isNaN_int.f x1).bind fun t129 => (some (x7, t129))) else (some (x7, false))))) else (none)) else (none)) else (some (x7, false)))
def slices_BinarySearch_int_int.f (k : Nat) (l0 : List Int) (a1 : Int) : Option (Int × Bool) := slices_BinarySearch_int_int.l0 k l0 a1 (l0.length : Int) 0 (l0.length : Int)
theorem slices_BinarySearch_int_int.mono_l : ∀ k, (∀ y0 y1 y2 y3 y4, LeO (slices_BinarySearch_int_int.l0 k y0 y1 y2 y3 y4) (slices_BinarySearch_int_int.l0 (k + 1) y0 y1 y2 y3 y4))
  | 0 => fun _ _ _ _ _ r h => by simp [slices_BinarySearch_int_int.l0] at h
  | k + 1 => by
    have ih0 := slices_BinarySearch_int_int.mono_l k
    · intro y0 y1 y2 y3 y4
      unfold slices_BinarySearch_int_int.l0
      repeat' first
      | (with_reducible exact ih0 _ _ _ _ _)
      | (with_reducible exact LeO.refl _)
      | (with_reducible exact LeO.none _)
      | (with_reducible refine LeO.ite ?_ ?_)
      | (with_reducible refine LeO.bind ?_ (fun _ => ?_))
      | exact ih0 _ _ _ _ _
      | exact LeO.none _
      | refine LeO.ite ?_ ?_
      | refine LeO.bind ?_ (fun _ => ?_)
theorem slices_BinarySearch_int_int.mono : ∀ a0 a1 k, LeO (slices_BinarySearch_int_int.f k a0 a1) (slices_BinarySearch_int_int.f (k + 1) a0 a1) := by
  intro a0 a1 k
  have ih0 := slices_BinarySearch_int_int.mono_l k
  unfold slices_BinarySearch_int_int.f
  repeat' first
      | (with_reducible exact ih0 _ _ _ _ _)
      | (with_reducible exact LeO.refl _)
      | (with_reducible exact LeO.none _)
      | (with_reducible refine LeO.ite ?_ ?_)
      | (with_reducible refine LeO.bind ?_ (fun _ => ?_))
      | exact ih0 _ _ _ _ _
      | exact LeO.none _
      | refine LeO.ite ?_ ?_
      | refine LeO.bind ?_ (fun _ => ?_)
set_option maxHeartbeats 8000000 in
set_option maxRecDepth 100000 in
theorem slices_BinarySearch_int_int.calls (k : Nat) (A0 : Option Addr) (c0 : Nat) (l0 : List Int) (a1 : Int) (r1 : Int) (r2 : Bool) (w : World) (hr0 : Kd.C (Kd.int .i64) w A0 l0.length l0) (hc0 : l0.length ≤ c0) (h : slices_BinarySearch_int_int.f k l0 a1 = some (r1, r2)) :
    Calls Try.prog 40 #[.slice A0 l0.length c0, .int .i64 a1] w fun e w' => e = .returned (.tuple #[.int .i64 r1, .bool r2]) ∧ Drawn0 w w' := by
  have HR0 := Aside0.mk hr0
  have HC0 := Aside0.mk hc0
  clear hr0 hc0
  have H : (slices_BinarySearch_int_int.l0 k l0 a1 (l0.length : Int) 0 (l0.length : Int)) = some (r1, r2) := h
  clear h
  have H' := Aside0.mk H
  clear H
  go_enter Try.func40, Try.ntmps40
  go_wp2
  go_loopg [7, 8] k (fun kq v7 v8 w' => ∃ (x7_1 : Int) (x8_1 : Int), v7 = .int .i64 x7_1 ∧ v8 = .int .i64 x8_1 ∧ Aside0 (slices_BinarySearch_int_int.l0 kq l0 a1 (l0.length : Int) x7_1 x8_1 = some (r1, r2)) ∧ Aside0 (kq ≤ k) ∧ Drawn0 w w')
  case atStart => exact ⟨(0), ((l0.length : Int)), (by first | rfl | (simp; done) | (simp [*]; done)), (by first | rfl | (simp; done) | (simp [*]; done)), H', ⟨Nat.le_refl _⟩, by repeat (first | exact Drawn0.refl _ | apply Drawn0.step)⟩
  case round =>
    clear H'
    try clear p2
    obtain ⟨x7_1, x8_1, rfl, rfl, HA, HK1, ⟨m1, rfl⟩⟩ := hrel
    cases gk with
    | zero => exact absurd HA.out (by simp [slices_BinarySearch_int_int.l0])
    | succ k1 =>
      have H := HA.out
      clear HA
      simp only [slices_BinarySearch_int_int.l0] at H
      by_cases c3 : x7_1 < x8_1
      · rw [if_pos c3] at H
        have c3b0 : decide (x7_1 < x8_1) = true := decide_eq_true c3
        clear c3
        obtain ⟨ji4, hji4⟩ : ∃ j_ : Int, (wrap64 ((IntKind.u64.wrap (wrap64 (x7_1 + x8_1))) / 2)) = j_ := ⟨_, rfl⟩
        replace H : (if 0 ≤ (ji4) then (if (ji4) < (l0.length : Int) then ((cmp_Less_int.f (rd l0 (ji4)) a1).bind fun t125 => (if t125 = true then (slices_BinarySearch_int_int.l0 k1 l0 a1 (l0.length : Int) (wrap64 ((ji4) + 1)) x8_1) else (slices_BinarySearch_int_int.l0 k1 l0 a1 (l0.length : Int) x7_1 ji4))) else (none)) else (none)) = some (r1, r2) := by first | (rw [hji4] at H; exact H) | (simp only [hji4] at H ⊢; exact H)
        have hji4w : (IntKind.i64.wrap ((IntKind.u64.wrap (wrap64 (x7_1 + x8_1))) / 2)) = ji4 := (i64_w _).trans hji4
        by_cases c5 : 0 ≤ (ji4)
        · rw [if_pos c5] at H
          have c5b0 : decide (0 ≤ (ji4)) = true := decide_eq_true c5
          clear c5
          by_cases c6 : (ji4) < (l0.length : Int)
          · rw [if_pos c6] at H
            have c6b0 : decide ((ji4) < (l0.length : Int)) = true := decide_eq_true c6
            clear c6
            replace H := Option.bind_eq_some_iff.mp H
            obtain ⟨t125, A70, H⟩ := H
            replace H : (if t125 = true then (slices_BinarySearch_int_int.l0 k1 l0 a1 (l0.length : Int) (wrap64 ((ji4) + 1)) x8_1) else (slices_BinarySearch_int_int.l0 k1 l0 a1 (l0.length : Int) x7_1 ji4)) = some (r1, r2) := H
            have A7 := Aside0.mk A70
            clear A70
            by_cases c8 : t125 = true
            · subst c8
              have H1 : (slices_BinarySearch_int_int.l0 k1 l0 a1 (l0.length : Int) (wrap64 ((ji4) + 1)) x8_1) = some (r1, r2) := by rw [if_pos rfl] at H; exact H
              clear H
              have H := H1
              clear H1
              have H' := Aside0.mk H
              clear H
              have p124 : 0 ≤ ((ji4) : Int) := of_decide_eq_true (by first | (with_reducible assumption) | assumption)
              have q124 : (ji4) < (l0.length : Int) := of_decide_eq_true (by first | (with_reducible assumption) | assumption)
              obtain ⟨ad124, e124, hx124_0⟩ := Kd.at_int HR0.out (ji4) p124 q124
              cases e124
              replace p124 := eq_true p124
              replace q124 := eq_true q124
              go_wp2_with (first | ((with_reducible refine gate_callee (f := 49) rfl ?_); refine goesL_ (some 27) rfl rfl Try.func49 (by kernel_rfl) rfl #[.int .i64 (rd l0 (ji4)), .int .i64 a1] rfl (by (try simp only [List.map_toArray, List.map_cons, List.map_nil]); first | done | (simp only [hji4]; rfl) | rfl | (simp only [List.length_drop, List.length_take]; rfl)) ?_; (with_reducible refine (cmp_Less_int.calls (rd l0 (ji4)) a1 true _ A7.out).mono ?_); rintro e w' ⟨rfl, ⟨nd, rfl⟩⟩; refine ⟨_, rfl, ?_⟩))
              go_roundg k1
              case measure => have := HK1.out; omega
              case rel => exact ⟨(wrap64 ((ji4) + 1)), (x8_1), (by first | rfl | (simp; done) | (simp only [← hji4] <;> (first | rfl | (simp; done))) | (congr 1; symm; assumption) | (simp [*]; done)), (by first | rfl | (simp; done) | (simp [*]; done)), H', ⟨by have := HK1.out; omega⟩, by repeat (first | exact Drawn0.refl _ | apply Drawn0.step)⟩
            · replace c8 := Bool.eq_false_iff.mpr c8
              subst c8
              have H1 : (slices_BinarySearch_int_int.l0 k1 l0 a1 (l0.length : Int) x7_1 ji4) = some (r1, r2) := by rw [if_neg (show ¬ (false = true) by decide)] at H; exact H
              clear H
              have H := H1
              clear H1
              have H' := Aside0.mk H
              clear H
              have p124 : 0 ≤ ((ji4) : Int) := of_decide_eq_true (by first | (with_reducible assumption) | assumption)
              have q124 : (ji4) < (l0.length : Int) := of_decide_eq_true (by first | (with_reducible assumption) | assumption)
              obtain ⟨ad124, e124, hx124_0⟩ := Kd.at_int HR0.out (ji4) p124 q124
              cases e124
              replace p124 := eq_true p124
              replace q124 := eq_true q124
              go_wp2_with (first | ((with_reducible refine gate_callee (f := 49) rfl ?_); refine goesL_ (some 27) rfl rfl Try.func49 (by kernel_rfl) rfl #[.int .i64 (rd l0 (ji4)), .int .i64 a1] rfl (by (try simp only [List.map_toArray, List.map_cons, List.map_nil]); first | done | (simp only [hji4]; rfl) | rfl | (simp only [List.length_drop, List.length_take]; rfl)) ?_; (with_reducible refine (cmp_Less_int.calls (rd l0 (ji4)) a1 false _ A7.out).mono ?_); rintro e w' ⟨rfl, ⟨nd, rfl⟩⟩; refine ⟨_, rfl, ?_⟩))
              go_roundg k1
              case measure => have := HK1.out; omega
              case rel => exact ⟨(x7_1), (ji4), (by first | rfl | (simp; done) | (simp [*]; done)), (by first | rfl | (simp; done) | (simp only [← hji4] <;> (first | rfl | (simp; done))) | (congr 1; symm; assumption) | (simp [*]; done)), H', ⟨by have := HK1.out; omega⟩, by repeat (first | exact Drawn0.refl _ | apply Drawn0.step)⟩
          · rw [if_neg c6] at H
            exact absurd H (by simp)
        · rw [if_neg c5] at H
          exact absurd H (by simp)
      · rw [if_neg c3] at H
        have c3b0 : decide (x7_1 < x8_1) = false := decide_eq_false c3
        clear c3
        by_cases c9 : x7_1 < (l0.length : Int)
        · rw [if_pos c9] at H
          have c9b0 : decide (x7_1 < (l0.length : Int)) = true := decide_eq_true c9
          clear c9
          by_cases c10 : 0 ≤ x7_1
          · rw [if_pos c10] at H
            have c10b0 : decide (0 ≤ x7_1) = true := decide_eq_true c10
            clear c10
            by_cases c11 : x7_1 < (l0.length : Int)
            · rw [if_pos c11] at H
              have c11b0 : decide (x7_1 < (l0.length : Int)) = true := decide_eq_true c11
              clear c11
              by_cases c12 : (rd l0 x7_1) = a1
              · rw [if_pos c12] at H
                have c12b0 : ((rd l0 x7_1) == a1) = true := beq_iff_eq.mpr c12
                have c12b1 : ((rd l0 x7_1) != a1) = false := bne_eq_false_iff_eq.mpr c12
                clear c12
                simp only [Option.some.injEq, Prod.mk.injEq] at H
                obtain ⟨rfl, rfl⟩ := H
                have p126 : 0 ≤ (x7_1 : Int) := of_decide_eq_true (by first | (with_reducible assumption) | assumption)
                have q126 : x7_1 < (l0.length : Int) := of_decide_eq_true (by first | (with_reducible assumption) | assumption)
                obtain ⟨ad126, e126, hx126_0⟩ := Kd.at_int HR0.out x7_1 p126 q126
                cases e126
                replace p126 := eq_true p126
                replace q126 := eq_true q126
                go_wp2
                go_ret2
                exact ⟨by first | rfl | (simp; done) | (simp [*]; done), by repeat (first | exact Drawn0.refl _ | apply Drawn0.step)⟩
              · rw [if_neg c12] at H
                have c12b0 : ((rd l0 x7_1) == a1) = false := beq_eq_false_iff_ne.mpr c12
                have c12b1 : ((rd l0 x7_1) != a1) = true := bne_iff_ne.mpr c12
                replace H := Option.bind_eq_some_iff.mp H
                obtain ⟨t128, A130, H⟩ := H
                replace H : (if t128 = true then ((slices_isNaN_int.f a1).bind fun t129 => (some (x7_1, t129))) else (some (x7_1, false))) = some (r1, r2) := H
                have A13 := Aside0.mk A130
                clear A130
                by_cases c14 : t128 = true
                · subst c14
                  have H1 : ((slices_isNaN_int.f a1).bind fun t129 => (some (x7_1, t129))) = some (r1, r2) := by rw [if_pos rfl] at H; exact H
                  clear H
                  have H := H1
                  clear H1
                  replace H := Option.bind_eq_some_iff.mp H
                  obtain ⟨t129, A150, H⟩ := H
                  replace H : (some (x7_1, t129)) = some (r1, r2) := H
                  have A15 := Aside0.mk A150
                  clear A150
                  simp only [Option.some.injEq, Prod.mk.injEq] at H
                  obtain ⟨rfl, rfl⟩ := H
                  have p126 : 0 ≤ (x7_1 : Int) := of_decide_eq_true (by first | (with_reducible assumption) | assumption)
                  have q126 : x7_1 < (l0.length : Int) := of_decide_eq_true (by first | (with_reducible assumption) | assumption)
                  obtain ⟨ad126, e126, hx126_0⟩ := Kd.at_int HR0.out x7_1 p126 q126
                  cases e126
                  replace p126 := eq_true p126
                  replace q126 := eq_true q126
                  have p127 : 0 ≤ (x7_1 : Int) := of_decide_eq_true (by first | (with_reducible assumption) | assumption)
                  have q127 : x7_1 < (l0.length : Int) := of_decide_eq_true (by first | (with_reducible assumption) | assumption)
                  obtain ⟨ad127, e127, hx127_0⟩ := Kd.at_int HR0.out x7_1 p127 q127
                  obtain rfl : ad126 = ad127 := (by injection e127)
                  replace p127 := eq_true p127
                  replace q127 := eq_true q127
                  go_wp2_with (first | (go_at_call 50; (with_reducible refine (slices_isNaN_int.calls (rd l0 x7_1) true _ A13.out).mono ?_); rintro e w' ⟨rfl, ⟨nd, rfl⟩⟩) | (go_at_call 50; (with_reducible refine (slices_isNaN_int.calls a1 t129 _ A15.out).mono ?_); rintro e w' ⟨rfl, ⟨nd, rfl⟩⟩))
                  go_ret2
                  exact ⟨by first | rfl | (simp; done) | (simp [*]; done), by repeat (first | exact Drawn0.refl _ | apply Drawn0.step)⟩
                · replace c14 := Bool.eq_false_iff.mpr c14
                  subst c14
                  have H1 : (some (x7_1, false)) = some (r1, r2) := by rw [if_neg (show ¬ (false = true) by decide)] at H; exact H
                  clear H
                  have H := H1
                  clear H1
                  simp only [Option.some.injEq, Prod.mk.injEq] at H
                  obtain ⟨rfl, rfl⟩ := H
                  have p126 : 0 ≤ (x7_1 : Int) := of_decide_eq_true (by first | (with_reducible assumption) | assumption)
                  have q126 : x7_1 < (l0.length : Int) := of_decide_eq_true (by first | (with_reducible assumption) | assumption)
                  obtain ⟨ad126, e126, hx126_0⟩ := Kd.at_int HR0.out x7_1 p126 q126
                  cases e126
                  replace p126 := eq_true p126
                  replace q126 := eq_true q126
                  have p127 : 0 ≤ (x7_1 : Int) := of_decide_eq_true (by first | (with_reducible assumption) | assumption)
                  have q127 : x7_1 < (l0.length : Int) := of_decide_eq_true (by first | (with_reducible assumption) | assumption)
                  obtain ⟨ad127, e127, hx127_0⟩ := Kd.at_int HR0.out x7_1 p127 q127
                  obtain rfl : ad126 = ad127 := (by injection e127)
                  replace p127 := eq_true p127
                  replace q127 := eq_true q127
                  go_wp2_with (first | (go_at_call 50; (with_reducible refine (slices_isNaN_int.calls (rd l0 x7_1) false _ A13.out).mono ?_); rintro e w' ⟨rfl, ⟨nd, rfl⟩⟩))
                  go_ret2
                  exact ⟨by first | rfl | (simp; done) | (simp [*]; done), by repeat (first | exact Drawn0.refl _ | apply Drawn0.step)⟩
            · rw [if_neg c11] at H
              exact absurd H (by simp)
          · rw [if_neg c10] at H
            exact absurd H (by simp)
        · rw [if_neg c9] at H
          have c9b0 : decide (x7_1 < (l0.length : Int)) = false := decide_eq_false c9
          clear c9
          simp only [Option.some.injEq, Prod.mk.injEq] at H
          obtain ⟨rfl, rfl⟩ := H
          go_wp2
          go_ret2
          exact ⟨by first | rfl | (simp; done) | (simp [*]; done), by repeat (first | exact Drawn0.refl _ | apply Drawn0.step)⟩

/-! ### clause_Implies: function 23 -/
def clause_Implies.l0 : Nat → List Int → List Int → Int → Int → Option (Bool × Int)
  | 0, _, _, _, _ => none
  | k + 1, x2, x20, x21, x22 => if x22 < x21 then (if 0 ≤ x22 then (if x22 < (x20.length : Int) then ((slices_BinarySearch_int_int.f k x2 (rd x20 x22)).bind fun bt132 => (if bt132.2 = true then (clause_Implies.l0 k x2 x20 x21 (wrap64 (x22 + 1))) else (some (false, 0)))) else (none)) else (none)) else (some (true, 0))
def clause_Implies.f (k : Nat) (a0 : Int) (l1 : List Int) (l2 : List Int) : Option (Bool × Int) := (clause_both.f k a0 l1 l2).bind fun t130 => (if t130 = 0 then (clause_Implies.l0 k l2 l1 (l1.length : Int) 0) else (some (false, t130)))
theorem clause_Implies.mono_l : ∀ k, (∀ y0 y1 y2 y3, LeO (clause_Implies.l0 k y0 y1 y2 y3) (clause_Implies.l0 (k + 1) y0 y1 y2 y3))
  | 0 => fun _ _ _ _ r h => by simp [clause_Implies.l0] at h
  | k + 1 => by
    have ih0 := clause_Implies.mono_l k
    · intro y0 y1 y2 y3
      unfold clause_Implies.l0
      repeat' first
      | (with_reducible exact ih0 _ _ _ _)
      | (with_reducible exact clause_both.mono _ _ _ _)
      | (with_reducible exact slices_BinarySearch_int_int.mono _ _ _)
      | (with_reducible exact LeO.refl _)
      | (with_reducible exact LeO.none _)
      | (with_reducible refine LeO.ite ?_ ?_)
      | (with_reducible refine LeO.bind ?_ (fun _ => ?_))
      | exact ih0 _ _ _ _
      | exact clause_both.mono _ _ _ _
      | exact slices_BinarySearch_int_int.mono _ _ _
      | exact LeO.none _
      | refine LeO.ite ?_ ?_
      | refine LeO.bind ?_ (fun _ => ?_)
theorem clause_Implies.mono : ∀ a0 a1 a2 k, LeO (clause_Implies.f k a0 a1 a2) (clause_Implies.f (k + 1) a0 a1 a2) := by
  intro a0 a1 a2 k
  have ih0 := clause_Implies.mono_l k
  unfold clause_Implies.f
  repeat' first
      | (with_reducible exact ih0 _ _ _ _)
      | (with_reducible exact clause_both.mono _ _ _ _)
      | (with_reducible exact slices_BinarySearch_int_int.mono _ _ _)
      | (with_reducible exact LeO.refl _)
      | (with_reducible exact LeO.none _)
      | (with_reducible refine LeO.ite ?_ ?_)
      | (with_reducible refine LeO.bind ?_ (fun _ => ?_))
      | exact ih0 _ _ _ _
      | exact clause_both.mono _ _ _ _
      | exact slices_BinarySearch_int_int.mono _ _ _
      | exact LeO.none _
      | refine LeO.ite ?_ ?_
      | refine LeO.bind ?_ (fun _ => ?_)
set_option maxHeartbeats 8000000 in
set_option maxRecDepth 100000 in
theorem clause_Implies.calls (k : Nat) (a0 : Int) (A1 : Option Addr) (c1 : Nat) (l1 : List Int) (A2 : Option Addr) (c2 : Nat) (l2 : List Int) (r1 : Bool) (r2 : Int) (w : World) (hr1 : Kd.C (Kd.int .i64) w A1 l1.length l1) (hc1 : l1.length ≤ c1) (hr2 : Kd.C (Kd.int .i64) w A2 l2.length l2) (hc2 : l2.length ≤ c2) (h : clause_Implies.f k a0 l1 l2 = some (r1, r2)) :
    Calls Try.prog 23 #[.int .i64 a0, .slice A1 l1.length c1, .slice A2 l2.length c2] w fun e w' => e = .returned (.tuple #[.bool r1, .int .i64 r2]) ∧ Drawn0 w w' := by
  have HR1 := Aside0.mk hr1
  have HC1 := Aside0.mk hc1
  clear hr1 hc1
  have HR2 := Aside0.mk hr2
  have HC2 := Aside0.mk hc2
  clear hr2 hc2
  have H : ((clause_both.f k a0 l1 l2).bind fun t130 => (if t130 = 0 then (clause_Implies.l0 k l2 l1 (l1.length : Int) 0) else (some (false, t130)))) = some (r1, r2) := h
  clear h
  replace H := Option.bind_eq_some_iff.mp H
  obtain ⟨t130, A40, H⟩ := H
  replace H : (if t130 = 0 then (clause_Implies.l0 k l2 l1 (l1.length : Int) 0) else (some (false, t130))) = some (r1, r2) := H
  have A4 := Aside0.mk A40
  clear A40
  by_cases c5 : t130 = 0
  · rw [if_pos c5] at H
    have c5b0 : (t130 == 0) = true := beq_iff_eq.mpr c5
    have c5b1 : (t130 != 0) = false := bne_eq_false_iff_eq.mpr c5
    clear c5
    have H' := Aside0.mk H
    clear H
    go_enter Try.func23, Try.ntmps23
    go_wp2_with (first | ((with_reducible refine gate_callee (f := 34) rfl ?_); refine goesL_ (some 16) rfl rfl Try.func34 (by kernel_rfl) rfl #[.int .i64 a0, .slice A1 l1.length c1, .slice A2 l2.length c2] rfl (by (try simp only [List.map_toArray, List.map_cons, List.map_nil]); first | done | rfl | (simp only [List.length_drop, List.length_take]; rfl)) ?_; (with_reducible refine (clause_both.calls k a0 _ _ l1 _ _ l2 t130 _ ?side1 ?side2 ?side3 ?side4 A4.out).mono ?_); (case side1 => repeat (first | exact HR1.out | (with_reducible refine Kd.C_alloc ?_ _) | (with_reducible refine Kd.C_drewN ?_ _) | (with_reducible refine Kd.C_drew ?_))); (case side2 => exact HC1.out); (case side3 => repeat (first | exact HR2.out | (with_reducible refine Kd.C_alloc ?_ _) | (with_reducible refine Kd.C_drewN ?_ _) | (with_reducible refine Kd.C_drew ?_))); (case side4 => exact HC2.out); rintro e w' ⟨rfl, ⟨nd, rfl⟩⟩; refine ⟨_, rfl, ?_⟩))
    go_loopg [22] k (fun kq v22 w' => ∃ (x22_1 : Int), v22 = .int .i64 x22_1 ∧ Aside0 (clause_Implies.l0 kq l2 l1 (l1.length : Int) x22_1 = some (r1, r2)) ∧ Aside0 (kq ≤ k) ∧ Drawn0 w w')
    case atStart => exact ⟨(0), (by first | rfl | (simp; done) | (simp [*]; done)), H', ⟨Nat.le_refl _⟩, by repeat (first | exact Drawn0.refl _ | apply Drawn0.step)⟩
    case round =>
      clear H'
      try clear c1
      try clear c2
      try clear p2
      try clear c3
      try clear c5
      try clear c5b0
      try clear c5b1
      obtain ⟨x22_1, rfl, HA, HK1, ⟨m1, rfl⟩⟩ := hrel
      cases gk with
      | zero => exact absurd HA.out (by simp [clause_Implies.l0])
      | succ k1 =>
        have H := HA.out
        clear HA
        simp only [clause_Implies.l0] at H
        by_cases c6 : x22_1 < (l1.length : Int)
        · rw [if_pos c6] at H
          have c6b0 : decide (x22_1 < (l1.length : Int)) = true := decide_eq_true c6
          clear c6
          by_cases c7 : 0 ≤ x22_1
          · rw [if_pos c7] at H
            have c7b0 : decide (0 ≤ x22_1) = true := decide_eq_true c7
            clear c7
            by_cases c8 : x22_1 < (l1.length : Int)
            · rw [if_pos c8] at H
              have c8b0 : decide (x22_1 < (l1.length : Int)) = true := decide_eq_true c8
              clear c8
              replace H := Option.bind_eq_some_iff.mp H
              obtain ⟨⟨t132, t133⟩, A90, H⟩ := H
              replace H : (if t133 = true then (clause_Implies.l0 k1 l2 l1 (l1.length : Int) (wrap64 (x22_1 + 1))) else (some (false, 0))) = some (r1, r2) := H
              have A9 := Aside0.mk A90
              clear A90
              by_cases c10 : t133 = true
              · subst c10
                have H1 : (clause_Implies.l0 k1 l2 l1 (l1.length : Int) (wrap64 (x22_1 + 1))) = some (r1, r2) := by rw [if_pos rfl] at H; exact H
                clear H
                have H := H1
                clear H1
                have H' := Aside0.mk H
                clear H
                have p131 : 0 ≤ (x22_1 : Int) := of_decide_eq_true (by first | (with_reducible assumption) | assumption)
                have q131 : x22_1 < (l1.length : Int) := of_decide_eq_true (by first | (with_reducible assumption) | assumption)
                obtain ⟨ad131, e131, hx131_0⟩ := Kd.at_int HR1.out x22_1 p131 q131
                cases e131
                replace p131 := eq_true p131
                replace q131 := eq_true q131
                go_wp2_with (first | ((with_reducible refine gate_callee (f := 40) rfl ?_); refine goesL_ (some 29) rfl rfl Try.func40 (by kernel_rfl) rfl #[.slice A2 l2.length c2, .int .i64 (rd l1 x22_1)] rfl (by (try simp only [List.map_toArray, List.map_cons, List.map_nil]); first | done | rfl | (simp only [List.length_drop, List.length_take]; rfl)) ?_; (with_reducible refine (slices_BinarySearch_int_int.calls k1 _ _ l2 (rd l1 x22_1) t132 true _ ?side1 ?side2 A9.out).mono ?_); (case side1 => repeat (first | exact HR2.out | (with_reducible refine Kd.C_alloc ?_ _) | (with_reducible refine Kd.C_drewN ?_ _) | (with_reducible refine Kd.C_drew ?_))); (case side2 => exact HC2.out); rintro e w' ⟨rfl, ⟨nd, rfl⟩⟩; refine ⟨_, rfl, ?_⟩))
                go_roundg k1
                case measure => have := HK1.out; omega
                case rel => exact ⟨(wrap64 (x22_1 + 1)), (by first | rfl | (simp; done) | (simp [*]; done)), H', ⟨by have := HK1.out; omega⟩, by repeat (first | exact Drawn0.refl _ | apply Drawn0.step)⟩
              · replace c10 := Bool.eq_false_iff.mpr c10
                subst c10
                have H1 : (some (false, 0)) = some (r1, r2) := by rw [if_neg (show ¬ (false = true) by decide)] at H; exact H
                clear H
                have H := H1
                clear H1
                simp only [Option.some.injEq, Prod.mk.injEq] at H
                obtain ⟨rfl, rfl⟩ := H
                have p131 : 0 ≤ (x22_1 : Int) := of_decide_eq_true (by first | (with_reducible assumption) | assumption)
                have q131 : x22_1 < (l1.length : Int) := of_decide_eq_true (by first | (with_reducible assumption) | assumption)
                obtain ⟨ad131, e131, hx131_0⟩ := Kd.at_int HR1.out x22_1 p131 q131
                cases e131
                replace p131 := eq_true p131
                replace q131 := eq_true q131
                go_wp2_with (first | ((with_reducible refine gate_callee (f := 40) rfl ?_); refine goesL_ (some 29) rfl rfl Try.func40 (by kernel_rfl) rfl #[.slice A2 l2.length c2, .int .i64 (rd l1 x22_1)] rfl (by (try simp only [List.map_toArray, List.map_cons, List.map_nil]); first | done | rfl | (simp only [List.length_drop, List.length_take]; rfl)) ?_; (with_reducible refine (slices_BinarySearch_int_int.calls k1 _ _ l2 (rd l1 x22_1) t132 false _ ?side1 ?side2 A9.out).mono ?_); (case side1 => repeat (first | exact HR2.out | (with_reducible refine Kd.C_alloc ?_ _) | (with_reducible refine Kd.C_drewN ?_ _) | (with_reducible refine Kd.C_drew ?_))); (case side2 => exact HC2.out); rintro e w' ⟨rfl, ⟨nd, rfl⟩⟩; refine ⟨_, rfl, ?_⟩))
                go_ret2
                exact ⟨by first | rfl | (simp; done) | (simp [*]; done), by repeat (first | exact Drawn0.refl _ | apply Drawn0.step)⟩
            · rw [if_neg c8] at H
              exact absurd H (by simp)
          · rw [if_neg c7] at H
            exact absurd H (by simp)
        · rw [if_neg c6] at H
          have c6b0 : decide (x22_1 < (l1.length : Int)) = false := decide_eq_false c6
          clear c6
          simp only [Option.some.injEq, Prod.mk.injEq] at H
          obtain ⟨rfl, rfl⟩ := H
          go_wp2
          go_ret2
          exact ⟨by first | rfl | (simp; done) | (simp [*]; done), by repeat (first | exact Drawn0.refl _ | apply Drawn0.step)⟩
  · rw [if_neg c5] at H
    have c5b0 : (t130 == 0) = false := beq_eq_false_iff_ne.mpr c5
    have c5b1 : (t130 != 0) = true := bne_iff_ne.mpr c5
    simp only [Option.some.injEq, Prod.mk.injEq] at H
    obtain ⟨rfl, rfl⟩ := H
    go_enter Try.func23, Try.ntmps23
    go_wp2_with (first | ((with_reducible refine gate_callee (f := 34) rfl ?_); refine goesL_ (some 16) rfl rfl Try.func34 (by kernel_rfl) rfl #[.int .i64 a0, .slice A1 l1.length c1, .slice A2 l2.length c2] rfl (by (try simp only [List.map_toArray, List.map_cons, List.map_nil]); first | done | rfl | (simp only [List.length_drop, List.length_take]; rfl)) ?_; (with_reducible refine (clause_both.calls k a0 _ _ l1 _ _ l2 t130 _ ?side1 ?side2 ?side3 ?side4 A4.out).mono ?_); (case side1 => repeat (first | exact HR1.out | (with_reducible refine Kd.C_alloc ?_ _) | (with_reducible refine Kd.C_drewN ?_ _) | (with_reducible refine Kd.C_drew ?_))); (case side2 => exact HC1.out); (case side3 => repeat (first | exact HR2.out | (with_reducible refine Kd.C_alloc ?_ _) | (with_reducible refine Kd.C_drewN ?_ _) | (with_reducible refine Kd.C_drew ?_))); (case side4 => exact HC2.out); rintro e w' ⟨rfl, ⟨nd, rfl⟩⟩; refine ⟨_, rfl, ?_⟩))
    go_ret2
    exact ⟨by first | rfl | (simp; done) | (simp [*]; done), by repeat (first | exact Drawn0.refl _ | apply Drawn0.step)⟩

/-! ### spiritlevelref13_Vars: function 30 -/
def spiritlevelref13_Vars.f (a0 : Int) : Option (Bool) := if a0 ≥ 0 then (some (decide (a0 ≤ 4000))) else (some false)
set_option maxHeartbeats 8000000 in
set_option maxRecDepth 100000 in
theorem spiritlevelref13_Vars.calls (a0 : Int) (r : Bool) (w : World) (h : spiritlevelref13_Vars.f a0 = some r) :
    Calls Try.prog 30 #[.int .i64 a0] w fun e w' => e = .returned (.bool r) ∧ Drawn0 w w' := by
  have H : (if a0 ≥ 0 then (some (decide (a0 ≤ 4000))) else (some false)) = some r := h
  clear h
  by_cases c2 : a0 ≥ 0
  · rw [if_pos c2] at H
    have c2b0 : decide (0 ≤ a0) = true := decide_eq_true c2
    clear c2
    obtain rfl := Option.some.inj H
    go_enter Try.func30, Try.ntmps30
    go_wp2
    go_ret
    exact ⟨by first | rfl | (simp; done) | (simp [*]; done), by repeat (first | exact Drawn0.refl _ | apply Drawn0.step)⟩
  · rw [if_neg c2] at H
    have c2b0 : decide (0 ≤ a0) = false := decide_eq_false c2
    clear c2
    obtain rfl := Option.some.inj H
    go_enter Try.func30, Try.ntmps30
    go_wp2
    go_ret
    exact ⟨by first | rfl | (simp; done) | (simp [*]; done), by repeat (first | exact Drawn0.refl _ | apply Drawn0.step)⟩

/-! ### spiritlevelref13_Lit: function 21 -/
def spiritlevelref13_Lit.f (a0 : Int) (a1 : Int) : Option (Bool) := if a1 ≥ 2 then (some (decide (a1 ≤ (wrap64 ((wrap64 (2 * a0)) + 1))))) else (some false)
set_option maxHeartbeats 8000000 in
set_option maxRecDepth 100000 in
theorem spiritlevelref13_Lit.calls (a0 : Int) (a1 : Int) (r : Bool) (w : World) (h : spiritlevelref13_Lit.f a0 a1 = some r) :
    Calls Try.prog 21 #[.int .i64 a0, .int .i64 a1] w fun e w' => e = .returned (.bool r) ∧ Drawn0 w w' := by
  have H : (if a1 ≥ 2 then (some (decide (a1 ≤ (wrap64 ((wrap64 (2 * a0)) + 1))))) else (some false)) = some r := h
  clear h
  by_cases c3 : a1 ≥ 2
  · rw [if_pos c3] at H
    have c3b0 : decide (2 ≤ a1) = true := decide_eq_true c3
    clear c3
    obtain rfl := Option.some.inj H
    go_enter Try.func21, Try.ntmps21
    go_wp2
    go_ret
    exact ⟨by first | rfl | (simp; done) | (simp [*]; done), by repeat (first | exact Drawn0.refl _ | apply Drawn0.step)⟩
  · rw [if_neg c3] at H
    have c3b0 : decide (2 ≤ a1) = false := decide_eq_false c3
    clear c3
    obtain rfl := Option.some.inj H
    go_enter Try.func21, Try.ntmps21
    go_wp2
    go_ret
    exact ⟨by first | rfl | (simp; done) | (simp [*]; done), by repeat (first | exact Drawn0.refl _ | apply Drawn0.step)⟩

end Go.Proofs.Ytnicmgakboghpaa.QClauseResolves
