-- Made by wip/myprint.sh (a patched print): a text of this session's own.
import Derived.Test.YtlgoniocoifjjaaQConstantsConesx0
import Derived.Test.YtlgoniocoifjjaaQConstantsConesx3
namespace Go.Proofs.Ytlgoniocoifjjaa.QConstantsCones
open Go.RowKit Go.Proofs.YtlgoniocoifjjaaW.PrintWords Go.Proofs.YtlgoniocoifjjaaW.PrintLast Go.Proofs.YtlgoniocoifjjaaW.PrintMore
attribute [local go_sem] max2_int min2_int max_two min_two max_three min_three max_four min_four   -- for this text's walks alone
set_option linter.unusedVariables false
set_option linter.unusedSimpArgs false

/-! ### lits_check: function 68 -/
def lits_check.l0 : Nat → List Int → Int → Int → Option (Int)
 | 0, _, _, _ => none
 | k + 1, x5, x6, x7 => if x7 < x6 then (if 0 ≤ x7 then (if x7 < (x5.length : Int) then (if (rd x5 x7) < 0 then (some 2) else (if (rd x5 x7) > 2001 then (some 2) else (lits_check.l0 k x5 x6 (wrap64 (x7 + 1))))) else (none)) else (none)) else (some 0)
def lits_check.f (k : Nat) (l0 : List Int) : Option (Int) := lits_check.l0 k l0 (l0.length : Int) 0
theorem lits_check.mono_l : ∀ k, (∀ y0 y1 y2, LeO (lits_check.l0 k y0 y1 y2) (lits_check.l0 (k + 1) y0 y1 y2))
 | 0 => fun _ _ _ r h => by simp [lits_check.l0] at h
 | k + 1 => by
  have ih0 := lits_check.mono_l k
  ·intro y0 y1 y2
   unfold lits_check.l0
   repeat' first
   | (with_reducible exact ih0 _ _ _)
   | (with_reducible exact LeO.refl _)
   | (with_reducible exact LeO.none _)
   | (with_reducible refine LeO.ite ?_ ?_)
   | (with_reducible refine LeO.bind ?_ (fun _ => ?_))
   | exact ih0 _ _ _
   | exact LeO.none _
   | refine LeO.ite ?_ ?_
   | refine LeO.bind ?_ (fun _ => ?_)
theorem lits_check.mono : ∀ a0 k, LeO (lits_check.f k a0) (lits_check.f (k + 1) a0) := by
 intro a0 k
 have ih0 := lits_check.mono_l k
 unfold lits_check.f
 repeat' first
   | (with_reducible exact ih0 _ _ _)
   | (with_reducible exact LeO.refl _)
   | (with_reducible exact LeO.none _)
   | (with_reducible refine LeO.ite ?_ ?_)
   | (with_reducible refine LeO.bind ?_ (fun _ => ?_))
   | exact ih0 _ _ _
   | exact LeO.none _
   | refine LeO.ite ?_ ?_
   | refine LeO.bind ?_ (fun _ => ?_)
set_option maxHeartbeats 8000000 in
set_option maxRecDepth 100000 in
theorem lits_check.calls (k : Nat) (A0 : Option Addr) (c0 : Nat) (l0 : List Int) (r : Int) (w : World) (hr0 : Kd.C (Kd.int .i64) w A0 l0.length l0) (hc0 : l0.length ≤ c0) (h : lits_check.f k l0 = some r) :
  Calls Try.prog 68 #[.slice A0 l0.length c0] w fun e w' => e = .returned (.int .i64 r) ∧ Drawn0 w w' := by
 have HR0 := M_ hr0
 have HC0 := M_ hc0
 clear hr0 hc0
 have H : (lits_check.l0 k l0 (l0.length : Int) 0) = some r := h
 clear h
 have H' := M_ H
 clear H
 go_enter Try.func68, Try.ntmps68
 go_wp2
 go_loopg [7] k (fun kq v7 w' => ∃ (x7_1 : Int), v7 = .int .i64 x7_1 ∧ Aside0 (lits_check.l0 kq l0 (l0.length : Int) x7_1 = some r) ∧ Aside0 (kq ≤ k) ∧ Drawn0 w w')
 case atStart => exact ⟨(0), (by first | rfl | (simp; done) | (simp [*]; done)), H', ⟨Nat.le_refl _⟩, by repeat (first | exact Drawn0.refl _ | apply Drawn0.step)⟩
 case round =>
  clear H'
  obtain ⟨x7_1, rfl, HA, HK1, ⟨m1, rfl⟩⟩ := hrel
  cases gk with
  | zero => exact absurd HA.out (by simp [lits_check.l0])
  | succ k1 =>
   have H := HA.out
   clear HA
   simp only [lits_check.l0] at H
   by_cases c2 : x7_1 < (l0.length : Int)
   ·rw [if_pos c2] at H
    have c2b0 : decide (x7_1 < (l0.length : Int)) = true := decide_eq_true c2
    clear c2
    by_cases c3 : 0 ≤ x7_1
    ·rw [if_pos c3] at H
     have c3b0 : decide (0 ≤ x7_1) = true := decide_eq_true c3
     clear c3
     by_cases c4 : x7_1 < (l0.length : Int)
     ·rw [if_pos c4] at H
      have c4b0 : decide (x7_1 < (l0.length : Int)) = true := decide_eq_true c4
      clear c4
      by_cases c5 : (rd l0 x7_1) < 0
      ·rw [if_pos c5] at H
       have c5b0 : decide ((rd l0 x7_1) < 0) = true := decide_eq_true c5
       clear c5
       obtain rfl := Option.some.inj H
       have p260 : 0 ≤ (x7_1 : Int) := of_decide_eq_true (by first | (with_reducible assumption) | assumption)
       have q260 : x7_1 < (l0.length : Int) := of_decide_eq_true (by first | (with_reducible assumption) | assumption)
       obtain ⟨ad260, e260, hx260_0⟩ := Kd.at_int HR0.out x7_1 p260 q260
       cases e260
       replace p260 := eq_true p260
       replace q260 := eq_true q260
       go_wp2
       go_ret
       exact ⟨by first | rfl | (simp; done) | (simp [*]; done), by repeat (first | exact Drawn0.refl _ | apply Drawn0.step)⟩
      ·rw [if_neg c5] at H
       have c5b0 : decide ((rd l0 x7_1) < 0) = false := decide_eq_false c5
       clear c5
       by_cases c6 : (rd l0 x7_1) > 2001
       ·rw [if_pos c6] at H
        have c6b0 : decide (2001 < (rd l0 x7_1)) = true := decide_eq_true c6
        clear c6
        obtain rfl := Option.some.inj H
        have p260 : 0 ≤ (x7_1 : Int) := of_decide_eq_true (by first | (with_reducible assumption) | assumption)
        have q260 : x7_1 < (l0.length : Int) := of_decide_eq_true (by first | (with_reducible assumption) | assumption)
        obtain ⟨ad260, e260, hx260_0⟩ := Kd.at_int HR0.out x7_1 p260 q260
        cases e260
        replace p260 := eq_true p260
        replace q260 := eq_true q260
        go_wp2
        go_ret
        exact ⟨by first | rfl | (simp; done) | (simp [*]; done), by repeat (first | exact Drawn0.refl _ | apply Drawn0.step)⟩
       ·rw [if_neg c6] at H
        have c6b0 : decide (2001 < (rd l0 x7_1)) = false := decide_eq_false c6
        clear c6
        have H' := M_ H
        clear H
        have p260 : 0 ≤ (x7_1 : Int) := of_decide_eq_true (by first | (with_reducible assumption) | assumption)
        have q260 : x7_1 < (l0.length : Int) := of_decide_eq_true (by first | (with_reducible assumption) | assumption)
        obtain ⟨ad260, e260, hx260_0⟩ := Kd.at_int HR0.out x7_1 p260 q260
        cases e260
        replace p260 := eq_true p260
        replace q260 := eq_true q260
        go_wp2
        go_roundg k1
        case measure => have := HK1.out; omega
        case rel => exact ⟨(wrap64 (x7_1 + 1)), (by first | rfl | (simp; done) | (simp [*]; done)), H', ⟨by have := HK1.out; omega⟩, by repeat (first | exact Drawn0.refl _ | apply Drawn0.step)⟩
     ·rw [if_neg c4] at H
      exact absurd H (by simp)
    ·rw [if_neg c3] at H
     exact absurd H (by simp)
   ·rw [if_neg c2] at H
    have c2b0 : decide (x7_1 < (l0.length : Int)) = false := decide_eq_false c2
    clear c2
    obtain rfl := Option.some.inj H
    go_wp2
    go_ret
    exact ⟨by first | rfl | (simp; done) | (simp [*]; done), by repeat (first | exact Drawn0.refl _ | apply Drawn0.step)⟩

/-! ### lits_Var: function 41 -/
def lits_Var.f (k : Nat) (a0 : Int) : Option (Int × Bool × Int) := (lits_check.f k (([a0] : List Int))).bind fun t264 => (if t264 = 0 then (some (a0 / 2, ((Go.bits .and .i64 a0 1) == 1), 0)) else (some (0, false, t264)))
theorem lits_Var.mono : ∀ a0 k, LeO (lits_Var.f k a0) (lits_Var.f (k + 1) a0) := by
 intro a0 k
 unfold lits_Var.f
 repeat' first
   | (with_reducible exact lits_check.mono _ _)
   | (with_reducible exact LeO.refl _)
   | (with_reducible exact LeO.none _)
   | (with_reducible refine LeO.ite ?_ ?_)
   | (with_reducible refine LeO.bind ?_ (fun _ => ?_))
   | exact lits_check.mono _ _
   | exact LeO.none _
   | refine LeO.ite ?_ ?_
   | refine LeO.bind ?_ (fun _ => ?_)
set_option maxHeartbeats 8000000 in
set_option maxRecDepth 100000 in
theorem lits_Var.calls (k : Nat) (a0 : Int) (r1 : Int) (r2 : Bool) (r3 : Int) (w : World) (h : lits_Var.f k a0 = some (r1, r2, r3)) :
  Calls Try.prog 41 #[.int .i64 a0] w fun e w' => e = .returned (.tuple #[.int .i64 r1, .bool r2, .int .i64 r3]) ∧ Below w.heap.size w w' := by
 have HB := M_ (Below.refl w.heap.size w)
 have H : ((lits_check.f k (([a0] : List Int))).bind fun t264 => (if t264 = 0 then (some (a0 / 2, ((Go.bits .and .i64 a0 1) == 1), 0)) else (some (0, false, t264)))) = some (r1, r2, r3) := h
 clear h
 obtain ⟨y261, hy261⟩ : ∃ y_ : List Int, y_ = (([a0] : List Int)) := ⟨_, rfl⟩
 replace H : ((lits_check.f k y261).bind fun t264 => (if t264 = 0 then (some (a0 / 2, ((Go.bits .and .i64 a0 1) == 1), 0)) else (some (0, false, t264)))) = some (r1, r2, r3) := by first | (rw [hy261]; with_reducible exact H) | (have H2_ := (Option.bind_some _ _).symm.trans H; rw [hy261]; with_reducible exact H2_) | (have H2_ := (Option.bind_some _ _).symm.trans H; with_reducible exact H2_) | with_reducible exact H | (rw [hy261]; exact H) | exact H
 have Ny261 := M_ hy261
 clear hy261
 replace H := Option.bind_eq_some_iff.mp H
 obtain ⟨t264, A20, H⟩ := H
 replace H : (if t264 = 0 then (some (a0 / 2, ((Go.bits .and .i64 a0 1) == 1), 0)) else (some (0, false, t264))) = some (r1, r2, r3) := H
 have A2 := M_ A20
 clear A20
 by_cases c3 : t264 = 0
 ·rw [if_pos c3] at H
  have c3b0 : (t264 == 0) = true := beq_iff_eq.mpr c3
  have c3b1 : (t264 != 0) = false := bne_eq_false_iff_eq.mpr c3
  clear c3
  simp only [Option.some.injEq, Prod.mk.injEq] at H
  obtain ⟨rfl, rfl, rfl⟩ := H
  go_enter Try.func41, Try.ntmps41
  go_wp2_with (first | ((with_reducible refine gate_dst (N := 7) rfl ?_); refine Kd.R_lit (Kd.int .i64) _ 3 ?hg (N := 7) ?hd (xs := ([a0] : List Int)) (inner := [.int .i64 a0]) (ok := fun _ => True) (okp := fun _ => True) ?hr ?hp (fun _ hk => hk) trivial (Below.refl _ _) (Nat.le_refl _) (by simp) ?_; (case hd => rfl); (case hg => rfl); (case hr => first | (go_simp; done) | (go_simp; rfl)); (case hp => exact (Reps.one (show Kd.M (Kd.int .i64) _ _ _ a0 [.int .i64 a0] from rfl) (Reps.none _ _))); intro v262 w4 ho5 hb hg_ hnew_; clear hg_ hnew_; (first | rw [← Ny261.out] at ho5 | (simp only [Int.reduceToNat] at ho5; rw [← Ny261.out] at ho5)); have n0_ := M_ (Kd.R_lower ho5 (below_size (by repeat (first | (with_reducible first | exact HB.out | apply b0_ | apply b1_ | apply b2_) | exact HB.out)))); have n1_ := M_ (below_step (by repeat (first | (with_reducible first | exact HB.out | apply b0_ | apply b1_ | apply b2_) | exact HB.out)) hb); clear HB; have HO263 := n0_; have HB := n1_; clear n0_ n1_; clear hb ho5; obtain ⟨Ao6, co6, eo6⟩ := Kd.R_slice HO263.out; subst eo6) | ((with_reducible refine gate_callee (f := 68) rfl ?_); refine goesL_ (some 8) rfl rfl Try.func68 (by kernel_rfl) rfl #[.slice Ao6 y261.length co6] rfl (by (try simp only [List.map_toArray, List.map_cons, List.map_nil]); first | done | rfl | (simp only [List.length_drop, List.length_take]; rfl)) ?_; (with_reducible refine (lits_check.calls k _ _ y261 t264 _ ?side1 ?side2 A2.out).mono ?_); (case side1 => repeat (first | exact (Kd.R_reads' HO263.out).2.2 | (with_reducible refine c0_ ?_ _) | (with_reducible refine c1_ ?_ _) | (with_reducible refine c2_ ?_))); (case side2 => exact (Kd.R_reads' HO263.out).2.1); rintro e w' ⟨rfl, ⟨nd, rfl⟩⟩; refine ⟨_, rfl, ?_⟩))
  go_ret3
  exact ⟨by first | rfl | (simp [errW_none, errW_some] <;> rfl) | (simp [*, errW_none, errW_some] <;> rfl), by repeat (first | (with_reducible first | exact HB.out | apply b0_ | apply b1_ | apply b2_) | exact HB.out)⟩
 ·rw [if_neg c3] at H
  have c3b0 : (t264 == 0) = false := beq_eq_false_iff_ne.mpr c3
  have c3b1 : (t264 != 0) = true := bne_iff_ne.mpr c3
  simp only [Option.some.injEq, Prod.mk.injEq] at H
  obtain ⟨rfl, rfl, rfl⟩ := H
  go_enter Try.func41, Try.ntmps41
  go_wp2_with (first | ((with_reducible refine gate_dst (N := 7) rfl ?_); refine Kd.R_lit (Kd.int .i64) _ 3 ?hg (N := 7) ?hd (xs := ([a0] : List Int)) (inner := [.int .i64 a0]) (ok := fun _ => True) (okp := fun _ => True) ?hr ?hp (fun _ hk => hk) trivial (Below.refl _ _) (Nat.le_refl _) (by simp) ?_; (case hd => rfl); (case hg => rfl); (case hr => first | (go_simp; done) | (go_simp; rfl)); (case hp => exact (Reps.one (show Kd.M (Kd.int .i64) _ _ _ a0 [.int .i64 a0] from rfl) (Reps.none _ _))); intro v262 w7 ho8 hb hg_ hnew_; clear hg_ hnew_; (first | rw [← Ny261.out] at ho8 | (simp only [Int.reduceToNat] at ho8; rw [← Ny261.out] at ho8)); have n0_ := M_ (Kd.R_lower ho8 (below_size (by repeat (first | (with_reducible first | exact HB.out | apply b0_ | apply b1_ | apply b2_) | exact HB.out)))); have n1_ := M_ (below_step (by repeat (first | (with_reducible first | exact HB.out | apply b0_ | apply b1_ | apply b2_) | exact HB.out)) hb); clear HB; have HO263 := n0_; have HB := n1_; clear n0_ n1_; clear hb ho8; obtain ⟨Ao9, co9, eo9⟩ := Kd.R_slice HO263.out; subst eo9) | ((with_reducible refine gate_callee (f := 68) rfl ?_); refine goesL_ (some 8) rfl rfl Try.func68 (by kernel_rfl) rfl #[.slice Ao9 y261.length co9] rfl (by (try simp only [List.map_toArray, List.map_cons, List.map_nil]); first | done | rfl | (simp only [List.length_drop, List.length_take]; rfl)) ?_; (with_reducible refine (lits_check.calls k _ _ y261 t264 _ ?side1 ?side2 A2.out).mono ?_); (case side1 => repeat (first | exact (Kd.R_reads' HO263.out).2.2 | (with_reducible refine c0_ ?_ _) | (with_reducible refine c1_ ?_ _) | (with_reducible refine c2_ ?_))); (case side2 => exact (Kd.R_reads' HO263.out).2.1); rintro e w' ⟨rfl, ⟨nd, rfl⟩⟩; refine ⟨_, rfl, ?_⟩))
  go_ret3
  exact ⟨by first | rfl | (simp [errW_none, errW_some] <;> rfl) | (simp [*, errW_none, errW_some] <;> rfl), by repeat (first | (with_reducible first | exact HB.out | apply b0_ | apply b1_ | apply b2_) | exact HB.out)⟩

/-! ### slices_Sort_int_int: function 44, by hand -/
/-- The numbers of a list in increasing order. -/
def sortI (l : List Int) : List Int := l.mergeSort fun x y => decide (x ≤ y)
theorem encs_map {α : Type} (enc : α → Value) (l : List α) : encs enc l = l.map enc := by simp [encs]
def slices_Sort_int_int.f (l0 : List Int) : Option (List Int) := if l0.length ≤ 1000000000 then some (sortI l0) else none
theorem slices_Sort_int_int.calls (P0_ : Nat → Prop) (u9000_ : Value) (l0 : List Int) (r : List Int) (w0 w : World) (hB : Below w0.heap.size w0 w) (ho0 : Kd.R (Kd.int .i64) 3 w w0.heap.size P0_ u9000_ l0) (h : slices_Sort_int_int.f l0 = some r) :
  Calls Try.prog 44 #[u9000_] w fun e w' => e = .returned (.tuple #[]) ∧ Kd.R (Kd.int .i64) 3 w' w0.heap.size (fun k_ => (P0_ k_ ∨ w.heap.size ≤ k_)) u9000_ r ∧ Below w0.heap.size w0 w' ∧ Kept w w' (fun k_ => P0_ k_) := by
 unfold slices_Sort_int_int.f at h
 split at h
 ·rename_i hb
  obtain rfl := Option.some.inj h
  clear h
  have ho := Kd.own_of_R ho0
  rw [encs_map] at ho
  rcases ho.2 with ⟨rfl, hn⟩ | ⟨g, cap, cur, rfl, hg, hh, h1, h2, h3, h4⟩
  ·have hn0 : l0.length = 0 := hn
   have hn := List.eq_nil_of_length_eq_zero hn0
   subst hn
   refine (Try.slices_Sort_int_none none 0 w).mono ?_
   rintro e w' ⟨rfl, rfl⟩
   exact ⟨rfl, Kd.R_mono (by simpa [sortI] using ho0) (fun _ hk => .inl hk), hB, Kept.refl _ _⟩
  ·have hlt : g < w.heap.size := (Array.getElem?_eq_some_iff.1 hh).1
   rw [Nat.mul_one] at h4
   refine (Try.slices_Sort_int g 0 cap l0 w (holds_of_blockI hh h4) hlt (by omega)).mono ?_
   rintro e w' ⟨rfl, n, os, rfl⟩
   have hl : (sortI l0).length = l0.length := by simp [sortI]
   have hw := ownsRow_sortedI (n := n) (os := os) hl hg hh h1 h2 h3
   have hgr : w.grownBy (Sort.grow (Sort.putRow (Value.int .i64) (Sort.ahead w n) g 0 (sortI l0).toArray) os) (some g) := grownBy_sortedI (sortI l0).toArray
   refine ⟨rfl, Kd.R_of_own (by rw [encs_map, hl]; exact hw) (fun k hk => .inl (ho0.1 k hk)), pw_below_grown hB (some g) hB.size hgr (fun k e => by cases e; exact hg), Kept.of_grown hgr (Kept.refl _ _) (fun k e => by cases e; exact .inl (ho0.1 _ rfl))⟩
 ·simp at h

/-! ### gates_Cone: function 15, by hand -/
theorem arrTwo0 (x0 x1 : Value) (w : World) : (Instr.index 116 (.agg #[x0, x1]) (.int .i64 0)).run Try.prog w = .ok x0 w := by kernel_rfl
theorem arrTwo1 (x0 x1 : Value) (w : World) : (Instr.index 116 (.agg #[x0, x1]) (.int .i64 1)).run Try.prog w = .ok x1 w := by kernel_rfl
theorem varL (x : Int) (h0 : 0 ≤ x) (h1 : x ≤ 2001) : ∃ b, lits_Var.f 3 x = some (x / 2, b, 0) := by
 unfold lits_Var.f lits_check.f
 have e : lits_check.l0 3 [x] ((([x] : List Int).length : Nat) : Int) 0 = some 0 := by
  have e1 : wrap64 (0 + 1) = 1 := by unfold wrap64; omega
  have hr : rd [x] 0 = x := rfl
  simp only [lits_check.l0, List.length_singleton, hr, e1]
  rw [if_pos (by decide), if_pos (by decide), if_pos (by decide), if_neg (by omega), if_neg (by omega), if_neg (by decide)]
 rw [e, Option.bind_some, if_pos rfl]
 exact ⟨_, rfl⟩
set_option maxHeartbeats 4000000 in
set_option maxRecDepth 100000 in
theorem partsN_calls (a0_0 : Int) (A0_1 : Option Addr) (n1 c0_1 : Nat) (A0_2 : Option Addr) (c0_2 : Nat) (l0_2 : List S55) (A0_3 : Option Addr) (n3 c0_3 : Nat) (A0_4 : Option Addr) (n4 c0_4 : Nat) (v : Int) (fv : Value) (w : World) (hv : v < st2 a0_0 n1) :
  Calls Try.prog 43 #[.agg #[.int .i64 a0_0, .slice A0_1 n1 c0_1, .slice A0_2 l0_2.length c0_2, .slice A0_3 n3 c0_3, .slice A0_4 n4 c0_4], .int .i64 v, fv] w fun e w' => e = .returned (.tuple #[]) ∧ Below w.heap.size w w' := by
 have b1 : decide (st2 a0_0 n1 ≤ v) = false := decide_eq_false (by omega)
 clear hv
 have ar := fun (x0 x1 x2 x3 : Value) (w : World) => arr2 x0 x1 x2 x3 w
 go_enter Try.func43, Try.ntmps43
 go_wp2_with (go_at_call 67; (with_reducible refine (starts_calls a0_0 A0_1 n1 c0_1 A0_2 l0_2.length c0_2 A0_3 n3 c0_3 A0_4 n4 c0_4 _).mono ?_); rintro e w1 ⟨rfl, hb1⟩; have HB := M_ (below_step (below_alloc (Below.refl _ _) _) hb1); clear hb1)
 go_end0
 exact ⟨rfl, HB.out⟩
set_option maxHeartbeats 4000000 in
set_option maxRecDepth 100000 in
theorem partsY_calls (a0_0 : Int) (A0_1 : Option Addr) (n1 c0_1 : Nat) (A0_2 : Option Addr) (c0_2 : Nat) (l0_2 : List S55) (A0_3 : Option Addr) (n3 c0_3 : Nat) (A0_4 : Option Addr) (n4 c0_4 : Nat) (v : Int) (i : Nat) (b1 b2 b3 b4 : Nat) (w : World) (Q0 Q1 Q2 : World → Prop)
  (hi : i < l0_2.length) (hv : v = st2 a0_0 n1 + i) (hlo : 0 ≤ st2 a0_0 n1) (hhi : st2 a0_0 n1 ≤ 1000000) (hr : Kd.C k55 w A0_2 l0_2.length l0_2)
  (hx0 : 0 ≤ (rd_T55 l0_2 (i : Int)).f0) (hx1 : (rd_T55 l0_2 (i : Int)).f0 ≤ 2001) (hy0 : 0 ≤ (rd_T55 l0_2 (i : Int)).f1) (hy1 : (rd_T55 l0_2 (i : Int)).f1 ≤ 2001)
  (hl : l0_2.length ≤ 1000000) (q0 : Q0 w) (st0 : ∀ W W', Q0 W → Below W.heap.size W W' → Q0 W') (st1_ : ∀ W W', Q1 W → Below W.heap.size W W' → Q1 W')
  (c1 : ∀ W, Q0 W → Calls Try.prog 42 #[.int .i64 ((rd_T55 l0_2 (i : Int)).f0 / 2), .pointer (some ⟨b1, 0, none⟩), .pointer (some ⟨b2, 0, none⟩), .pointer (some ⟨b3, 0, none⟩), .pointer (some ⟨b4, 0, none⟩)] W fun e W' => e = .returned (.tuple #[]) ∧ Q1 W')
  (c2 : ∀ W, Q1 W → Calls Try.prog 42 #[.int .i64 ((rd_T55 l0_2 (i : Int)).f1 / 2), .pointer (some ⟨b1, 0, none⟩), .pointer (some ⟨b2, 0, none⟩), .pointer (some ⟨b3, 0, none⟩), .pointer (some ⟨b4, 0, none⟩)] W fun e W' => e = .returned (.tuple #[]) ∧ Q2 W') :
  Calls Try.prog 43 #[.agg #[.int .i64 a0_0, .slice A0_1 n1 c0_1, .slice A0_2 l0_2.length c0_2, .slice A0_3 n3 c0_3, .slice A0_4 n4 c0_4], .int .i64 v, .func (.func 42) #[] #[.pointer (some ⟨b1, 0, none⟩), .pointer (some ⟨b2, 0, none⟩), .pointer (some ⟨b3, 0, none⟩), .pointer (some ⟨b4, 0, none⟩)]] w fun e w' => e = .returned (.tuple #[]) ∧ Q2 w' := by
 have e1 : decide (st2 a0_0 n1 ≤ v) = true := decide_eq_true (by omega)
 have e2 : wrap64 (v - st2 a0_0 n1) = (i : Int) := by unfold wrap64; omega
 have p0 : (0 : Int) ≤ (i : Int) := by omega
 have p1 : (i : Int) < (l0_2.length : Int) := by omega
 obtain ⟨bA, hA⟩ := varL _ hx0 hx1
 obtain ⟨bB, hB⟩ := varL _ hy0 hy1
 have HR := M_ hr
 have HQ := M_ q0
 have HA := M_ hA
 have HBv := M_ hB
 have S0 := M_ st0
 have S1 := M_ st1_
 have C1 := M_ c1
 have C2 := M_ c2
 clear hr q0 hA hB st0 st1_ c1 c2 hv hlo hhi hx0 hx1 hy0 hy1 hl hi
 have hu26 := Try.underlying26
 have hu55 := Try.underlying55
 have ar := fun (x0 x1 x2 x3 : Value) (w : World) => arr2 x0 x1 x2 x3 w
 have ar0 := fun (x0 x1 : Value) (w : World) => arrTwo0 x0 x1 w
 have ar1 := fun (x0 x1 : Value) (w : World) => arrTwo1 x0 x1 w
 go_enter Try.func43, Try.ntmps43
 go_wp2_with (first
  | ((with_reducible refine gate_dst (N := 3) rfl ?_); refine box_event ?hg (N := 3) ?hd (cs := #[.int .i64 a0_0, .slice A0_1 n1 c0_1, .slice A0_2 l0_2.length c0_2, .slice A0_3 n3 c0_3, .slice A0_4 n4 c0_4]) (t := 26) ?hr ?_; (case hd => rfl); (case hg => rfl); (case hr => first | (go_simp; done) | (go_simp; rfl)); intro gb hg w12 hbox hb; have HB := M_ (below_step (Below.refl _ w) hb); have BK := M_ hbox; clear hb hbox hg; have hz0 : w12.cell? ⟨gb, 0, none⟩ = some (.int .i64 a0_0) := (blk_cell BK.out 0).trans rfl; have hz1 : w12.cell? ⟨gb, 1, none⟩ = some (.slice A0_1 n1 c0_1) := (blk_cell BK.out 1).trans rfl; have hz2 : w12.cell? ⟨gb, 2, none⟩ = some (.slice A0_2 l0_2.length c0_2) := (blk_cell BK.out 2).trans rfl; have hz3 : w12.cell? ⟨gb, 3, none⟩ = some (.slice A0_3 n3 c0_3) := (blk_cell BK.out 3).trans rfl; have hz4 : w12.cell? ⟨gb, 4, none⟩ = some (.slice A0_4 n4 c0_4) := (blk_cell BK.out 4).trans rfl)
  | (go_at_call 67; (with_reducible refine (starts_calls a0_0 A0_1 n1 c0_1 A0_2 l0_2.length c0_2 A0_3 n3 c0_3 A0_4 n4 c0_4 _).mono ?_); rintro e w1 ⟨rfl, hb1⟩; have n0_ := M_ (below_step HB.out hb1); have n1_ := M_ (blk_below BK.out hb1); clear HB BK hb1 hz0 hz1 hz2 hz3 hz4; have HB := n0_; have BK := n1_; clear n0_ n1_; have hz2 : w1.cell? ⟨gb, 2, none⟩ = some (.slice A0_2 l0_2.length c0_2) := (blk_cell BK.out 2).trans rfl; obtain ⟨ad, rfl, hx, hy⟩ := at_T55n (Kd.C_below HR.out HB.out) i (by omega)))
 simp only [e2]
 clear e2
 go_loopg [31] 3 (fun kq v31 w' => ∃ (t : Nat), v31 = .int .i64 (t : Int) ∧ Aside0 (kq + t = 3 ∧ t ≤ 2) ∧ Aside0 ((t = 0 → Q0 w') ∧ (t = 1 → Q1 w') ∧ (t = 2 → Q2 w')))
 case atStart => exact ⟨0, by simp, ⟨by omega, by omega⟩, ⟨fun _ => S0.out _ _ HQ.out (below_alloc HB.out _), fun h => absurd h (by decide), fun h => absurd h (by decide)⟩⟩
 case round =>
  obtain ⟨t, rfl, HT, HS⟩ := hrel
  have hT := HT.out.2
  have ht3 : t = 0 ∨ t = 1 ∨ t = 2 := by omega
  clear hT HB BK hz2 hx hy
  rcases ht3 with rfl | rfl | rfl
  ·have HQ0 := M_ (HS.out.1 rfl)
   go_wp2_with (first
    | (go_at_call 41; (with_reducible refine (lits_Var.calls 3 _ _ bA 0 _ HA.out).mono ?_); rintro e w2 ⟨rfl, hb2⟩; have HQ1 := M_ (S0.out _ _ HQ0.out hb2); clear hb2)
    | (go_at_call 42; (with_reducible refine (C1.out _ HQ1.out).mono ?_); rintro e w3 ⟨rfl, hq⟩; have HQ2 := M_ hq; clear hq))
   go_roundg (gk - 1)
   case rel => exact ⟨1, rfl, ⟨by have := HT.out; omega, by omega⟩, ⟨fun h => absurd h (by decide), fun _ => HQ2.out, fun h => absurd h (by decide)⟩⟩
   case measure => have := HT.out; omega
  ·have HQ0 := M_ (HS.out.2.1 rfl)
   go_wp2_with (first
    | (go_at_call 41; (with_reducible refine (lits_Var.calls 3 _ _ bB 0 _ HBv.out).mono ?_); rintro e w2 ⟨rfl, hb2⟩; have HQ1 := M_ (S1.out _ _ HQ0.out hb2); clear hb2)
    | (go_at_call 42; (with_reducible refine (C2.out _ HQ1.out).mono ?_); rintro e w3 ⟨rfl, hq⟩; have HQ2 := M_ hq; clear hq))
   go_roundg (gk - 1)
   case rel => exact ⟨2, rfl, ⟨by have := HT.out; omega, by omega⟩, ⟨fun h => absurd h (by decide), fun h => absurd h (by decide), fun _ => HQ2.out⟩⟩
   case measure => have := HT.out; omega
  ·have HQ0 := M_ (HS.out.2.2 rfl)
   go_wp2
   go_end0
   exact ⟨rfl, HQ0.out⟩
/-- One visit: what is marked, and what is put out. -/
def visitV (first : Int) (gs : List S55) : Nat → Nat → List Bool × List Int → List Bool × List Int
 | 0, _, s => s
 | k + 1, v, s => if v = 0 ∨ rdOf false s.1 (v : Int) = true then s else
  if first ≤ (v : Int) then visitV first gs k ((rd_T55 gs ((v : Int) - first)).f1 / 2).toNat (visitV first gs k ((rd_T55 gs ((v : Int) - first)).f0 / 2).toNat (s.1.set v true, s.2 ++ [(v : Int)]))
  else (s.1.set v true, s.2 ++ [(v : Int)])
/-- The world of a visit: the circuit, the marks, what is put out, and the visit itself, each in a block of its own. -/
structure StC (w W : World) (bc bi bo bv : Nat) (cells : Array Value) (ins : List Bool) (outs : List Int) : Prop where
 hb : Below w.heap.size w W
 lc : w.heap.size ≤ bc
 li : w.heap.size ≤ bi
 lo : w.heap.size ≤ bo
 lv : w.heap.size ≤ bv
 hc : W.heap[bc]? = some (.cells cells 26 (0, 0))
 hv : W.heap[bv]? = some (.cells #[.func (.func 42) #[] #[.pointer (some ⟨bi, 0, none⟩), .pointer (some ⟨bo, 0, none⟩), .pointer (some ⟨bc, 0, none⟩), .pointer (some ⟨bv, 0, none⟩)]] 87 (0, 0))
 hi : ∃ vi, W.heap[bi]? = some (.cells #[vi] 62 (0, 0)) ∧ Kd.R Kd.bool 4 W w.heap.size (fun _ => True) vi ins
 ho : ∃ vo, W.heap[bo]? = some (.cells #[vo] 24 (0, 0)) ∧ Kd.R (Kd.int .i64) 3 W w.heap.size (fun _ => True) vo outs
 hl : outs.length = ins.count true
theorem blkC_ty {W : World} {a b t t' : Nat} {c c' : Array Value} (h : W.heap[a]? = some (.cells c t (0, 0))) (h' : W.heap[b]? = some (.cells c' t' (0, 0))) (ne : t ≠ t') : a ≠ b := by
 rintro rfl
 rw [h] at h'
 injection h' with h'
 injection h' with _ h'
 exact ne h'
section
variable {w W : World} {bc bi bo bv : Nat} {cells : Array Value} {ins : List Bool} {outs : List Int}
theorem StC.below (h : StC w W bc bi bo bv cells ins outs) {W' : World} (hb : Below W.heap.size W W') : StC w W' bc bi bo bv cells ins outs := by
 obtain ⟨h0, h1, h2, h3, h4, hc, hv, ⟨vi, i1, i2⟩, ⟨vo, o1, o2⟩, hl⟩ := h
 have lt : ∀ {k : Nat} {x : Obj}, W.heap[k]? = some x → W'.heap[k]? = some x := fun hk => (hb.block _ (Array.getElem?_eq_some_iff.1 hk).1).trans hk
 exact ⟨below_step h0 hb, h1, h2, h3, h4, lt hc, lt hv, ⟨vi, lt i1, Kd.R_below i2 hb⟩, ⟨vo, lt o1, Kd.R_below o2 hb⟩, hl⟩
theorem StC.marks (h : StC w W bc bi bo bv cells ins outs) (hn : 0 < ins.length) : ∃ gi cap, W.heap[bi]? = some (.cells #[.slice (some ⟨gi, 0, none⟩) ins.length cap] 62 (0, 0)) ∧ w.heap.size ≤ gi ∧ ins.length ≤ cap ∧ (∃ cur, W.heap[gi]? = some (.cells cur 4 (0, 0))) ∧ Kd.R Kd.bool 4 W w.heap.size (fun _ => True) (.slice (some ⟨gi, 0, none⟩) ins.length cap) ins := by
 obtain ⟨vi, i1, i2⟩ := h.hi
 have ho := Kd.own_of_R i2
 rcases ho.2 with ⟨rfl, hz⟩ | ⟨g, cap, cur, rfl, hg, hh, q1, q2, q3, q4⟩
 ·omega
 ·exact ⟨g, cap, i1, hg, q1, ⟨cur, hh⟩, i2⟩
theorem count_mark (l : List Bool) (v : Nat) (h : v < l.length) (h2 : l[v] = false) : (l.set v true).count true = l.count true + 1 := by
 induction l generalizing v with
 | nil => simp at h
 | cons x l ih =>
  cases v with
  | zero => simp at h2; subst h2; simp
  | succ v =>
   have := ih v (by simpa using h) (by simpa using h2)
   simp only [List.set_cons_succ, List.count_cons, this]
   omega
/-- Marked, and put out. -/
theorem StC.push (h : StC w W bc bi bo bv cells ins outs) {gi cap v : Nat} (hv : v < ins.length) (hf : ins[v] = false) (hi : W.heap[bi]? = some (.cells #[.slice (some ⟨gi, 0, none⟩) ins.length cap] 62 (0, 0))) (hg : w.heap.size ≤ gi) (hcur : ∃ cur, W.heap[gi]? = some (.cells cur 4 (0, 0))) (hR : Kd.R Kd.bool 4 W w.heap.size (fun _ => True) (.slice (some ⟨gi, 0, none⟩) ins.length cap) ins)
  {W1 : World} (e1 : W1 = W.setCell ⟨gi, v, none⟩ (.bool true)) :
  Below w.heap.size w W1 ∧ W1.heap[bc]? = some (.cells cells 26 (0, 0)) ∧
  W1.heap[bv]? = some (.cells #[.func (.func 42) #[] #[.pointer (some ⟨bi, 0, none⟩), .pointer (some ⟨bo, 0, none⟩), .pointer (some ⟨bc, 0, none⟩), .pointer (some ⟨bv, 0, none⟩)]] 87 (0, 0)) ∧
  (W1.heap[bi]? = some (.cells #[.slice (some ⟨gi, 0, none⟩) ins.length cap] 62 (0, 0)) ∧ Kd.R Kd.bool 4 W1 w.heap.size (fun _ => True) (.slice (some ⟨gi, 0, none⟩) ins.length cap) (ins.set v true)) ∧
  (∃ vo, W1.heap[bo]? = some (.cells #[vo] 24 (0, 0)) ∧ Kd.R (Kd.int .i64) 3 W1 w.heap.size (fun _ => True) vo outs) := by
 subst e1
 obtain ⟨h0, h1, h2, h3, h4, hc, hvv, -, ⟨vo, o1, o2⟩, hl⟩ := h
 obtain ⟨cur, hcur⟩ := hcur
 refine ⟨h0.setCell hg _, blk_far hc (blkC_ty hc hcur (by decide)) _, blk_far hvv (blkC_ty hvv hcur (by decide)) _, ⟨blk_far hi (blkC_ty hi hcur (by decide)) _, ?_⟩, ⟨vo, blk_far o1 (blkC_ty o1 hcur (by decide)) _, ?_⟩⟩
 ·have := Kd.R_putn hR (v : Int) true
  rwa [Int.toNat_natCast] at this
 ·exact Kd.R_set o2 hcur (by decide) v _
end
theorem infoIV : (Try.prog.info? 3).map (fun i => (i.zero, i.size, i.bytes)) = some (some (.int .i64 0), 1, 8) := by kernel_rfl
/-- A row of another type stays where one has grown. -/
theorem RC_apart {α β : Type} {d : Kd α} {d' : Kd β} {e e' b : Nat} {W W1 : World} {v v' : Value} {xs : List α} {ys : List β} (h : Kd.R d e W b (fun _ => True) v xs) (h' : Kd.R d' e' W b (fun _ => True) v' ys) (hg : W.grownBy W1 v'.ownBlock) (hE : ∀ q, q ∈ e :: d.E → q ≠ e') : Kd.R d e W1 b (fun _ => True) v xs := by
 refine Kd.R_mono (Kd.R_grown (Kd.R_bound h) hg (fun k hk e0 => ?_)) (fun _ _ => trivial)
 obtain ⟨_, _, _, q, hq, c, hc⟩ := hk
 obtain ⟨inner, ho⟩ := Kd.R_own h'
 obtain ⟨c', hc'⟩ := own_typed ho k e0.symm
 rw [hc] at hc'
 injection hc' with hc'
 injection hc' with _ hc'
 exact hE q hq hc'
theorem blkC_grown {β : Type} {d' : Kd β} {e' b k t : Nat} {W W1 : World} {v' : Value} {ys : List β} {c : Array Value} (hk : W.heap[k]? = some (.cells c t (0, 0))) (h' : Kd.R d' e' W b (fun _ => True) v' ys) (hg : W.grownBy W1 v'.ownBlock) (ne : t ≠ e') : W1.heap[k]? = some (.cells c t (0, 0)) := by
 refine (hg.block k (Array.getElem?_eq_some_iff.1 hk).1 (fun e0 => ?_)).trans hk
 obtain ⟨inner, ho⟩ := Kd.R_own h'
 obtain ⟨c', hc'⟩ := own_typed ho k e0.symm
 rw [hk] at hc'
 injection hc' with hc'
 injection hc' with _ hc'
 exact ne hc'
theorem StC.put {w W1 w2 : World} {bc bi bo bv : Nat} {cells : Array Value} {ins : List Bool} {outs outs' : List Int} {vo v2 vi : Value} (lc : w.heap.size ≤ bc) (li : w.heap.size ≤ bi) (lo : w.heap.size ≤ bo) (lv : w.heap.size ≤ bv) (hb2 : Below w.heap.size w w2) (hg : W1.grownBy w2 vo.ownBlock)
  (hc : W1.heap[bc]? = some (.cells cells 26 (0, 0)))
  (hv : W1.heap[bv]? = some (.cells #[.func (.func 42) #[] #[.pointer (some ⟨bi, 0, none⟩), .pointer (some ⟨bo, 0, none⟩), .pointer (some ⟨bc, 0, none⟩), .pointer (some ⟨bv, 0, none⟩)]] 87 (0, 0)))
  (i1 : W1.heap[bi]? = some (.cells #[vi] 62 (0, 0))) (i2 : Kd.R Kd.bool 4 W1 w.heap.size (fun _ => True) vi ins)
  (o1 : W1.heap[bo]? = some (.cells #[vo] 24 (0, 0))) (o2 : Kd.R (Kd.int .i64) 3 W1 w.heap.size (fun _ => True) vo outs)
  (r : Kd.R (Kd.int .i64) 3 w2 w.heap.size (fun _ => True) v2 outs') (hl : outs'.length = ins.count true) :
  w2.heap[bo]? = some (.cells #[vo] 24 (0, 0)) ∧ StC w (w2.setCell ⟨bo, 0, none⟩ v2) bc bi bo bv cells ins outs' := by
 have hbo := blkC_grown o1 o2 hg (by decide)
 have hbc := blkC_grown hc o2 hg (by decide)
 have hbv := blkC_grown hv o2 hg (by decide)
 have hbi := blkC_grown i1 o2 hg (by decide)
 have hri := RC_apart i2 o2 hg (by decide)
 refine ⟨hbo, hb2.setCell lo _, lc, li, lo, lv, blk_far hbc (blkC_ty hbc hbo (by decide)) _, blk_far hbv (blkC_ty hbv hbo (by decide)) _, ⟨vi, blk_far hbi (blkC_ty hbi hbo (by decide)) _, Kd.R_set hri hbo (by decide) 0 _⟩, ⟨v2, ?_, Kd.R_set r hbo (by decide) 0 _⟩, hl⟩
 have := blk_set hbo 0 v2
 simpa using this
set_option maxHeartbeats 4000000 in
set_option maxRecDepth 100000 in
theorem visit_calls (a0_0 : Int) (A0_1 : Option Addr) (n1 c0_1 : Nat) (A0_2 : Option Addr) (c0_2 : Nat) (l0_2 : List S55) (A0_3 : Option Addr) (n3 c0_3 : Nat) (A0_4 : Option Addr) (n4 c0_4 : Nat) (w : World) (bc bi bo bv N : Nat)
  (hr : Kd.C k55 w A0_2 l0_2.length l0_2) (hlo : 0 ≤ st2 a0_0 n1) (hhi : st2 a0_0 n1 ≤ 1000000) (hl2 : l0_2.length ≤ 1000000) (hN : (N : Int) = st2 a0_0 n1 + l0_2.length)
  (hg : ∀ i : Nat, i < l0_2.length → 0 ≤ (rd_T55 l0_2 (i : Int)).f0 ∧ (rd_T55 l0_2 (i : Int)).f0 ≤ 2001 ∧ 0 ≤ (rd_T55 l0_2 (i : Int)).f1 ∧ (rd_T55 l0_2 (i : Int)).f1 ≤ 2001 ∧ (rd_T55 l0_2 (i : Int)).f0 / 2 < st2 a0_0 n1 + i ∧ (rd_T55 l0_2 (i : Int)).f1 / 2 < st2 a0_0 n1 + i) :
  ∀ (k v : Nat), v < k → v < N → ∀ (W : World) (ins : List Bool) (outs : List Int), ins.length = N → StC w W bc bi bo bv #[.int .i64 a0_0, .slice A0_1 n1 c0_1, .slice A0_2 l0_2.length c0_2, .slice A0_3 n3 c0_3, .slice A0_4 n4 c0_4] ins outs →
  Calls Try.prog 42 #[.int .i64 (v : Int), .pointer (some ⟨bi, 0, none⟩), .pointer (some ⟨bo, 0, none⟩), .pointer (some ⟨bc, 0, none⟩), .pointer (some ⟨bv, 0, none⟩)] W fun e W' => e = .returned (.tuple #[]) ∧ (visitV (st2 a0_0 n1) l0_2 k v (ins, outs)).1.length = N ∧ StC w W' bc bi bo bv #[.int .i64 a0_0, .slice A0_1 n1 c0_1, .slice A0_2 l0_2.length c0_2, .slice A0_3 n3 c0_3, .slice A0_4 n4 c0_4] (visitV (st2 a0_0 n1) l0_2 k v (ins, outs)).1 (visitV (st2 a0_0 n1) l0_2 k v (ins, outs)).2 := by
 intro k
 induction k with
 | zero => intro v h; omega
 | succ k ih =>
  intro v hv hvN W ins outs hlen h
  have HG := M_ hg
  have HR := M_ hr
  have IH := M_ ih
  have HS := M_ h
  have HL := M_ (And.intro hlo (And.intro hhi (And.intro hl2 hN)))
  have hu26 := Try.underlying26
  have hu62 := Try.underlying62
  have hu24 := Try.underlying24
  clear hg hr ih hlo hhi hl2 hN
  by_cases c0 : v = 0
  ·subst c0
   clear h
   go_enter Try.func42, Try.ntmps42
   go_wp2
   (try simp only [Exit.inBlock, Exit.then]); refine bodyPost_ret (results_none rfl _ _ _) rfl ?_
   exact ⟨rfl, by simp only [visitV, true_or, if_true]; exact hlen, by simp only [visitV, true_or, if_true]; exact HS.out⟩
  ·obtain ⟨gi, cap, hi0, hgi, hcap, hcur, hR⟩ := h.marks (by omega)
   have hz := (blk_cell hi0 0).trans rfl
   have hzi : W.cell? ⟨bi, 0, none⟩ = some (.slice (some ⟨gi, 0, none⟩) ins.length cap) := hz
   obtain ⟨hx0, hf0⟩ := Kd.R_cell false hR (v : Int) (by omega) (by omega)
   have hx : W.cell? ⟨gi, v, none⟩ = some (.bool (rdOf false ins (v : Int))) := hx0
   have hf : W.frozen? ⟨gi, v, none⟩ = false := hf0
   have p0 : (0 : Int) ≤ (v : Int) := by omega
   have p1 : (v : Int) < (ins.length : Int) := by omega
   have p2 : ((v : Int) == 0) = false := beq_eq_false_iff_ne.mpr (by omega)
   clear hz hx0 hf0 h
   cases hm : rdOf false ins (v : Int) with
   | true =>
    rw [hm] at hx
    go_enter Try.func42, Try.ntmps42
    go_wp2
    (try simp only [Exit.inBlock, Exit.then]); refine bodyPost_ret (results_none rfl _ _ _) rfl ?_
    exact ⟨rfl, by simp only [visitV, hm, or_true, if_true]; exact hlen, by simp only [visitV, hm, or_true, if_true]; exact HS.out⟩
   | false =>
    rw [hm] at hx
    have hmf : ins[v]'(by omega) = false := by
     have : rdOf false ins (v : Int) = ins[v]'(by omega) := by simp [rdOf, List.getD, show v < ins.length by omega]
     rw [← this]; exact hm
    obtain ⟨hb1, hc1, hv1, ⟨hi1, hri1⟩, ⟨vo, ho1, hro1⟩⟩ := HS.out.push (by omega) hmf hi0 hgi hcur hR rfl
    have hzo : (W.setCell ⟨gi, v, none⟩ (.bool true)).cell? ⟨bo, 0, none⟩ = some vo := (blk_cell ho1 0).trans rfl
    have hcnt : (outs ++ [(v : Int)]).length = (ins.set v true).count true := by
     rw [List.length_append, HS.out.hl, count_mark ins v (by omega) hmf]; rfl
    have hol : outs.length ≤ N := by rw [HS.out.hl, ← hlen]; exact List.count_le_length
    have HC1 := M_ hc1
    have HV1 := M_ hv1
    have HI1 := M_ hi1
    have HRI1 := M_ hri1
    have HO1 := M_ ho1
    have HRO1 := M_ hro1
    have HB1 := M_ hb1
    have HCN := M_ hcnt
    have HM := M_ hm
    have HOL := M_ (show (outs.length + 1) * 8 ≤ 140737488355328 by have := HL.out; omega)
    have HLEN := M_ hlen
    clear hm hcur hi0 hR hgi hc1 hv1 hi1 hri1 ho1 hro1 hb1 hcnt hol hmf
    go_enter Try.func42, Try.ntmps42
    go_wp2_with (
     (at_builtin; go_loud (refine Kd.R_append (Kd.int .i64) (w0 := w) w.heap.size rfl (.tmp 17) (.tmp 19) 24 3 (.int .i64 0) 8 rfl hu24 infoIV rfl (by decide) (by omega) vo outs (v : Int) [.int .i64 (v : Int)] (fun _ => True) (fun _ => False) rfl (congrArg (fun n_ => Value.slice (some ⟨n_, 0, none⟩) 1 1) (show W.heap.size = (W.setCell ⟨gi, v, none⟩ (.bool true)).heap.size by simp)) rfl (fun _ hk => hk.elim) (fun _ _ => trivial) HRO1.out HB1.out HB1.out.size HOL.out ?_; intro v2 w2 ho hb hg hat; clear hat; have HRV := M_ ho; have HP := M_ (StC.put (bi := bi) HS.out.lc HS.out.li HS.out.lo HS.out.lv hb hg HC1.out HV1.out HI1.out HRI1.out HO1.out HRO1.out ho HCN.out); clear ho hb hg; obtain ⟨A2, c2, e2⟩ := Kd.R_slice HRV.out; generalize (outs ++ [(v : Int)]).length = m2 at e2; subst e2; have hzb : w2.cell? ⟨bo, 0, none⟩ = some vo := (blk_cell HP.out.1 0).trans rfl; have hk0 : (w2.setCell ⟨bo, 0, none⟩ (.slice A2 m2 c2)).cell? ⟨bc, 0, none⟩ = some (.int .i64 a0_0) := (blk_cell HP.out.2.hc 0).trans rfl; have hk1 : (w2.setCell ⟨bo, 0, none⟩ (.slice A2 m2 c2)).cell? ⟨bc, 1, none⟩ = some (.slice A0_1 n1 c0_1) := (blk_cell HP.out.2.hc 1).trans rfl; have hk2 : (w2.setCell ⟨bo, 0, none⟩ (.slice A2 m2 c2)).cell? ⟨bc, 2, none⟩ = some (.slice A0_2 l0_2.length c0_2) := (blk_cell HP.out.2.hc 2).trans rfl; have hk3 : (w2.setCell ⟨bo, 0, none⟩ (.slice A2 m2 c2)).cell? ⟨bc, 3, none⟩ = some (.slice A0_3 n3 c0_3) := (blk_cell HP.out.2.hc 3).trans rfl; have hk4 : (w2.setCell ⟨bo, 0, none⟩ (.slice A2 m2 c2)).cell? ⟨bc, 4, none⟩ = some (.slice A0_4 n4 c0_4) := (blk_cell HP.out.2.hc 4).trans rfl; have hk5 : (w2.setCell ⟨bo, 0, none⟩ (.slice A2 m2 c2)).cell? ⟨bv, 0, none⟩ = some (.func (.func 42) #[] #[.pointer (some ⟨bi, 0, none⟩), .pointer (some ⟨bo, 0, none⟩), .pointer (some ⟨bc, 0, none⟩), .pointer (some ⟨bv, 0, none⟩)]) := (blk_cell HP.out.2.hv 0).trans rfl; have hzf : w2.frozen? ⟨bo, 0, none⟩ = false := by simp [World.frozen?, HP.out.1]))
     )
    have hST := HP.out.2
    have hl0 := HL.out.1
    have hl1 := HL.out.2.1
    have hl2 := HL.out.2.2.1
    have hl3 := HL.out.2.2.2
    have hlen2 : (ins.set v true).length = N := by rw [List.length_set]; exact HLEN.out
    have hnot : ¬ (v = 0 ∨ rdOf false (ins, outs).1 (v : Int) = true) := by
     rintro (h | h)
     ·exact c0 h
     ·rw [HM.out] at h; exact absurd h (by decide)
    by_cases cF : (v : Int) < st2 a0_0 n1
    ·refine (partsN_calls a0_0 A0_1 n1 c0_1 A0_2 c0_2 l0_2 A0_3 n3 c0_3 A0_4 n4 c0_4 (v : Int) _ _ cF).mono ?_
     rintro e w3 ⟨rfl, hb3⟩
     have HF := M_ (hST.below hb3)
     have HLL := M_ hlen2
     have HNN := M_ hnot
     have HCF := M_ cF
     clear hST hlen2 hnot cF hb3 hl0 hl1 hl2 hl3
     go_wp2
     go_end0
     refine ⟨rfl, ?_, ?_⟩
     ·rw [visitV, if_neg HNN.out, if_neg (by have := HCF.out; omega)]; exact HLL.out
     ·rw [visitV, if_neg HNN.out, if_neg (by have := HCF.out; omega)]; exact HF.out
    ·obtain ⟨i, hi⟩ : ∃ i : Nat, (v : Int) = st2 a0_0 n1 + (i : Int) := ⟨((v : Int) - st2 a0_0 n1).toNat, by omega⟩
     have hil : i < l0_2.length := by omega
     obtain ⟨g0, g1, g2, g3, g4, g5⟩ := HG.out i hil
     have hvis : visitV (st2 a0_0 n1) l0_2 (k + 1) v (ins, outs) = visitV (st2 a0_0 n1) l0_2 k ((rd_T55 l0_2 (i : Int)).f1 / 2).toNat (visitV (st2 a0_0 n1) l0_2 k ((rd_T55 l0_2 (i : Int)).f0 / 2).toNat (ins.set v true, outs ++ [(v : Int)])) := by
      rw [visitV, if_neg hnot, if_pos (by omega), show (v : Int) - st2 a0_0 n1 = (i : Int) by omega]
     have eA : (rd_T55 l0_2 (i : Int)).f0 / 2 = (((rd_T55 l0_2 (i : Int)).f0 / 2).toNat : Int) := by omega
     have eB : (rd_T55 l0_2 (i : Int)).f1 / 2 = (((rd_T55 l0_2 (i : Int)).f1 / 2).toNat : Int) := by omega
     refine (partsY_calls a0_0 A0_1 n1 c0_1 A0_2 c0_2 l0_2 A0_3 n3 c0_3 A0_4 n4 c0_4 (v : Int) i bi bo bc bv _ (fun W' => StC w W' bc bi bo bv #[.int .i64 a0_0, .slice A0_1 n1 c0_1, .slice A0_2 l0_2.length c0_2, .slice A0_3 n3 c0_3, .slice A0_4 n4 c0_4] (ins.set v true) (outs ++ [(v : Int)]))
      (fun W' => (visitV (st2 a0_0 n1) l0_2 k ((rd_T55 l0_2 (i : Int)).f0 / 2).toNat (ins.set v true, outs ++ [(v : Int)])).1.length = N ∧ StC w W' bc bi bo bv #[.int .i64 a0_0, .slice A0_1 n1 c0_1, .slice A0_2 l0_2.length c0_2, .slice A0_3 n3 c0_3, .slice A0_4 n4 c0_4] (visitV (st2 a0_0 n1) l0_2 k ((rd_T55 l0_2 (i : Int)).f0 / 2).toNat (ins.set v true, outs ++ [(v : Int)])).1 (visitV (st2 a0_0 n1) l0_2 k ((rd_T55 l0_2 (i : Int)).f0 / 2).toNat (ins.set v true, outs ++ [(v : Int)])).2)
      (fun W' => (visitV (st2 a0_0 n1) l0_2 (k + 1) v (ins, outs)).1.length = N ∧ StC w W' bc bi bo bv #[.int .i64 a0_0, .slice A0_1 n1 c0_1, .slice A0_2 l0_2.length c0_2, .slice A0_3 n3 c0_3, .slice A0_4 n4 c0_4] (visitV (st2 a0_0 n1) l0_2 (k + 1) v (ins, outs)).1 (visitV (st2 a0_0 n1) l0_2 (k + 1) v (ins, outs)).2)
      hil hi hl0 hl1 (Kd.C_below HR.out hST.hb) g0 g1 g2 g3 hl2 hST (fun _ _ h hb => h.below hb) (fun _ _ h hb => ⟨h.1, h.2.below hb⟩) ?_ ?_).mono ?_
     ·intro W' hq
      rw [eA]
      exact IH.out _ (by omega) (by omega) W' _ _ hlen2 hq
     ·intro W' hq
      rw [eB, hvis]
      exact IH.out _ (by omega) (by omega) W' _ _ hq.1 hq.2
     ·rintro e w3 ⟨rfl, hq⟩
      have HF := M_ hq
      clear hST hlen2 hnot cF hq hl0 hl1 hl2 hl3 hi hil g0 g1 g2 g3 g4 g5 hvis eA eB
      go_wp2
      go_end0
      exact ⟨rfl, HF.out.1, HF.out.2⟩
theorem StC.start {w w5 : World} {bc N : Nat} {cells : Array Value} {v1 : Value} (hb : Below w.heap.size w w5) (lc : w.heap.size ≤ bc) (hc : w5.heap[bc]? = some (.cells cells 26 (0, 0))) (hR : Kd.R Kd.bool 4 w5 w.heap.size (fun _ => True) v1 (List.replicate N false)) :
  StC w (((w5.alloc (.cells #[v1] 62)).alloc (.cells #[.slice none 0 0] 24)).alloc (.cells #[.func (.func 42) #[] #[.pointer (some ⟨w5.heap.size, 0, none⟩), .pointer (some ⟨w5.heap.size + 1, 0, none⟩), .pointer (some ⟨bc, 0, none⟩), .pointer (some ⟨w5.heap.size + 1 + 1, 0, none⟩)]] 87)) bc w5.heap.size (w5.heap.size + 1) (w5.heap.size + 1 + 1) cells (List.replicate N false) [] := by
 have hs := hb.size
 refine ⟨below_alloc (below_alloc (below_alloc hb _) _) _, lc, hs, by omega, by omega, blk_alloc (blk_alloc (blk_alloc hc _) _) _, ?_, ⟨v1, blk_alloc (blk_alloc (heap_alloc_new _ _) _) _, Kd.R_alloc (Kd.R_alloc (Kd.R_alloc hR _) _) _⟩, ⟨_, blk_alloc ?_ _, Kd.R_nil _ _ _ _ _⟩, ?_⟩
 ·have := heap_alloc_new ((w5.alloc (.cells #[v1] 62)).alloc (.cells #[.slice none 0 0] 24)) (.cells #[.func (.func 42) #[] #[.pointer (some ⟨w5.heap.size, 0, none⟩), .pointer (some ⟨w5.heap.size + 1, 0, none⟩), .pointer (some ⟨bc, 0, none⟩), .pointer (some ⟨w5.heap.size + 1 + 1, 0, none⟩)]] 87)
  simpa using this
 ·have := heap_alloc_new (w5.alloc (.cells #[v1] 62)) (.cells #[.slice none 0 0] 24)
  simpa using this
 ·simp [List.count_replicate]
/-- The gates are in order, and few. -/
def coneOk (a0_0 : Int) (n1 : Nat) (gs : List S55) : Bool := decide (0 ≤ a0_0 ∧ a0_0 ≤ 100000 ∧ n1 ≤ 100000 ∧ gs.length ≤ 100000) && (List.range gs.length).all fun i => decide (0 ≤ (rd_T55 gs (i : Int)).f0 ∧ (rd_T55 gs (i : Int)).f0 ≤ 2001 ∧ 0 ≤ (rd_T55 gs (i : Int)).f1 ∧ (rd_T55 gs (i : Int)).f1 ≤ 2001 ∧ (rd_T55 gs (i : Int)).f0 / 2 < 1 + a0_0 + n1 + i ∧ (rd_T55 gs (i : Int)).f1 / 2 < 1 + a0_0 + n1 + i)
def gates_Cone.f (k : Nat) (a0_0 : Int) (l0_1 : List S45) (l0_2 : List S55) (l0_3 : List Int) (l0_4 : List Int) (a1 : Int) : Option (List Int × Int) :=
 (gates_Vars.f a0_0 l0_1 l0_2 l0_3 l0_4).bind fun p => if p.2 = 0 then ((lits_Var.f k a1).bind fun q => if q.2.2 = 0 then (if q.1 > p.1 then some ([], 2) else
  (if coneOk a0_0 l0_1.length l0_2 = true ∧ 0 ≤ q.1 ∧ p.1 = a0_0 + l0_1.length + l0_2.length then some (sortI (visitV (1 + a0_0 + l0_1.length) l0_2 (q.1.toNat + 1) q.1.toNat (List.replicate (p.1 + 1).toNat false, [])).2, 0) else none)) else some ([], 2)) else some ([], p.2)
theorem gates_Cone.mono : ∀ a0 a1 a2 a3 a4 a5 k, LeO (gates_Cone.f k a0 a1 a2 a3 a4 a5) (gates_Cone.f (k + 1) a0 a1 a2 a3 a4 a5) := by
 intro a0 a1 a2 a3 a4 a5 k
 unfold gates_Cone.f
 repeat' first
  | (with_reducible exact lits_Var.mono _ _)
  | (with_reducible exact LeO.refl _)
  | (with_reducible refine LeO.ite ?_ ?_)
  | (with_reducible refine LeO.bind ?_ (fun _ => ?_))
theorem infoBV : (Try.prog.info? 4).map (fun i => (i.zero, i.size, i.bytes)) = some (some (.bool false), 1, 1) := by kernel_rfl
set_option maxHeartbeats 4000000 in
set_option maxRecDepth 100000 in
theorem gates_Cone.calls (k : Nat) (a0_0 : Int) (A0_1 : Option Addr) (c0_1 : Nat) (l0_1 : List S45) (A0_2 : Option Addr) (c0_2 : Nat) (l0_2 : List S55) (A0_3 : Option Addr) (c0_3 : Nat) (l0_3 : List Int) (A0_4 : Option Addr) (c0_4 : Nat) (l0_4 : List Int) (a1 : Int) (r1 : List Int) (r2 : Int) (w : World) (hr0_1 : Kd.C k45 w A0_1 l0_1.length l0_1) (hc0_1 : l0_1.length ≤ c0_1) (hr0_2 : Kd.C k55 w A0_2 l0_2.length l0_2) (hc0_2 : l0_2.length ≤ c0_2) (hr0_3 : Kd.C (Kd.int .i64) w A0_3 l0_3.length l0_3) (hc0_3 : l0_3.length ≤ c0_3) (hr0_4 : Kd.C (Kd.int .i64) w A0_4 l0_4.length l0_4) (hc0_4 : l0_4.length ≤ c0_4) (h : gates_Cone.f k a0_0 l0_1 l0_2 l0_3 l0_4 a1 = some (r1, r2)) :
  Calls Try.prog 15 #[.agg #[.int .i64 a0_0, .slice A0_1 l0_1.length c0_1, .slice A0_2 l0_2.length c0_2, .slice A0_3 l0_3.length c0_3, .slice A0_4 l0_4.length c0_4], .int .i64 a1] w fun e w' => ∃ v0_ : Value, e = .returned (.tuple #[v0_, .int .i64 r2]) ∧ Kd.R (Kd.int .i64) 3 w' w.heap.size (fun _ => True) v0_ r1 ∧ Below w.heap.size w w' := by
 have hu26 := Try.underlying26
 have hu62 := Try.underlying62
 have hu24 := Try.underlying24
 have HR0_1 := M_ hr0_1
 have HR0_2 := M_ hr0_2
 have HR0_3 := M_ hr0_3
 have HR0_4 := M_ hr0_4
 have HC0_1 := M_ hc0_1
 have HC0_2 := M_ hc0_2
 have HC0_3 := M_ hc0_3
 have HC0_4 := M_ hc0_4
 clear hr0_1 hr0_2 hr0_3 hr0_4 hc0_1 hc0_2 hc0_3 hc0_4
 unfold gates_Cone.f at h
 obtain ⟨⟨n, e0⟩, hv, h⟩ := Option.bind_eq_some_iff.mp h
 have HV := M_ hv
 clear hv
 simp only at h
 by_cases c : e0 = 0
 ·rw [if_pos c] at h
  subst c
  obtain ⟨⟨v, sg, e1⟩, hq, h⟩ := Option.bind_eq_some_iff.mp h
  have HQ := M_ hq
  clear hq
  simp only at h
  by_cases c : e1 = 0
  ·rw [if_pos c] at h
   subst c
   by_cases c : v > n
   ·rw [if_pos c] at h
    simp only [Option.some.injEq, Prod.mk.injEq] at h
    obtain ⟨rfl, rfl⟩ := h
    have b2 : decide (n < v) = true := decide_eq_true c
    clear c
    go_enter Try.func15, Try.ntmps15
    go_wp2_with (first | ((with_reducible refine gate_dst (N := 2) rfl ?_); refine box_event ?hg (N := 2) ?hd (cs := #[.int .i64 a0_0, .slice A0_1 l0_1.length c0_1, .slice A0_2 l0_2.length c0_2, .slice A0_3 l0_3.length c0_3, .slice A0_4 l0_4.length c0_4]) (t := 26) ?hr ?_; (case hd => rfl); (case hg => rfl); (case hr => first | (go_simp; done) | (go_simp; rfl)); intro gb hg w12 hbox hb; have HB := M_ (below_step (Below.refl _ w) hb); have BK := M_ hbox; have GE := M_ (show w.heap.size ≤ gb by rw [hg]; exact Nat.le_refl _); clear hb hbox hg; have hz0 : w12.cell? ⟨gb, 0, none⟩ = some (.int .i64 a0_0) := (blk_cell BK.out 0).trans rfl; have hz1 : w12.cell? ⟨gb, 1, none⟩ = some (.slice A0_1 l0_1.length c0_1) := (blk_cell BK.out 1).trans rfl; have hz2 : w12.cell? ⟨gb, 2, none⟩ = some (.slice A0_2 l0_2.length c0_2) := (blk_cell BK.out 2).trans rfl; have hz3 : w12.cell? ⟨gb, 3, none⟩ = some (.slice A0_3 l0_3.length c0_3) := (blk_cell BK.out 3).trans rfl; have hz4 : w12.cell? ⟨gb, 4, none⟩ = some (.slice A0_4 l0_4.length c0_4) := (blk_cell BK.out 4).trans rfl) | (go_at_call 40; (with_reducible refine (gates_Vars.calls a0_0 A0_1 c0_1 l0_1 A0_2 c0_2 l0_2 A0_3 c0_3 l0_3 A0_4 c0_4 l0_4 _ _ _ ?s1 ?s2 ?s3 ?s4 ?s5 ?s6 ?s7 ?s8 HV.out).mono ?_); (case s1 => exact Kd.C_below HR0_1.out HB.out); (case s2 => exact HC0_1.out); (case s3 => exact Kd.C_below HR0_2.out HB.out); (case s4 => exact HC0_2.out); (case s5 => exact Kd.C_below HR0_3.out HB.out); (case s6 => exact HC0_3.out); (case s7 => exact Kd.C_below HR0_4.out HB.out); (case s8 => exact HC0_4.out); rintro e w13 ⟨rfl, hb⟩; have n1_ := M_ (blk_below BK.out hb); have n2_ := M_ (below_step HB.out hb); clear BK HB hb hz0 hz1 hz2 hz3 hz4; have BK := n1_; have HB := n2_; clear n1_ n2_; have hz0 : w13.cell? ⟨gb, 0, none⟩ = some (.int .i64 a0_0) := (blk_cell BK.out 0).trans rfl; have hz1 : w13.cell? ⟨gb, 1, none⟩ = some (.slice A0_1 l0_1.length c0_1) := (blk_cell BK.out 1).trans rfl; have hz2 : w13.cell? ⟨gb, 2, none⟩ = some (.slice A0_2 l0_2.length c0_2) := (blk_cell BK.out 2).trans rfl; have hz3 : w13.cell? ⟨gb, 3, none⟩ = some (.slice A0_3 l0_3.length c0_3) := (blk_cell BK.out 3).trans rfl; have hz4 : w13.cell? ⟨gb, 4, none⟩ = some (.slice A0_4 l0_4.length c0_4) := (blk_cell BK.out 4).trans rfl) | (go_at_call 41; (with_reducible refine (lits_Var.calls k _ _ _ _ _ HQ.out).mono ?_); rintro e w14 ⟨rfl, hb⟩; have n1_ := M_ (blk_below BK.out hb); have n2_ := M_ (below_step HB.out hb); clear BK HB hb hz0 hz1 hz2 hz3 hz4; have BK := n1_; have HB := n2_; clear n1_ n2_; have hz0 : w14.cell? ⟨gb, 0, none⟩ = some (.int .i64 a0_0) := (blk_cell BK.out 0).trans rfl; have hz1 : w14.cell? ⟨gb, 1, none⟩ = some (.slice A0_1 l0_1.length c0_1) := (blk_cell BK.out 1).trans rfl; have hz2 : w14.cell? ⟨gb, 2, none⟩ = some (.slice A0_2 l0_2.length c0_2) := (blk_cell BK.out 2).trans rfl; have hz3 : w14.cell? ⟨gb, 3, none⟩ = some (.slice A0_3 l0_3.length c0_3) := (blk_cell BK.out 3).trans rfl; have hz4 : w14.cell? ⟨gb, 4, none⟩ = some (.slice A0_4 l0_4.length c0_4) := (blk_cell BK.out 4).trans rfl))
    go_ret2
    exact ⟨_, rfl, Kd.R_nil _ _ _ _ _, HB.out⟩
   ·rw [if_neg c] at h
    have b2 : decide (n < v) = false := decide_eq_false c
    have hvn : v ≤ n := by omega
    clear c
    by_cases c : coneOk a0_0 l0_1.length l0_2 = true ∧ 0 ≤ v ∧ n = a0_0 + l0_1.length + l0_2.length
    ·rw [if_pos c] at h
     simp only [Option.some.injEq, Prod.mk.injEq] at h
     obtain ⟨rfl, rfl⟩ := h
     obtain ⟨cok, v0, hn⟩ := c
     unfold coneOk at cok
     rw [Bool.and_eq_true, decide_eq_true_eq, List.all_eq_true] at cok
     obtain ⟨⟨a0, a1', n1', n2'⟩, hgs⟩ := cok
     have hst : st2 a0_0 l0_1.length = 1 + a0_0 + (l0_1.length : Int) := by unfold st2 st1 wrap64; omega
     have hgs' : ∀ i : Nat, i < l0_2.length → 0 ≤ (rd_T55 l0_2 (i : Int)).f0 ∧ (rd_T55 l0_2 (i : Int)).f0 ≤ 2001 ∧ 0 ≤ (rd_T55 l0_2 (i : Int)).f1 ∧ (rd_T55 l0_2 (i : Int)).f1 ≤ 2001 ∧ (rd_T55 l0_2 (i : Int)).f0 / 2 < st2 a0_0 l0_1.length + i ∧ (rd_T55 l0_2 (i : Int)).f1 / 2 < st2 a0_0 l0_1.length + i := fun i hi => by
      have := of_decide_eq_true (hgs i (List.mem_range.2 hi))
      rw [hst]
      exact this
     obtain ⟨vn, rfl⟩ := Int.eq_ofNat_of_zero_le v0
     obtain ⟨N, hN⟩ : ∃ N : Nat, n + 1 = (N : Int) := ⟨(n + 1).toNat, by omega⟩
     have hNt : (n + 1).toNat = N := by omega
     have w1 : wrap64 (n + 1) = (N : Int) := by unfold wrap64; omega
     have hNN : (N : Int) = st2 a0_0 l0_1.length + l0_2.length := by rw [hst]; omega
     have HVIS := M_ (visit_calls a0_0 A0_1 l0_1.length c0_1 A0_2 c0_2 l0_2 A0_3 l0_3.length c0_3 A0_4 l0_4.length c0_4 w)
     have HH := M_ (And.intro (show 0 ≤ st2 a0_0 l0_1.length by omega) (And.intro (show st2 a0_0 l0_1.length ≤ 1000000 by omega) (And.intro (show l0_2.length ≤ 1000000 by omega) hNN)))
     have HG := M_ hgs'
     have HLT := M_ (And.intro (show vn < N by omega) (show N ≤ 1000000 by omega))
     have HST := M_ (hst)
     have HW1 := M_ w1
     rw [Int.toNat_natCast, hNt, ← hst]
     clear hgs hgs' a0 a1' n1' n2' hst v0 hn hN hNt hvn hNN w1
     go_enter Try.func15, Try.ntmps15
     go_wp2_with (first | ((with_reducible refine gate_dst (N := 2) rfl ?_); refine box_event ?hg (N := 2) ?hd (cs := #[.int .i64 a0_0, .slice A0_1 l0_1.length c0_1, .slice A0_2 l0_2.length c0_2, .slice A0_3 l0_3.length c0_3, .slice A0_4 l0_4.length c0_4]) (t := 26) ?hr ?_; (case hd => rfl); (case hg => rfl); (case hr => first | (go_simp; done) | (go_simp; rfl)); intro gb hg w12 hbox hb; have HB := M_ (below_step (Below.refl _ w) hb); have BK := M_ hbox; have GE := M_ (show w.heap.size ≤ gb by rw [hg]; exact Nat.le_refl _); clear hb hbox hg; have hz0 : w12.cell? ⟨gb, 0, none⟩ = some (.int .i64 a0_0) := (blk_cell BK.out 0).trans rfl; have hz1 : w12.cell? ⟨gb, 1, none⟩ = some (.slice A0_1 l0_1.length c0_1) := (blk_cell BK.out 1).trans rfl; have hz2 : w12.cell? ⟨gb, 2, none⟩ = some (.slice A0_2 l0_2.length c0_2) := (blk_cell BK.out 2).trans rfl; have hz3 : w12.cell? ⟨gb, 3, none⟩ = some (.slice A0_3 l0_3.length c0_3) := (blk_cell BK.out 3).trans rfl; have hz4 : w12.cell? ⟨gb, 4, none⟩ = some (.slice A0_4 l0_4.length c0_4) := (blk_cell BK.out 4).trans rfl) | (go_at_call 40; (with_reducible refine (gates_Vars.calls a0_0 A0_1 c0_1 l0_1 A0_2 c0_2 l0_2 A0_3 c0_3 l0_3 A0_4 c0_4 l0_4 _ _ _ ?s1 ?s2 ?s3 ?s4 ?s5 ?s6 ?s7 ?s8 HV.out).mono ?_); (case s1 => exact Kd.C_below HR0_1.out HB.out); (case s2 => exact HC0_1.out); (case s3 => exact Kd.C_below HR0_2.out HB.out); (case s4 => exact HC0_2.out); (case s5 => exact Kd.C_below HR0_3.out HB.out); (case s6 => exact HC0_3.out); (case s7 => exact Kd.C_below HR0_4.out HB.out); (case s8 => exact HC0_4.out); rintro e w13 ⟨rfl, hb⟩; have n1_ := M_ (blk_below BK.out hb); have n2_ := M_ (below_step HB.out hb); clear BK HB hb hz0 hz1 hz2 hz3 hz4; have BK := n1_; have HB := n2_; clear n1_ n2_; have hz0 : w13.cell? ⟨gb, 0, none⟩ = some (.int .i64 a0_0) := (blk_cell BK.out 0).trans rfl; have hz1 : w13.cell? ⟨gb, 1, none⟩ = some (.slice A0_1 l0_1.length c0_1) := (blk_cell BK.out 1).trans rfl; have hz2 : w13.cell? ⟨gb, 2, none⟩ = some (.slice A0_2 l0_2.length c0_2) := (blk_cell BK.out 2).trans rfl; have hz3 : w13.cell? ⟨gb, 3, none⟩ = some (.slice A0_3 l0_3.length c0_3) := (blk_cell BK.out 3).trans rfl; have hz4 : w13.cell? ⟨gb, 4, none⟩ = some (.slice A0_4 l0_4.length c0_4) := (blk_cell BK.out 4).trans rfl) | (go_at_call 41; (with_reducible refine (lits_Var.calls k _ _ _ _ _ HQ.out).mono ?_); rintro e w14 ⟨rfl, hb⟩; have n1_ := M_ (blk_below BK.out hb); have n2_ := M_ (below_step HB.out hb); clear BK HB hb hz0 hz1 hz2 hz3 hz4; have BK := n1_; have HB := n2_; clear n1_ n2_; have hz0 : w14.cell? ⟨gb, 0, none⟩ = some (.int .i64 a0_0) := (blk_cell BK.out 0).trans rfl; have hz1 : w14.cell? ⟨gb, 1, none⟩ = some (.slice A0_1 l0_1.length c0_1) := (blk_cell BK.out 1).trans rfl; have hz2 : w14.cell? ⟨gb, 2, none⟩ = some (.slice A0_2 l0_2.length c0_2) := (blk_cell BK.out 2).trans rfl; have hz3 : w14.cell? ⟨gb, 3, none⟩ = some (.slice A0_3 l0_3.length c0_3) := (blk_cell BK.out 3).trans rfl; have hz4 : w14.cell? ⟨gb, 4, none⟩ = some (.slice A0_4 l0_4.length c0_4) := (blk_cell BK.out 4).trans rfl) | ((with_reducible refine gate_dst (N := 36) rfl ?_); go_loud (refine Kd.R_make Kd.bool _ 4 rfl (N := 36) rfl 62 _ _ rfl (wrap64 (n + 1)) rfl rfl Try.underlying62 (.bool false) 1 infoBV rfl (by decide) (by omega) false (ok := fun _ => True) (okp := fun _ => True) rfl (fun _ hk => hk) trivial (by rw [HW1.out]; omega) (by rw [HW1.out]; have := HLT.out.2; omega) (Below.refl _ _) (Nat.le_refl _) ?_; intro v5 w5 ho hb hg_ hnew_; clear hg_ hnew_; rw [HW1.out, Int.toNat_natCast] at ho; have HR5 := M_ (Kd.R_lower ho (below_size HB.out)); have n1_ := M_ (blk_below BK.out hb); have n2_ := M_ (below_step HB.out hb); clear BK HB ho hb hz0 hz1 hz2 hz3 hz4; have BK := n1_; have HB := n2_; clear n1_ n2_; obtain ⟨A5, c5, e5⟩ := Kd.R_slice HR5.out; generalize (List.replicate N false).length = m5 at e5; subst e5)))
     have hS := StC.start (N := N) HB.out GE.out BK.out HR5.out
     refine (HVIS.out gb w5.heap.size (w5.heap.size + 1) (w5.heap.size + 1 + 1) N HR0_2.out HH.out.1 HH.out.2.1 HH.out.2.2.1 HH.out.2.2.2 HG.out (vn + 1) vn (by omega) HLT.out.1 _ (List.replicate N false) [] (by simp) hS).mono ?_
     rintro e w6 ⟨rfl, hlen6, hS6⟩
     clear hS
     obtain ⟨vo, ho1, ho2⟩ := hS6.ho
     have hlo : (visitV (st2 a0_0 l0_1.length) l0_2 (vn + 1) vn (List.replicate N false, [])).2.length ≤ 1000000000 := by
      have h1 := hS6.hl
      have h2 := List.count_le_length (a := true) (l := (visitV (st2 a0_0 l0_1.length) l0_2 (vn + 1) vn (List.replicate N false, [])).1)
      have := HLT.out.2
      omega
     have HSF := M_ (show slices_Sort_int_int.f (visitV (st2 a0_0 l0_1.length) l0_2 (vn + 1) vn (List.replicate N false, [])).2 = some (sortI (visitV (st2 a0_0 l0_1.length) l0_2 (vn + 1) vn (List.replicate N false, [])).2) by unfold slices_Sort_int_int.f; rw [if_pos hlo])
     have HSR := M_ (Kd.R_mono (ok' := fun k_ => k_ ≠ w5.heap.size + 1) (Kd.R_types ho2 ho1 (by decide)) (fun _ hk => hk.2))
     have HB6 := M_ hS6.hb
     have HO6 := M_ ho1
     have hzo : w6.cell? ⟨w5.heap.size + 1, 0, none⟩ = some vo := (blk_cell ho1 0).trans rfl
     clear ho1 ho2 hlo hlen6 hS6
     generalize hgo : (visitV (st2 a0_0 l0_1.length) l0_2 (vn + 1) vn (List.replicate N false, [])).2 = outs at HSF HSR
     have HGO := M_ hgo
     clear hgo
     go_wp2_with (go_at_call 44; go_loud ((with_reducible refine (slices_Sort_int_int.calls (fun k_ => k_ ≠ w5.heap.size + 1) vo outs _ w w6 HB6.out HSR.out HSF.out).mono ?_); rintro e w7 ⟨rfl, hR7, hB7, hK7⟩; have hzo7 : w7.cell? ⟨w5.heap.size + 1, 0, none⟩ = some vo := (blk_cell ((hK7.2 (w5.heap.size + 1) (Array.getElem?_eq_some_iff.1 HO6.out).1 (fun h_ => h_ rfl)).trans HO6.out) 0).trans rfl; have HR7 := M_ hR7; have HB7 := M_ hB7; clear hR7 hB7 hK7))
     go_ret2
     exact ⟨vo, rfl, by rw [HGO.out]; exact Kd.R_mono HR7.out (fun _ _ => trivial), HB7.out⟩
    ·rw [if_neg c] at h
     simp at h
  ·rw [if_neg c] at h
   simp only [Option.some.injEq, Prod.mk.injEq] at h
   obtain ⟨rfl, rfl⟩ := h
   have b1 : (e1 != 0) = true := bne_iff_ne.mpr c
   clear c
   go_enter Try.func15, Try.ntmps15
   go_wp2_with (first | ((with_reducible refine gate_dst (N := 2) rfl ?_); refine box_event ?hg (N := 2) ?hd (cs := #[.int .i64 a0_0, .slice A0_1 l0_1.length c0_1, .slice A0_2 l0_2.length c0_2, .slice A0_3 l0_3.length c0_3, .slice A0_4 l0_4.length c0_4]) (t := 26) ?hr ?_; (case hd => rfl); (case hg => rfl); (case hr => first | (go_simp; done) | (go_simp; rfl)); intro gb hg w12 hbox hb; have HB := M_ (below_step (Below.refl _ w) hb); have BK := M_ hbox; have GE := M_ (show w.heap.size ≤ gb by rw [hg]; exact Nat.le_refl _); clear hb hbox hg; have hz0 : w12.cell? ⟨gb, 0, none⟩ = some (.int .i64 a0_0) := (blk_cell BK.out 0).trans rfl; have hz1 : w12.cell? ⟨gb, 1, none⟩ = some (.slice A0_1 l0_1.length c0_1) := (blk_cell BK.out 1).trans rfl; have hz2 : w12.cell? ⟨gb, 2, none⟩ = some (.slice A0_2 l0_2.length c0_2) := (blk_cell BK.out 2).trans rfl; have hz3 : w12.cell? ⟨gb, 3, none⟩ = some (.slice A0_3 l0_3.length c0_3) := (blk_cell BK.out 3).trans rfl; have hz4 : w12.cell? ⟨gb, 4, none⟩ = some (.slice A0_4 l0_4.length c0_4) := (blk_cell BK.out 4).trans rfl) | (go_at_call 40; (with_reducible refine (gates_Vars.calls a0_0 A0_1 c0_1 l0_1 A0_2 c0_2 l0_2 A0_3 c0_3 l0_3 A0_4 c0_4 l0_4 _ _ _ ?s1 ?s2 ?s3 ?s4 ?s5 ?s6 ?s7 ?s8 HV.out).mono ?_); (case s1 => exact Kd.C_below HR0_1.out HB.out); (case s2 => exact HC0_1.out); (case s3 => exact Kd.C_below HR0_2.out HB.out); (case s4 => exact HC0_2.out); (case s5 => exact Kd.C_below HR0_3.out HB.out); (case s6 => exact HC0_3.out); (case s7 => exact Kd.C_below HR0_4.out HB.out); (case s8 => exact HC0_4.out); rintro e w13 ⟨rfl, hb⟩; have n1_ := M_ (blk_below BK.out hb); have n2_ := M_ (below_step HB.out hb); clear BK HB hb hz0 hz1 hz2 hz3 hz4; have BK := n1_; have HB := n2_; clear n1_ n2_; have hz0 : w13.cell? ⟨gb, 0, none⟩ = some (.int .i64 a0_0) := (blk_cell BK.out 0).trans rfl; have hz1 : w13.cell? ⟨gb, 1, none⟩ = some (.slice A0_1 l0_1.length c0_1) := (blk_cell BK.out 1).trans rfl; have hz2 : w13.cell? ⟨gb, 2, none⟩ = some (.slice A0_2 l0_2.length c0_2) := (blk_cell BK.out 2).trans rfl; have hz3 : w13.cell? ⟨gb, 3, none⟩ = some (.slice A0_3 l0_3.length c0_3) := (blk_cell BK.out 3).trans rfl; have hz4 : w13.cell? ⟨gb, 4, none⟩ = some (.slice A0_4 l0_4.length c0_4) := (blk_cell BK.out 4).trans rfl) | (go_at_call 41; (with_reducible refine (lits_Var.calls k _ _ _ _ _ HQ.out).mono ?_); rintro e w14 ⟨rfl, hb⟩; have n1_ := M_ (blk_below BK.out hb); have n2_ := M_ (below_step HB.out hb); clear BK HB hb hz0 hz1 hz2 hz3 hz4; have BK := n1_; have HB := n2_; clear n1_ n2_; have hz0 : w14.cell? ⟨gb, 0, none⟩ = some (.int .i64 a0_0) := (blk_cell BK.out 0).trans rfl; have hz1 : w14.cell? ⟨gb, 1, none⟩ = some (.slice A0_1 l0_1.length c0_1) := (blk_cell BK.out 1).trans rfl; have hz2 : w14.cell? ⟨gb, 2, none⟩ = some (.slice A0_2 l0_2.length c0_2) := (blk_cell BK.out 2).trans rfl; have hz3 : w14.cell? ⟨gb, 3, none⟩ = some (.slice A0_3 l0_3.length c0_3) := (blk_cell BK.out 3).trans rfl; have hz4 : w14.cell? ⟨gb, 4, none⟩ = some (.slice A0_4 l0_4.length c0_4) := (blk_cell BK.out 4).trans rfl))
   go_ret2
   exact ⟨_, rfl, Kd.R_nil _ _ _ _ _, HB.out⟩
 ·rw [if_neg c] at h
  simp only [Option.some.injEq, Prod.mk.injEq] at h
  obtain ⟨rfl, rfl⟩ := h
  have b1 : (e0 != 0) = true := bne_iff_ne.mpr c
  clear c
  go_enter Try.func15, Try.ntmps15
  go_wp2_with (first | ((with_reducible refine gate_dst (N := 2) rfl ?_); refine box_event ?hg (N := 2) ?hd (cs := #[.int .i64 a0_0, .slice A0_1 l0_1.length c0_1, .slice A0_2 l0_2.length c0_2, .slice A0_3 l0_3.length c0_3, .slice A0_4 l0_4.length c0_4]) (t := 26) ?hr ?_; (case hd => rfl); (case hg => rfl); (case hr => first | (go_simp; done) | (go_simp; rfl)); intro gb hg w12 hbox hb; have HB := M_ (below_step (Below.refl _ w) hb); have BK := M_ hbox; have GE := M_ (show w.heap.size ≤ gb by rw [hg]; exact Nat.le_refl _); clear hb hbox hg; have hz0 : w12.cell? ⟨gb, 0, none⟩ = some (.int .i64 a0_0) := (blk_cell BK.out 0).trans rfl; have hz1 : w12.cell? ⟨gb, 1, none⟩ = some (.slice A0_1 l0_1.length c0_1) := (blk_cell BK.out 1).trans rfl; have hz2 : w12.cell? ⟨gb, 2, none⟩ = some (.slice A0_2 l0_2.length c0_2) := (blk_cell BK.out 2).trans rfl; have hz3 : w12.cell? ⟨gb, 3, none⟩ = some (.slice A0_3 l0_3.length c0_3) := (blk_cell BK.out 3).trans rfl; have hz4 : w12.cell? ⟨gb, 4, none⟩ = some (.slice A0_4 l0_4.length c0_4) := (blk_cell BK.out 4).trans rfl) | (go_at_call 40; (with_reducible refine (gates_Vars.calls a0_0 A0_1 c0_1 l0_1 A0_2 c0_2 l0_2 A0_3 c0_3 l0_3 A0_4 c0_4 l0_4 _ _ _ ?s1 ?s2 ?s3 ?s4 ?s5 ?s6 ?s7 ?s8 HV.out).mono ?_); (case s1 => exact Kd.C_below HR0_1.out HB.out); (case s2 => exact HC0_1.out); (case s3 => exact Kd.C_below HR0_2.out HB.out); (case s4 => exact HC0_2.out); (case s5 => exact Kd.C_below HR0_3.out HB.out); (case s6 => exact HC0_3.out); (case s7 => exact Kd.C_below HR0_4.out HB.out); (case s8 => exact HC0_4.out); rintro e w13 ⟨rfl, hb⟩; have n1_ := M_ (blk_below BK.out hb); have n2_ := M_ (below_step HB.out hb); clear BK HB hb hz0 hz1 hz2 hz3 hz4; have BK := n1_; have HB := n2_; clear n1_ n2_; have hz0 : w13.cell? ⟨gb, 0, none⟩ = some (.int .i64 a0_0) := (blk_cell BK.out 0).trans rfl; have hz1 : w13.cell? ⟨gb, 1, none⟩ = some (.slice A0_1 l0_1.length c0_1) := (blk_cell BK.out 1).trans rfl; have hz2 : w13.cell? ⟨gb, 2, none⟩ = some (.slice A0_2 l0_2.length c0_2) := (blk_cell BK.out 2).trans rfl; have hz3 : w13.cell? ⟨gb, 3, none⟩ = some (.slice A0_3 l0_3.length c0_3) := (blk_cell BK.out 3).trans rfl; have hz4 : w13.cell? ⟨gb, 4, none⟩ = some (.slice A0_4 l0_4.length c0_4) := (blk_cell BK.out 4).trans rfl))
  go_ret2
  exact ⟨_, rfl, Kd.R_nil _ _ _ _ _, HB.out⟩

end Go.Proofs.Ytlgoniocoifjjaa.QConstantsCones
