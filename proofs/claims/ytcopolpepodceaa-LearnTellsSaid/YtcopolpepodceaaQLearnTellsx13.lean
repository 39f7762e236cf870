-- Made by wip/myprint.sh (a patched print): a text of this session's own.
import Derived.Test.YtcopolpepodceaaQLearnTellsx0
import Derived.Test.YtcopolpepodceaaQLearnTellsx1
import Derived.Test.YtcopolpepodceaaQLearnTellsx6
import Derived.Test.YtcopolpepodceaaQLearnTellsx9
import Derived.Test.YtcopolpepodceaaQLearnTellsx10
import Derived.Test.YtcopolpepodceaaQLearnTellsx11
import Derived.Test.YtcopolpepodceaaQLearnTellsx12
namespace Go.Proofs.Ytcopolpepodceaa.QLearnTells
open Go.RowKit Go.Proofs.YtcopolpepodceaaW.PrintWords Go.Proofs.YtcopolpepodceaaW.PrintLast Go.Proofs.YtcopolpepodceaaW.PrintMore
attribute [local go_sem] max2_int min2_int max_two min_two max_three min_three max_four min_four   -- for this text's walks alone
set_option linter.unusedVariables false
set_option linter.unusedSimpArgs false

/-! ### spiritlevelref17_Learned: function 33 -/
def spiritlevelref17_Learned.l0 : Nat → List Int → List Int → Int → Option (List Int)
 | 0, _, _, _ => none
 | k + 1, x5, x6, x7 => if x7 < (x6.length : Int) then (if 0 ≤ x7 then ((spiritlevelref13_Not.f (rd x6 x7)).bind fun t276 => (if x5.length < 17592186044416 then (spiritlevelref17_Learned.l0 k (x5 ++ [t276]) x6 (wrap64 (x7 + 1))) else (none))) else (none)) else ((spiritlevelref13_Sorted.f k x5).bind fun t280 => (some t280))
def spiritlevelref17_Learned.f (k : Nat) (l0 : List (List Int)) (l1 : List Int) : Option (List Int) := (spiritlevelref17_Stay.f k l0 l1).bind fun t272 => (spiritlevelref17_Learned.l0 k ([] : List Int) t272 0)
theorem spiritlevelref17_Learned.mono_l : ∀ k, (∀ y0 y1 y2, LeO (spiritlevelref17_Learned.l0 k y0 y1 y2) (spiritlevelref17_Learned.l0 (k + 1) y0 y1 y2))
 | 0 => fun _ _ _ r h => by simp [spiritlevelref17_Learned.l0] at h
 | k + 1 => by
  have ih0 := spiritlevelref17_Learned.mono_l k
  ·intro y0 y1 y2
   unfold spiritlevelref17_Learned.l0
   repeat' first
   | (with_reducible exact ih0 _ _ _)
   | (with_reducible exact spiritlevelref13_Sorted.mono _ _)
   | (with_reducible exact spiritlevelref17_Stay.mono _ _ _)
   | (with_reducible exact LeO.refl _)
   | (with_reducible exact LeO.none _)
   | (with_reducible refine LeO.ite ?_ ?_)
   | (with_reducible refine LeO.bind ?_ (fun _ => ?_))
   | exact ih0 _ _ _
   | exact spiritlevelref13_Sorted.mono _ _
   | exact spiritlevelref17_Stay.mono _ _ _
   | exact LeO.none _
   | refine LeO.ite ?_ ?_
   | refine LeO.bind ?_ (fun _ => ?_)
theorem spiritlevelref17_Learned.mono : ∀ a0 a1 k, LeO (spiritlevelref17_Learned.f k a0 a1) (spiritlevelref17_Learned.f (k + 1) a0 a1) := by
 intro a0 a1 k
 have ih0 := spiritlevelref17_Learned.mono_l k
 unfold spiritlevelref17_Learned.f
 repeat' first
   | (with_reducible exact ih0 _ _ _)
   | (with_reducible exact spiritlevelref13_Sorted.mono _ _)
   | (with_reducible exact spiritlevelref17_Stay.mono _ _ _)
   | (with_reducible exact LeO.refl _)
   | (with_reducible exact LeO.none _)
   | (with_reducible refine LeO.ite ?_ ?_)
   | (with_reducible refine LeO.bind ?_ (fun _ => ?_))
   | exact ih0 _ _ _
   | exact spiritlevelref13_Sorted.mono _ _
   | exact spiritlevelref17_Stay.mono _ _ _
   | exact LeO.none _
   | refine LeO.ite ?_ ?_
   | refine LeO.bind ?_ (fun _ => ?_)
set_option maxHeartbeats 8000000 in
set_option maxRecDepth 100000 in
theorem spiritlevelref17_Learned.calls (k : Nat) (A0 : Option Addr) (c0 : Nat) (l0 : List (List Int)) (A1 : Option Addr) (c1 : Nat) (l1 : List Int) (r : List Int) (w : World) (hr0 : Kd.C (Kd.slice 3 (Kd.int .i64)) w A0 l0.length l0) (hc0 : l0.length ≤ c0) (hr1 : Kd.C (Kd.int .i64) w A1 l1.length l1) (hc1 : l1.length ≤ c1) (h : spiritlevelref17_Learned.f k l0 l1 = some r) :
  Calls Try.prog 33 #[.slice A0 l0.length c0, .slice A1 l1.length c1] w fun e w' => ∃ v0_ : Value, e = .returned (v0_) ∧ Kd.R (Kd.int .i64) 3 w' w.heap.size (fun _ => True) v0_ r ∧ Below w.heap.size w w' := by
 have HR0 := M_ hr0
 have HC0 := M_ hc0
 clear hr0 hc0
 have HR1 := M_ hr1
 have HC1 := M_ hc1
 clear hr1 hc1
 have HB := M_ (Below.refl w.heap.size w)
 have H : ((spiritlevelref17_Stay.f k l0 l1).bind fun t272 => (spiritlevelref17_Learned.l0 k ([] : List Int) t272 0)) = some r := h
 clear h
 replace H := Option.bind_eq_some_iff.mp H
 obtain ⟨t272, A30, H⟩ := H
 replace H : (spiritlevelref17_Learned.l0 k ([] : List Int) t272 0) = some r := H
 have A3 := M_ A30
 clear A30
 have H' := M_ H
 clear H
 go_enter Try.func33, Try.ntmps33
 go_wp2_with (first | ((with_reducible refine gate_callee (f := 46) rfl ?_); refine goesL_ (some 10) rfl rfl Try.func46 (by kernel_rfl) rfl #[.slice A0 l0.length c0, .slice A1 l1.length c1] rfl (by (try simp only [List.map_toArray, List.map_cons, List.map_nil]); first | done | rfl | (simp only [List.length_drop, List.length_take]; rfl)) ?_; (with_reducible refine (spiritlevelref17_Stay.calls k _ _ l0 _ _ l1 t272 _ ?side1 ?side2 ?side3 ?side4 A3.out).mono ?_); (case side1 => repeat (first | exact HR0.out | (with_reducible refine c0_ ?_ _) | (with_reducible refine c1_ ?_ _) | (with_reducible refine c2_ ?_))); (case side2 => exact HC0.out); (case side3 => repeat (first | exact HR1.out | (with_reducible refine c0_ ?_ _) | (with_reducible refine c1_ ?_ _) | (with_reducible refine c2_ ?_))); (case side4 => exact HC1.out); rintro e w4 ⟨v273, rfl, ho0, hb⟩; refine ⟨_, rfl, ?_⟩; have n0_ := M_ (Kd.R_lower ho0 (below_size (by repeat (first | (with_reducible first | exact HB.out | apply b0_ | apply b1_ | apply b2_) | exact HB.out)))); have n1_ := M_ (below_step (by repeat (first | (with_reducible first | exact HB.out | apply b0_ | apply b1_ | apply b2_) | exact HB.out)) hb); clear HB; have HO274 := n0_; have HB := n1_; clear n0_ n1_; (try clear hb); (try clear hb2); (try clear hk); (try clear hi); (try clear ho0)))
 go_loopg [5, 7] k (fun kq v5 v7 w' => ∃ (x5_1 : List Int) (x7_1 : Int), v7 = .int .i64 x7_1 ∧ Aside0 (spiritlevelref17_Learned.l0 kq x5_1 t272 x7_1 = some r) ∧ Aside0 (kq ≤ k) ∧ Aside0 (Kd.R (Kd.int .i64) 3 w' w.heap.size (fun k_ => some k_ ≠ (v273 : Value).ownBlock) v5 x5_1) ∧ Aside0 (Kd.R (Kd.int .i64) 3 w' w.heap.size (fun k_ => some k_ ≠ (v5 : Value).ownBlock) v273 t272) ∧ Aside0 (Below w.heap.size w w'))
 case atStart => exact ⟨(([] : List Int)), (0), (by first | rfl | (simp; done) | (simp [*]; done)), H', ⟨Nat.le_refl _⟩, ⟨by first | exact Kd.R_nil _ _ _ _ _ | exact Kd.N_nil _ _ _ _ _ | exact Kd.V_nil _ _ _ _ _ | exact Kd.Q_nil _ _ _ _ _ | exact Kd.S_nil _ _ _ _ _⟩, ⟨by (with_reducible repeat (first | apply a0_ | apply a1_ | apply a2_)); exact Kd.R_mono HO274.out (fun _ hk => (by simp [Value.ownBlock]))⟩, ⟨by repeat (first | (with_reducible first | exact HB.out | apply b0_ | apply b1_ | apply b2_) | exact HB.out)⟩⟩
 case round =>
  clear H'
  try clear c1
  try clear p2
  try clear c3
  try clear c4
  obtain ⟨x5_1, x7_1, rfl, HA, HK1, HO_5, HO_6, HB⟩ := hrel
  cases gk with
  | zero => exact absurd HA.out (by simp [spiritlevelref17_Learned.l0])
  | succ k1 =>
   have H := HA.out
   clear HA
   simp only [spiritlevelref17_Learned.l0] at H
   by_cases c5 : x7_1 < (t272.length : Int)
   ·rw [if_pos c5] at H
    have c5b0 : decide (x7_1 < (t272.length : Int)) = true := decide_eq_true c5
    clear c5
    by_cases c6 : 0 ≤ x7_1
    ·rw [if_pos c6] at H
     have c6b0 : decide (0 ≤ x7_1) = true := decide_eq_true c6
     clear c6
     replace H := Option.bind_eq_some_iff.mp H
     obtain ⟨t276, A70, H⟩ := H
     replace H : (if x5_1.length < 17592186044416 then (spiritlevelref17_Learned.l0 k1 (x5_1 ++ [t276]) t272 (wrap64 (x7_1 + 1))) else (none)) = some r := H
     have A7 := M_ A70
     clear A70
     by_cases c8 : x5_1.length < 17592186044416
     ·rw [if_pos c8] at H
      have LMc8 := M_ c8
      clear c8
      obtain ⟨y277, hy277⟩ : ∃ y_ : List Int, y_ = (x5_1 ++ [t276]) := ⟨_, rfl⟩
      replace H : (spiritlevelref17_Learned.l0 k1 y277 t272 (wrap64 (x7_1 + 1))) = some r := by first | (rw [hy277]; with_reducible exact H) | (have H2_ := (Option.bind_some _ _).symm.trans H; rw [hy277]; with_reducible exact H2_) | (have H2_ := (Option.bind_some _ _).symm.trans H; with_reducible exact H2_) | with_reducible exact H | (rw [hy277]; exact H) | exact H
      have Ny277 := M_ hy277
      clear hy277
      have H' := M_ H
      clear H
      obtain ⟨Ao9, co9, eo9⟩ := Kd.R_slice HO_6.out
      subst eo9
      have p275 : 0 ≤ (x7_1 : Int) := of_decide_eq_true (by first | (with_reducible assumption) | assumption)
      have q275 : x7_1 < (t272.length : Int) := of_decide_eq_true (by first | (with_reducible assumption) | assumption)
      obtain ⟨ad275, e275, hx275_0⟩ := Kd.at_int (Kd.R_reads' HO_6.out).2.2 x7_1 p275 q275
      cases e275
      replace p275 := eq_true p275
      replace q275 := eq_true q275
      go_wp2_with (first | ((with_reducible refine gate_callee (f := 18) rfl ?_); refine goesL_ (some 22) rfl rfl Try.func18 (by kernel_rfl) rfl #[.int .i64 (rd t272 x7_1)] rfl (by (try simp only [List.map_toArray, List.map_cons, List.map_nil]); first | done | rfl | (simp only [List.length_drop, List.length_take]; rfl)) ?_; (with_reducible refine (spiritlevelref13_Not.calls (rd t272 x7_1) t276 _ A7.out).mono ?_); rintro e w' ⟨rfl, ⟨nd, rfl⟩⟩; refine ⟨_, rfl, ?_⟩) | ((with_reducible refine gate_builtin (b := .append) (xs := #[.tmp 17, .tmp 23]) rfl ?_); at_builtin; refine Kd.R_append (Kd.int .i64) (w0 := w) w.heap.size rfl (.tmp 17) (.tmp 23) 23 3 (.int .i64 0) 8 rfl Try.underlying23 info3 rfl (by decide) (by omega) u5 x5_1 t276 [.int .i64 t276] (fun k_ => some k_ ≠ (.slice (some ad275) t272.length co9 : Value).ownBlock) (fun _ => False) rfl rfl ?aP (fun _ hk => hk.elim) ?aF ?aO ?aB ?aS ?aL ?_; (case aP => exact rfl); (case aB => exact (by repeat (first | (with_reducible first | exact HB.out | apply b0_ | apply b1_ | apply b2_) | exact HB.out))); (case aF => exact (fun k_ hk => Kd.fresh' (Kd.R_lt (by (with_reducible repeat (first | apply a0_ | apply a1_ | apply a2_)); exact HO_6.out)) k_ hk)); (case aO => exact (by (with_reducible repeat (first | apply a0_ | apply a1_ | apply a2_)); exact HO_5.out)); (case aS => exact (below_size (by repeat (first | (with_reducible first | exact HB.out | apply b0_ | apply b1_ | apply b2_) | exact HB.out)))); (case aL => have := LMc8.out; omega); intro v278 w10 ho hb hg hat; rw [← Ny277.out] at ho; have n0_ := M_ (Kd.R_after (ok := (fun _ => True)) (by (with_reducible repeat (first | apply a0_ | apply a1_ | apply a2_)); exact Kd.R_mono HO_6.out (fun _ hk => ⟨trivial, hk⟩)) hg hat); have n1_ := M_ (hb); have n2_ := M_ (ho); clear HO_6; clear HB; clear HO_5; have HO_6 := n0_; have HB := n1_; have HO279 := n2_; clear n0_ n1_ n2_; clear ho hb hg hat))
      go_roundg k1
      case measure => have := HK1.out; omega
      case rel => exact ⟨(y277), (wrap64 (x7_1 + 1)), (by first | rfl | (simp; done) | (simp [*]; done)), H', ⟨by have := HK1.out; omega⟩, ⟨by (with_reducible repeat (first | apply a0_ | apply a1_ | apply a2_)); exact HO279.out⟩, ⟨by (with_reducible repeat (first | apply a0_ | apply a1_ | apply a2_)); exact Kd.R_mono HO_6.out (fun _ hk => hk.2)⟩, ⟨by repeat (first | (with_reducible first | exact HB.out | apply b0_ | apply b1_ | apply b2_) | exact HB.out)⟩⟩
     ·rw [if_neg c8] at H
      exact absurd H (by simp)
    ·rw [if_neg c6] at H
     exact absurd H (by simp)
   ·rw [if_neg c5] at H
    have c5b0 : decide (x7_1 < (t272.length : Int)) = false := decide_eq_false c5
    clear c5
    replace H := Option.bind_eq_some_iff.mp H
    obtain ⟨t280, A110, H⟩ := H
    replace H : (some t280) = some r := H
    have A11 := M_ A110
    clear A110
    obtain rfl := Option.some.inj H
    obtain ⟨Ao12, co12, eo12⟩ := Kd.R_slice HO_6.out
    subst eo12
    obtain ⟨Ao13, co13, eo13⟩ := Kd.R_slice HO_5.out
    subst eo13
    go_wp2_with (first | ((with_reducible refine gate_callee (f := 47) rfl ?_); refine goesL_ (some 26) rfl rfl Try.func47 (by kernel_rfl) rfl #[.slice Ao13 x5_1.length co13] rfl (by (try simp only [List.map_toArray, List.map_cons, List.map_nil]); first | done | rfl | (simp only [List.length_drop, List.length_take]; rfl)) ?_; (with_reducible refine (spiritlevelref13_Sorted.calls k1 _ _ x5_1 t280 _ ?side1 ?side2 A11.out).mono ?_); (case side1 => repeat (first | exact (Kd.R_reads' HO_5.out).2.2 | (with_reducible refine c0_ ?_ _) | (with_reducible refine c1_ ?_ _) | (with_reducible refine c2_ ?_))); (case side2 => exact (Kd.R_reads' HO_5.out).2.1); rintro e w14 ⟨v281, rfl, ho0, hb⟩; refine ⟨_, rfl, ?_⟩; have n0_ := M_ (Kd.R_elder' (by (with_reducible repeat (first | apply a0_ | apply a1_ | apply a2_)); exact HO_5.out) (Kd.R_base ho0) hb); have n1_ := M_ (Kd.R_elder' (by (with_reducible repeat (first | apply a0_ | apply a1_ | apply a2_)); exact HO_6.out) (Kd.R_base ho0) hb); have n2_ := M_ (Kd.R_lower (Kd.R_new' (Kd.R_new' ho0 (Kd.R_lt (by (with_reducible repeat (first | apply a0_ | apply a1_ | apply a2_)); exact HO_5.out))) (Kd.R_lt (by (with_reducible repeat (first | apply a0_ | apply a1_ | apply a2_)); exact HO_6.out))) (below_size (by repeat (first | (with_reducible first | exact HB.out | apply b0_ | apply b1_ | apply b2_) | exact HB.out)))); have n3_ := M_ (below_step (by repeat (first | (with_reducible first | exact HB.out | apply b0_ | apply b1_ | apply b2_) | exact HB.out)) hb); clear HO_5; clear HO_6; clear HB; have HO_5 := n0_; have HO_6 := n1_; have HO282 := n2_; have HB := n3_; clear n0_ n1_ n2_ n3_; (try clear hb); (try clear hb2); (try clear hk); (try clear hi); (try clear ho0)))
    go_ret
    exact ⟨_, by first | rfl | (simp [errW_none, errW_some] <;> rfl) | (simp [*, errW_none, errW_some] <;> rfl), by (with_reducible repeat (first | apply a0_ | apply a1_ | apply a2_)); exact Kd.R_mono HO282.out (fun _ hk => trivial), by repeat (first | (with_reducible first | exact HB.out | apply b0_ | apply b1_ | apply b2_) | exact HB.out)⟩

/-! ### spiritlevelref17_Clause: function 12 -/
def spiritlevelref17_Clause.f (k : Nat) (a0 : Int) (l1 : List (List Int)) (l2 : List Int) : Option (List Int × Int) := (spiritlevelref17_Asked.f k a0 l1 l2).bind fun t283 => (if t283 = 0 then ((spiritlevelref17_Fails.f k l1 l2).bind fun t284 => (if t284 = true then ((spiritlevelref17_Learned.f k l1 l2).bind fun t285 => (some (t285, 0))) else (some (([] : List Int), 6)))) else (some (([] : List Int), t283)))
theorem spiritlevelref17_Clause.mono : ∀ a0 a1 a2 k, LeO (spiritlevelref17_Clause.f k a0 a1 a2) (spiritlevelref17_Clause.f (k + 1) a0 a1 a2) := by
 intro a0 a1 a2 k
 unfold spiritlevelref17_Clause.f
 repeat' first
   | (with_reducible exact spiritlevelref17_Asked.mono _ _ _ _)
   | (with_reducible exact spiritlevelref17_Fails.mono _ _ _)
   | (with_reducible exact spiritlevelref17_Learned.mono _ _ _)
   | (with_reducible exact LeO.refl _)
   | (with_reducible exact LeO.none _)
   | (with_reducible refine LeO.ite ?_ ?_)
   | (with_reducible refine LeO.bind ?_ (fun _ => ?_))
   | exact spiritlevelref17_Asked.mono _ _ _ _
   | exact spiritlevelref17_Fails.mono _ _ _
   | exact spiritlevelref17_Learned.mono _ _ _
   | exact LeO.none _
   | refine LeO.ite ?_ ?_
   | refine LeO.bind ?_ (fun _ => ?_)
set_option maxHeartbeats 8000000 in
set_option maxRecDepth 100000 in
theorem spiritlevelref17_Clause.calls (k : Nat) (a0 : Int) (A1 : Option Addr) (c1 : Nat) (l1 : List (List Int)) (A2 : Option Addr) (c2 : Nat) (l2 : List Int) (r1 : List Int) (r2 : Int) (w : World) (hr1 : Kd.C (Kd.slice 3 (Kd.int .i64)) w A1 l1.length l1) (hc1 : l1.length ≤ c1) (hr2 : Kd.C (Kd.int .i64) w A2 l2.length l2) (hc2 : l2.length ≤ c2) (h : spiritlevelref17_Clause.f k a0 l1 l2 = some (r1, r2)) :
  Calls Try.prog 12 #[.int .i64 a0, .slice A1 l1.length c1, .slice A2 l2.length c2] w fun e w' => ∃ v0_ : Value, e = .returned (.tuple #[v0_, .int .i64 r2]) ∧ Kd.R (Kd.int .i64) 3 w' w.heap.size (fun _ => True) v0_ r1 ∧ Below w.heap.size w w' := by
 have HR1 := M_ hr1
 have HC1 := M_ hc1
 clear hr1 hc1
 have HR2 := M_ hr2
 have HC2 := M_ hc2
 clear hr2 hc2
 have HB := M_ (Below.refl w.heap.size w)
 have H : ((spiritlevelref17_Asked.f k a0 l1 l2).bind fun t283 => (if t283 = 0 then ((spiritlevelref17_Fails.f k l1 l2).bind fun t284 => (if t284 = true then ((spiritlevelref17_Learned.f k l1 l2).bind fun t285 => (some (t285, 0))) else (some (([] : List Int), 6)))) else (some (([] : List Int), t283)))) = some (r1, r2) := h
 clear h
 replace H := Option.bind_eq_some_iff.mp H
 obtain ⟨t283, A40, H⟩ := H
 replace H : (if t283 = 0 then ((spiritlevelref17_Fails.f k l1 l2).bind fun t284 => (if t284 = true then ((spiritlevelref17_Learned.f k l1 l2).bind fun t285 => (some (t285, 0))) else (some (([] : List Int), 6)))) else (some (([] : List Int), t283))) = some (r1, r2) := H
 have A4 := M_ A40
 clear A40
 by_cases c5 : t283 = 0
 ·rw [if_pos c5] at H
  have c5b0 : (t283 == 0) = true := beq_iff_eq.mpr c5
  have c5b1 : (t283 != 0) = false := bne_eq_false_iff_eq.mpr c5
  clear c5
  replace H := Option.bind_eq_some_iff.mp H
  obtain ⟨t284, A60, H⟩ := H
  replace H : (if t284 = true then ((spiritlevelref17_Learned.f k l1 l2).bind fun t285 => (some (t285, 0))) else (some (([] : List Int), 6))) = some (r1, r2) := H
  have A6 := M_ A60
  clear A60
  by_cases c7 : t284 = true
  ·subst c7
   have H1 : ((spiritlevelref17_Learned.f k l1 l2).bind fun t285 => (some (t285, 0))) = some (r1, r2) := by rw [if_pos rfl] at H; exact H
   clear H
   have H := H1
   clear H1
   replace H := Option.bind_eq_some_iff.mp H
   obtain ⟨t285, A80, H⟩ := H
   replace H : (some (t285, 0)) = some (r1, r2) := H
   have A8 := M_ A80
   clear A80
   simp only [Option.some.injEq, Prod.mk.injEq] at H
   obtain ⟨rfl, rfl⟩ := H
   go_enter Try.func12, Try.ntmps12
   go_wp2_with (first | ((with_reducible refine gate_callee (f := 27) rfl ?_); refine goesL_ (some 12) rfl rfl Try.func27 (by kernel_rfl) rfl #[.int .i64 a0, .slice A1 l1.length c1, .slice A2 l2.length c2] rfl (by (try simp only [List.map_toArray, List.map_cons, List.map_nil]); first | done | rfl | (simp only [List.length_drop, List.length_take]; rfl)) ?_; (with_reducible refine (spiritlevelref17_Asked.calls k a0 _ _ l1 _ _ l2 t283 _ ?side1 ?side2 ?side3 ?side4 A4.out).mono ?_); (case side1 => repeat (first | exact HR1.out | (with_reducible refine c0_ ?_ _) | (with_reducible refine c1_ ?_ _) | (with_reducible refine c2_ ?_))); (case side2 => exact HC1.out); (case side3 => repeat (first | exact HR2.out | (with_reducible refine c0_ ?_ _) | (with_reducible refine c1_ ?_ _) | (with_reducible refine c2_ ?_))); (case side4 => exact HC2.out); rintro e w9 ⟨rfl, hb⟩; refine ⟨_, rfl, ?_⟩; have n0_ := M_ (below_step (by repeat (first | (with_reducible first | exact HB.out | apply b0_ | apply b1_ | apply b2_) | exact HB.out)) hb); clear HB; have HB := n0_; clear n0_; (try clear hb); (try clear hb2); (try clear hk); (try clear hi)) | ((with_reducible refine gate_callee (f := 28) rfl ?_); refine goesL_ (some 18) rfl rfl Try.func28 (by kernel_rfl) rfl #[.slice A1 l1.length c1, .slice A2 l2.length c2] rfl (by (try simp only [List.map_toArray, List.map_cons, List.map_nil]); first | done | rfl | (simp only [List.length_drop, List.length_take]; rfl)) ?_; (with_reducible refine (spiritlevelref17_Fails.calls k _ _ l1 _ _ l2 true _ ?side1 ?side2 ?side3 ?side4 A6.out).mono ?_); (case side1 => repeat (first | exact (Kd.C_below HR1.out HB.out) | (with_reducible refine c0_ ?_ _) | (with_reducible refine c1_ ?_ _) | (with_reducible refine c2_ ?_))); (case side2 => exact HC1.out); (case side3 => repeat (first | exact (Kd.C_below HR2.out HB.out) | (with_reducible refine c0_ ?_ _) | (with_reducible refine c1_ ?_ _) | (with_reducible refine c2_ ?_))); (case side4 => exact HC2.out); rintro e w10 ⟨rfl, hb⟩; refine ⟨_, rfl, ?_⟩; have n0_ := M_ (below_step (by repeat (first | (with_reducible first | exact HB.out | apply b0_ | apply b1_ | apply b2_) | exact HB.out)) hb); clear HB; have HB := n0_; clear n0_; (try clear hb); (try clear hb2); (try clear hk); (try clear hi)) | ((with_reducible refine gate_callee (f := 33) rfl ?_); refine goesL_ (some 22) rfl rfl Try.func33 (by kernel_rfl) rfl #[.slice A1 l1.length c1, .slice A2 l2.length c2] rfl (by (try simp only [List.map_toArray, List.map_cons, List.map_nil]); first | done | rfl | (simp only [List.length_drop, List.length_take]; rfl)) ?_; (with_reducible refine (spiritlevelref17_Learned.calls k _ _ l1 _ _ l2 t285 _ ?side1 ?side2 ?side3 ?side4 A8.out).mono ?_); (case side1 => repeat (first | exact (Kd.C_below HR1.out HB.out) | (with_reducible refine c0_ ?_ _) | (with_reducible refine c1_ ?_ _) | (with_reducible refine c2_ ?_))); (case side2 => exact HC1.out); (case side3 => repeat (first | exact (Kd.C_below HR2.out HB.out) | (with_reducible refine c0_ ?_ _) | (with_reducible refine c1_ ?_ _) | (with_reducible refine c2_ ?_))); (case side4 => exact HC2.out); rintro e w11 ⟨v286, rfl, ho0, hb⟩; refine ⟨_, rfl, ?_⟩; have n0_ := M_ (Kd.R_lower ho0 (below_size (by repeat (first | (with_reducible first | exact HB.out | apply b0_ | apply b1_ | apply b2_) | exact HB.out)))); have n1_ := M_ (below_step (by repeat (first | (with_reducible first | exact HB.out | apply b0_ | apply b1_ | apply b2_) | exact HB.out)) hb); clear HB; have HO287 := n0_; have HB := n1_; clear n0_ n1_; (try clear hb); (try clear hb2); (try clear hk); (try clear hi); (try clear ho0)))
   go_ret2
   exact ⟨_, by first | rfl | (simp [errW_none, errW_some] <;> rfl) | (simp [*, errW_none, errW_some] <;> rfl), by (with_reducible repeat (first | apply a0_ | apply a1_ | apply a2_)); exact HO287.out, by repeat (first | (with_reducible first | exact HB.out | apply b0_ | apply b1_ | apply b2_) | exact HB.out)⟩
  ·replace c7 := Bool.eq_false_iff.mpr c7
   subst c7
   have H1 : (some (([] : List Int), 6)) = some (r1, r2) := by rw [if_neg (show ¬ (false = true) by decide)] at H; exact H
   clear H
   have H := H1
   clear H1
   simp only [Option.some.injEq, Prod.mk.injEq] at H
   obtain ⟨rfl, rfl⟩ := H
   go_enter Try.func12, Try.ntmps12
   go_wp2_with (first | ((with_reducible refine gate_callee (f := 27) rfl ?_); refine goesL_ (some 12) rfl rfl Try.func27 (by kernel_rfl) rfl #[.int .i64 a0, .slice A1 l1.length c1, .slice A2 l2.length c2] rfl (by (try simp only [List.map_toArray, List.map_cons, List.map_nil]); first | done | rfl | (simp only [List.length_drop, List.length_take]; rfl)) ?_; (with_reducible refine (spiritlevelref17_Asked.calls k a0 _ _ l1 _ _ l2 t283 _ ?side1 ?side2 ?side3 ?side4 A4.out).mono ?_); (case side1 => repeat (first | exact HR1.out | (with_reducible refine c0_ ?_ _) | (with_reducible refine c1_ ?_ _) | (with_reducible refine c2_ ?_))); (case side2 => exact HC1.out); (case side3 => repeat (first | exact HR2.out | (with_reducible refine c0_ ?_ _) | (with_reducible refine c1_ ?_ _) | (with_reducible refine c2_ ?_))); (case side4 => exact HC2.out); rintro e w12 ⟨rfl, hb⟩; refine ⟨_, rfl, ?_⟩; have n0_ := M_ (below_step (by repeat (first | (with_reducible first | exact HB.out | apply b0_ | apply b1_ | apply b2_) | exact HB.out)) hb); clear HB; have HB := n0_; clear n0_; (try clear hb); (try clear hb2); (try clear hk); (try clear hi)) | ((with_reducible refine gate_callee (f := 28) rfl ?_); refine goesL_ (some 18) rfl rfl Try.func28 (by kernel_rfl) rfl #[.slice A1 l1.length c1, .slice A2 l2.length c2] rfl (by (try simp only [List.map_toArray, List.map_cons, List.map_nil]); first | done | rfl | (simp only [List.length_drop, List.length_take]; rfl)) ?_; (with_reducible refine (spiritlevelref17_Fails.calls k _ _ l1 _ _ l2 false _ ?side1 ?side2 ?side3 ?side4 A6.out).mono ?_); (case side1 => repeat (first | exact (Kd.C_below HR1.out HB.out) | (with_reducible refine c0_ ?_ _) | (with_reducible refine c1_ ?_ _) | (with_reducible refine c2_ ?_))); (case side2 => exact HC1.out); (case side3 => repeat (first | exact (Kd.C_below HR2.out HB.out) | (with_reducible refine c0_ ?_ _) | (with_reducible refine c1_ ?_ _) | (with_reducible refine c2_ ?_))); (case side4 => exact HC2.out); rintro e w13 ⟨rfl, hb⟩; refine ⟨_, rfl, ?_⟩; have n0_ := M_ (below_step (by repeat (first | (with_reducible first | exact HB.out | apply b0_ | apply b1_ | apply b2_) | exact HB.out)) hb); clear HB; have HB := n0_; clear n0_; (try clear hb); (try clear hb2); (try clear hk); (try clear hi)))
   go_ret2
   exact ⟨_, by first | rfl | (simp [errW_none, errW_some] <;> rfl) | (simp [*, errW_none, errW_some] <;> rfl), by first | exact Kd.R_nil _ _ _ _ _ | exact Kd.N_nil _ _ _ _ _ | exact Kd.V_nil _ _ _ _ _ | exact Kd.Q_nil _ _ _ _ _ | exact Kd.S_nil _ _ _ _ _, by repeat (first | (with_reducible first | exact HB.out | apply b0_ | apply b1_ | apply b2_) | exact HB.out)⟩
 ·rw [if_neg c5] at H
  have c5b0 : (t283 == 0) = false := beq_eq_false_iff_ne.mpr c5
  have c5b1 : (t283 != 0) = true := bne_iff_ne.mpr c5
  simp only [Option.some.injEq, Prod.mk.injEq] at H
  obtain ⟨rfl, rfl⟩ := H
  go_enter Try.func12, Try.ntmps12
  go_wp2_with (first | ((with_reducible refine gate_callee (f := 27) rfl ?_); refine goesL_ (some 12) rfl rfl Try.func27 (by kernel_rfl) rfl #[.int .i64 a0, .slice A1 l1.length c1, .slice A2 l2.length c2] rfl (by (try simp only [List.map_toArray, List.map_cons, List.map_nil]); first | done | rfl | (simp only [List.length_drop, List.length_take]; rfl)) ?_; (with_reducible refine (spiritlevelref17_Asked.calls k a0 _ _ l1 _ _ l2 t283 _ ?side1 ?side2 ?side3 ?side4 A4.out).mono ?_); (case side1 => repeat (first | exact HR1.out | (with_reducible refine c0_ ?_ _) | (with_reducible refine c1_ ?_ _) | (with_reducible refine c2_ ?_))); (case side2 => exact HC1.out); (case side3 => repeat (first | exact HR2.out | (with_reducible refine c0_ ?_ _) | (with_reducible refine c1_ ?_ _) | (with_reducible refine c2_ ?_))); (case side4 => exact HC2.out); rintro e w14 ⟨rfl, hb⟩; refine ⟨_, rfl, ?_⟩; have n0_ := M_ (below_step (by repeat (first | (with_reducible first | exact HB.out | apply b0_ | apply b1_ | apply b2_) | exact HB.out)) hb); clear HB; have HB := n0_; clear n0_; (try clear hb); (try clear hb2); (try clear hk); (try clear hi)))
  go_ret2
  exact ⟨_, by first | rfl | (simp [errW_none, errW_some] <;> rfl) | (simp [*, errW_none, errW_some] <;> rfl), by first | exact Kd.R_nil _ _ _ _ _ | exact Kd.N_nil _ _ _ _ _ | exact Kd.V_nil _ _ _ _ _ | exact Kd.Q_nil _ _ _ _ _ | exact Kd.S_nil _ _ _ _ _, by repeat (first | (with_reducible first | exact HB.out | apply b0_ | apply b1_ | apply b2_) | exact HB.out)⟩

/-! ### spiritlevelref13_Same: function 13 -/
def spiritlevelref13_Same.l0 : Nat → List Int → List Int → Int → Option (Bool)
 | 0, _, _, _ => none
 | k + 1, x0, x1, x5 => if x5 < (x0.length : Int) then (if 0 ≤ x5 then (if x5 < (x1.length : Int) then (if (rd x0 x5) = (rd x1 x5) then (spiritlevelref13_Same.l0 k x0 x1 (wrap64 (x5 + 1))) else (some false)) else (none)) else (none)) else (some true)
def spiritlevelref13_Same.f (k : Nat) (l0 : List Int) (l1 : List Int) : Option (Bool) := if (l0.length : Int) = (l1.length : Int) then (spiritlevelref13_Same.l0 k l0 l1 0) else (some false)
theorem spiritlevelref13_Same.mono_l : ∀ k, (∀ y0 y1 y2, LeO (spiritlevelref13_Same.l0 k y0 y1 y2) (spiritlevelref13_Same.l0 (k + 1) y0 y1 y2))
 | 0 => fun _ _ _ r h => by simp [spiritlevelref13_Same.l0] at h
 | k + 1 => by
  have ih0 := spiritlevelref13_Same.mono_l k
  ·intro y0 y1 y2
   unfold spiritlevelref13_Same.l0
   repeat' first
   | (with_reducible exact ih0 _ _ _)
   | (with_reducible exact LeO.refl _)
   | (with_reducible exact LeO.none _)
   | (with_reducible refine LeO.ite ?_ ?_)
   | (with_reducible refine LeO.bind ?_ (fun _ => ?_))
   | exact ih0 _ _ _
   | exact LeO.none _
   | refine LeO.ite ?_ ?_
   | refine LeO.bind ?_ (fun _ => ?_)
theorem spiritlevelref13_Same.mono : ∀ a0 a1 k, LeO (spiritlevelref13_Same.f k a0 a1) (spiritlevelref13_Same.f (k + 1) a0 a1) := by
 intro a0 a1 k
 have ih0 := spiritlevelref13_Same.mono_l k
 unfold spiritlevelref13_Same.f
 repeat' first
   | (with_reducible exact ih0 _ _ _)
   | (with_reducible exact LeO.refl _)
   | (with_reducible exact LeO.none _)
   | (with_reducible refine LeO.ite ?_ ?_)
   | (with_reducible refine LeO.bind ?_ (fun _ => ?_))
   | exact ih0 _ _ _
   | exact LeO.none _
   | refine LeO.ite ?_ ?_
   | refine LeO.bind ?_ (fun _ => ?_)
set_option maxHeartbeats 8000000 in
set_option maxRecDepth 100000 in
theorem spiritlevelref13_Same.calls (k : Nat) (A0 : Option Addr) (c0 : Nat) (l0 : List Int) (A1 : Option Addr) (c1 : Nat) (l1 : List Int) (r : Bool) (w : World) (hr0 : Kd.C (Kd.int .i64) w A0 l0.length l0) (hc0 : l0.length ≤ c0) (hr1 : Kd.C (Kd.int .i64) w A1 l1.length l1) (hc1 : l1.length ≤ c1) (h : spiritlevelref13_Same.f k l0 l1 = some r) :
  Calls Try.prog 13 #[.slice A0 l0.length c0, .slice A1 l1.length c1] w fun e w' => e = .returned (.bool r) ∧ Drawn0 w w' := by
 have HR0 := M_ hr0
 have HC0 := M_ hc0
 clear hr0 hc0
 have HR1 := M_ hr1
 have HC1 := M_ hc1
 clear hr1 hc1
 have H : (if (l0.length : Int) = (l1.length : Int) then (spiritlevelref13_Same.l0 k l0 l1 0) else (some false)) = some r := h
 clear h
 by_cases c3 : (l0.length : Int) = (l1.length : Int)
 ·rw [if_pos c3] at H
  have c3b0 : ((l0.length : Int) == (l1.length : Int)) = true := beq_iff_eq.mpr c3
  have c3b1 : ((l0.length : Int) != (l1.length : Int)) = false := bne_eq_false_iff_eq.mpr c3
  have c3b2 : (l0.length == l1.length) = true := by first | simpa using c3 | (simp at c3 ⊢; omega)
  clear c3
  have H' := M_ H
  clear H
  go_enter Try.func13, Try.ntmps13
  go_wp2
  repeat (go_quiet (fail); try go_wp2)
  go_loopg [5] k (fun kq v5 w' => ∃ (x5_1 : Int), v5 = .int .i64 x5_1 ∧ Aside0 (spiritlevelref13_Same.l0 kq l0 l1 x5_1 = some r) ∧ Aside0 (kq ≤ k) ∧ Drawn0 w w')
  case atStart => exact ⟨(0), (by first | rfl | (simp; done) | (simp [*]; done)), H', ⟨Nat.le_refl _⟩, by repeat (first | exact Drawn0.refl _ | apply Drawn0.step)⟩
  case round =>
   clear H'
   try clear c1
   try clear p2
   try clear c3
   try clear c3b0
   try clear c3b1
   try clear c3b2
   obtain ⟨x5_1, rfl, HA, HK1, ⟨m1, rfl⟩⟩ := hrel
   cases gk with
   | zero => exact absurd HA.out (by simp [spiritlevelref13_Same.l0])
   | succ k1 =>
    have H := HA.out
    clear HA
    simp only [spiritlevelref13_Same.l0] at H
    by_cases c4 : x5_1 < (l0.length : Int)
    ·rw [if_pos c4] at H
     have c4b0 : decide (x5_1 < (l0.length : Int)) = true := decide_eq_true c4
     clear c4
     by_cases c5 : 0 ≤ x5_1
     ·rw [if_pos c5] at H
      have c5b0 : decide (0 ≤ x5_1) = true := decide_eq_true c5
      clear c5
      by_cases c6 : x5_1 < (l1.length : Int)
      ·rw [if_pos c6] at H
       have c6b0 : decide (x5_1 < (l1.length : Int)) = true := decide_eq_true c6
       clear c6
       by_cases c7 : (rd l0 x5_1) = (rd l1 x5_1)
       ·rw [if_pos c7] at H
        have c7b0 : ((rd l0 x5_1) == (rd l1 x5_1)) = true := beq_iff_eq.mpr c7
        have c7b1 : ((rd l0 x5_1) != (rd l1 x5_1)) = false := bne_eq_false_iff_eq.mpr c7
        clear c7
        have H' := M_ H
        clear H
        have p288 : 0 ≤ (x5_1 : Int) := of_decide_eq_true (by first | (with_reducible assumption) | assumption)
        have q288 : x5_1 < (l0.length : Int) := of_decide_eq_true (by first | (with_reducible assumption) | assumption)
        obtain ⟨ad288, e288, hx288_0⟩ := Kd.at_int HR0.out x5_1 p288 q288
        cases e288
        replace p288 := eq_true p288
        replace q288 := eq_true q288
        have p289 : 0 ≤ (x5_1 : Int) := of_decide_eq_true (by first | (with_reducible assumption) | assumption)
        have q289 : x5_1 < (l1.length : Int) := of_decide_eq_true (by first | (with_reducible assumption) | assumption)
        obtain ⟨ad289, e289, hx289_0⟩ := Kd.at_int HR1.out x5_1 p289 q289
        cases e289
        replace p289 := eq_true p289
        replace q289 := eq_true q289
        go_wp2
        repeat (go_quiet (fail); try go_wp2)
        go_roundg k1
        case measure => have := HK1.out; omega
        case rel => exact ⟨(wrap64 (x5_1 + 1)), (by first | rfl | (simp; done) | (simp [*]; done)), H', ⟨by have := HK1.out; omega⟩, by repeat (first | exact Drawn0.refl _ | apply Drawn0.step)⟩
       ·rw [if_neg c7] at H
        have c7b0 : ((rd l0 x5_1) == (rd l1 x5_1)) = false := beq_eq_false_iff_ne.mpr c7
        have c7b1 : ((rd l0 x5_1) != (rd l1 x5_1)) = true := bne_iff_ne.mpr c7
        obtain rfl := Option.some.inj H
        have p288 : 0 ≤ (x5_1 : Int) := of_decide_eq_true (by first | (with_reducible assumption) | assumption)
        have q288 : x5_1 < (l0.length : Int) := of_decide_eq_true (by first | (with_reducible assumption) | assumption)
        obtain ⟨ad288, e288, hx288_0⟩ := Kd.at_int HR0.out x5_1 p288 q288
        cases e288
        replace p288 := eq_true p288
        replace q288 := eq_true q288
        have p289 : 0 ≤ (x5_1 : Int) := of_decide_eq_true (by first | (with_reducible assumption) | assumption)
        have q289 : x5_1 < (l1.length : Int) := of_decide_eq_true (by first | (with_reducible assumption) | assumption)
        obtain ⟨ad289, e289, hx289_0⟩ := Kd.at_int HR1.out x5_1 p289 q289
        cases e289
        replace p289 := eq_true p289
        replace q289 := eq_true q289
        go_wp2
        repeat (go_quiet (fail); try go_wp2)
        go_ret
        exact ⟨by first | rfl | (simp; done) | (simp [*]; done), by repeat (first | exact Drawn0.refl _ | apply Drawn0.step)⟩
      ·rw [if_neg c6] at H
       exact absurd H (by simp)
     ·rw [if_neg c5] at H
      exact absurd H (by simp)
    ·rw [if_neg c4] at H
     have c4b0 : decide (x5_1 < (l0.length : Int)) = false := decide_eq_false c4
     clear c4
     obtain rfl := Option.some.inj H
     go_wp2
     repeat (go_quiet (fail); try go_wp2)
     go_ret
     exact ⟨by first | rfl | (simp; done) | (simp [*]; done), by repeat (first | exact Drawn0.refl _ | apply Drawn0.step)⟩
 ·rw [if_neg c3] at H
  have c3b0 : ((l0.length : Int) == (l1.length : Int)) = false := beq_eq_false_iff_ne.mpr c3
  have c3b1 : ((l0.length : Int) != (l1.length : Int)) = true := bne_iff_ne.mpr c3
  have c3b2 : (l0.length == l1.length) = false := by first | simpa using c3 | (simp at c3 ⊢; omega)
  obtain rfl := Option.some.inj H
  go_enter Try.func13, Try.ntmps13
  go_wp2
  repeat (go_quiet (fail); try go_wp2)
  go_ret
  exact ⟨by first | rfl | (simp; done) | (simp [*]; done), by repeat (first | exact Drawn0.refl _ | apply Drawn0.step)⟩

/-! ### spiritlevellaw17_LearnTells: function 3 -/
def spiritlevellaw17_LearnTells.f (k : Nat) (a0 : Int) (l1 : List (List Int)) (l2 : List Int) : Option (Bool) := (spiritlevellaw17_great.f k a0 l1 l2).bind fun t290 => (if t290 = true then (some true) else ((learn_Conflict.f k a0 l1 l2).bind fun bt291 => ((spiritlevelref17_Conflict.f k a0 l1 l2).bind fun bt293 => ((learn_Clause.f k a0 l1 l2).bind fun bt295 => ((spiritlevelref17_Clause.f k a0 l1 l2).bind fun bt299 => (if (bt291.1 == bt293.1) = true then (if bt291.2 = bt293.2 then ((spiritlevelref13_Same.f k bt295.1 bt299.1).bind fun t303 => (if t303 = true then (some (bt295.2 == bt299.2)) else (some false))) else (some false)) else (some false)))))))
theorem spiritlevellaw17_LearnTells.mono : ∀ a0 a1 a2 k, LeO (spiritlevellaw17_LearnTells.f k a0 a1 a2) (spiritlevellaw17_LearnTells.f (k + 1) a0 a1 a2) := by
 intro a0 a1 a2 k
 unfold spiritlevellaw17_LearnTells.f
 repeat' first
   | (with_reducible exact learn_Clause.mono _ _ _ _)
   | (with_reducible exact learn_Conflict.mono _ _ _ _)
   | (with_reducible exact spiritlevellaw17_great.mono _ _ _ _)
   | (with_reducible exact spiritlevelref13_Same.mono _ _ _)
   | (with_reducible exact spiritlevelref17_Clause.mono _ _ _ _)
   | (with_reducible exact spiritlevelref17_Conflict.mono _ _ _ _)
   | (with_reducible exact LeO.refl _)
   | (with_reducible exact LeO.none _)
   | (with_reducible refine LeO.ite ?_ ?_)
   | (with_reducible refine LeO.bind ?_ (fun _ => ?_))
   | exact learn_Clause.mono _ _ _ _
   | exact learn_Conflict.mono _ _ _ _
   | exact spiritlevellaw17_great.mono _ _ _ _
   | exact spiritlevelref13_Same.mono _ _ _
   | exact spiritlevelref17_Clause.mono _ _ _ _
   | exact spiritlevelref17_Conflict.mono _ _ _ _
   | exact LeO.none _
   | refine LeO.ite ?_ ?_
   | refine LeO.bind ?_ (fun _ => ?_)
set_option maxHeartbeats 8000000 in
set_option maxRecDepth 100000 in
theorem spiritlevellaw17_LearnTells.calls (k : Nat) (a0 : Int) (A1 : Option Addr) (c1 : Nat) (l1 : List (List Int)) (A2 : Option Addr) (c2 : Nat) (l2 : List Int) (r : Bool) (w : World) (hr1 : Kd.C (Kd.slice 3 (Kd.int .i64)) w A1 l1.length l1) (hc1 : l1.length ≤ c1) (hr2 : Kd.C (Kd.int .i64) w A2 l2.length l2) (hc2 : l2.length ≤ c2) (ht_ : r = true) (h : spiritlevellaw17_LearnTells.f k a0 l1 l2 = some r) :
  Calls Try.prog 3 #[.int .i64 a0, .slice A1 l1.length c1, .slice A2 l2.length c2] w fun e w' => e = .returned (.bool r) ∧ Below w.heap.size w w' := by
 have HTR_ := M_ ht_
 clear ht_
 have HR1 := M_ hr1
 have HC1 := M_ hc1
 clear hr1 hc1
 have HR2 := M_ hr2
 have HC2 := M_ hc2
 clear hr2 hc2
 have HB := M_ (Below.refl w.heap.size w)
 have H : ((spiritlevellaw17_great.f k a0 l1 l2).bind fun t290 => (if t290 = true then (some true) else ((learn_Conflict.f k a0 l1 l2).bind fun bt291 => ((spiritlevelref17_Conflict.f k a0 l1 l2).bind fun bt293 => ((learn_Clause.f k a0 l1 l2).bind fun bt295 => ((spiritlevelref17_Clause.f k a0 l1 l2).bind fun bt299 => (if (bt291.1 == bt293.1) = true then (if bt291.2 = bt293.2 then ((spiritlevelref13_Same.f k bt295.1 bt299.1).bind fun t303 => (if t303 = true then (some (bt295.2 == bt299.2)) else (some false))) else (some false)) else (some false)))))))) = some r := h
 clear h
 replace H := Option.bind_eq_some_iff.mp H
 obtain ⟨t290, A40, H⟩ := H
 replace H : (if t290 = true then (some true) else ((learn_Conflict.f k a0 l1 l2).bind fun bt291 => ((spiritlevelref17_Conflict.f k a0 l1 l2).bind fun bt293 => ((learn_Clause.f k a0 l1 l2).bind fun bt295 => ((spiritlevelref17_Clause.f k a0 l1 l2).bind fun bt299 => (if (bt291.1 == bt293.1) = true then (if bt291.2 = bt293.2 then ((spiritlevelref13_Same.f k bt295.1 bt299.1).bind fun t303 => (if t303 = true then (some (bt295.2 == bt299.2)) else (some false))) else (some false)) else (some false))))))) = some r := H
 have A4 := M_ A40
 clear A40
 by_cases c5 : t290 = true
 ·subst c5
  have H1 : (some true) = some r := by rw [if_pos rfl] at H; exact H
  clear H
  have H := H1
  clear H1
  obtain rfl := Option.some.inj H
  go_enter Try.func3, Try.ntmps3
  go_wp2_with (first | ((with_reducible refine gate_callee (f := 8) rfl ?_); refine goesL_ (some 18) rfl rfl Try.func8 (by kernel_rfl) rfl #[.int .i64 a0, .slice A1 l1.length c1, .slice A2 l2.length c2] rfl (by (try simp only [List.map_toArray, List.map_cons, List.map_nil]); first | done | rfl | (simp only [List.length_drop, List.length_take]; rfl)) ?_; (with_reducible refine (spiritlevellaw17_great.calls k a0 _ _ l1 _ _ l2 true _ ?side1 ?side2 ?side3 ?side4 A4.out).mono ?_); (case side1 => repeat (first | exact HR1.out | (with_reducible refine c0_ ?_ _) | (with_reducible refine c1_ ?_ _) | (with_reducible refine c2_ ?_))); (case side2 => exact HC1.out); (case side3 => repeat (first | exact HR2.out | (with_reducible refine c0_ ?_ _) | (with_reducible refine c1_ ?_ _) | (with_reducible refine c2_ ?_))); (case side4 => exact HC2.out); rintro e w' ⟨rfl, ⟨nd, rfl⟩⟩; refine ⟨_, rfl, ?_⟩))
  go_ret
  exact ⟨by first | rfl | (simp [errW_none, errW_some] <;> rfl) | (simp [*, errW_none, errW_some] <;> rfl), by repeat (first | (with_reducible first | exact HB.out | apply b0_ | apply b1_ | apply b2_) | exact HB.out)⟩
 ·replace c5 := Bool.eq_false_iff.mpr c5
  subst c5
  have H1 : ((learn_Conflict.f k a0 l1 l2).bind fun bt291 => ((spiritlevelref17_Conflict.f k a0 l1 l2).bind fun bt293 => ((learn_Clause.f k a0 l1 l2).bind fun bt295 => ((spiritlevelref17_Clause.f k a0 l1 l2).bind fun bt299 => (if (bt291.1 == bt293.1) = true then (if bt291.2 = bt293.2 then ((spiritlevelref13_Same.f k bt295.1 bt299.1).bind fun t303 => (if t303 = true then (some (bt295.2 == bt299.2)) else (some false))) else (some false)) else (some false)))))) = some r := by rw [if_neg (show ¬ (false = true) by decide)] at H; exact H
  clear H
  have H := H1
  clear H1
  replace H := Option.bind_eq_some_iff.mp H
  obtain ⟨⟨t291, t292⟩, A60, H⟩ := H
  replace H : ((spiritlevelref17_Conflict.f k a0 l1 l2).bind fun bt293 => ((learn_Clause.f k a0 l1 l2).bind fun bt295 => ((spiritlevelref17_Clause.f k a0 l1 l2).bind fun bt299 => (if (t291 == bt293.1) = true then (if t292 = bt293.2 then ((spiritlevelref13_Same.f k bt295.1 bt299.1).bind fun t303 => (if t303 = true then (some (bt295.2 == bt299.2)) else (some false))) else (some false)) else (some false))))) = some r := H
  have A6 := M_ A60
  clear A60
  replace H := Option.bind_eq_some_iff.mp H
  obtain ⟨⟨t293, t294⟩, A70, H⟩ := H
  replace H : ((learn_Clause.f k a0 l1 l2).bind fun bt295 => ((spiritlevelref17_Clause.f k a0 l1 l2).bind fun bt299 => (if (t291 == t293) = true then (if t292 = t294 then ((spiritlevelref13_Same.f k bt295.1 bt299.1).bind fun t303 => (if t303 = true then (some (bt295.2 == bt299.2)) else (some false))) else (some false)) else (some false)))) = some r := H
  have A7 := M_ A70
  clear A70
  replace H := Option.bind_eq_some_iff.mp H
  obtain ⟨⟨t295, t296⟩, A80, H⟩ := H
  replace H : ((spiritlevelref17_Clause.f k a0 l1 l2).bind fun bt299 => (if (t291 == t293) = true then (if t292 = t294 then ((spiritlevelref13_Same.f k t295 bt299.1).bind fun t303 => (if t303 = true then (some (t296 == bt299.2)) else (some false))) else (some false)) else (some false))) = some r := H
  have A8 := M_ A80
  clear A80
  replace H := Option.bind_eq_some_iff.mp H
  obtain ⟨⟨t299, t300⟩, A90, H⟩ := H
  replace H : (if (t291 == t293) = true then (if t292 = t294 then ((spiritlevelref13_Same.f k t295 t299).bind fun t303 => (if t303 = true then (some (t296 == t300)) else (some false))) else (some false)) else (some false)) = some r := H
  have A9 := M_ A90
  clear A90
  by_cases c10 : (t291 == t293) = true
  ·rw [if_pos c10] at H
   have c10b0 : (t291 == t293) = true := c10
   (try (have c10b1 : decide (t291 = t293) = true := by simpa using c10))
   (try (have c10b2 : (t291 == t293) = true := by simpa using c10))
   clear c10
   by_cases c11 : t292 = t294
   ·rw [if_pos c11] at H
    have c11b0 : (t292 == t294) = true := beq_iff_eq.mpr c11
    have c11b1 : (t292 != t294) = false := bne_eq_false_iff_eq.mpr c11
    clear c11
    replace H := Option.bind_eq_some_iff.mp H
    obtain ⟨t303, A120, H⟩ := H
    replace H : (if t303 = true then (some (t296 == t300)) else (some false)) = some r := H
    have A12 := M_ A120
    clear A120
    by_cases c13 : t303 = true
    ·subst c13
     have H1 : (some (t296 == t300)) = some r := by rw [if_pos rfl] at H; exact H
     clear H
     have H := H1
     clear H1
     obtain rfl := Option.some.inj H
     go_enter Try.func3, Try.ntmps3
     go_wp2_with (first | ((with_reducible refine gate_callee (f := 8) rfl ?_); refine goesL_ (some 18) rfl rfl Try.func8 (by kernel_rfl) rfl #[.int .i64 a0, .slice A1 l1.length c1, .slice A2 l2.length c2] rfl (by (try simp only [List.map_toArray, List.map_cons, List.map_nil]); first | done | rfl | (simp only [List.length_drop, List.length_take]; rfl)) ?_; (with_reducible refine (spiritlevellaw17_great.calls k a0 _ _ l1 _ _ l2 false _ ?side1 ?side2 ?side3 ?side4 A4.out).mono ?_); (case side1 => repeat (first | exact HR1.out | (with_reducible refine c0_ ?_ _) | (with_reducible refine c1_ ?_ _) | (with_reducible refine c2_ ?_))); (case side2 => exact HC1.out); (case side3 => repeat (first | exact HR2.out | (with_reducible refine c0_ ?_ _) | (with_reducible refine c1_ ?_ _) | (with_reducible refine c2_ ?_))); (case side4 => exact HC2.out); rintro e w' ⟨rfl, ⟨nd, rfl⟩⟩; refine ⟨_, rfl, ?_⟩) | ((with_reducible refine gate_callee (f := 9) rfl ?_); refine goesL_ (some 23) rfl rfl Try.func9 (by kernel_rfl) rfl #[.int .i64 a0, .slice A1 l1.length c1, .slice A2 l2.length c2] rfl (by (try simp only [List.map_toArray, List.map_cons, List.map_nil]); first | done | rfl | (simp only [List.length_drop, List.length_take]; rfl)) ?_; (with_reducible refine (learn_Conflict.calls k a0 _ _ l1 _ _ l2 t291 t292 _ ?side1 ?side2 ?side3 ?side4 A6.out).mono ?_); (case side1 => repeat (first | exact HR1.out | (with_reducible refine c0_ ?_ _) | (with_reducible refine c1_ ?_ _) | (with_reducible refine c2_ ?_))); (case side2 => exact HC1.out); (case side3 => repeat (first | exact HR2.out | (with_reducible refine c0_ ?_ _) | (with_reducible refine c1_ ?_ _) | (with_reducible refine c2_ ?_))); (case side4 => exact HC2.out); rintro e w14 ⟨rfl, hb⟩; refine ⟨_, rfl, ?_⟩; have n0_ := M_ (below_step (by repeat (first | (with_reducible first | exact HB.out | apply b0_ | apply b1_ | apply b2_) | exact HB.out)) hb); clear HB; have HB := n0_; clear n0_; (try clear hb); (try clear hb2); (try clear hk); (try clear hi)) | ((with_reducible refine gate_callee (f := 10) rfl ?_); refine goesL_ (some 30) rfl rfl Try.func10 (by kernel_rfl) rfl #[.int .i64 a0, .slice A1 l1.length c1, .slice A2 l2.length c2] rfl (by (try simp only [List.map_toArray, List.map_cons, List.map_nil]); first | done | rfl | (simp only [List.length_drop, List.length_take]; rfl)) ?_; (with_reducible refine (spiritlevelref17_Conflict.calls k a0 _ _ l1 _ _ l2 t293 t294 _ ?side1 ?side2 ?side3 ?side4 A7.out).mono ?_); (case side1 => repeat (first | exact (Kd.C_below HR1.out HB.out) | (with_reducible refine c0_ ?_ _) | (with_reducible refine c1_ ?_ _) | (with_reducible refine c2_ ?_))); (case side2 => exact HC1.out); (case side3 => repeat (first | exact (Kd.C_below HR2.out HB.out) | (with_reducible refine c0_ ?_ _) | (with_reducible refine c1_ ?_ _) | (with_reducible refine c2_ ?_))); (case side4 => exact HC2.out); rintro e w15 ⟨rfl, hb⟩; refine ⟨_, rfl, ?_⟩; have n0_ := M_ (below_step (by repeat (first | (with_reducible first | exact HB.out | apply b0_ | apply b1_ | apply b2_) | exact HB.out)) hb); clear HB; have HB := n0_; clear n0_; (try clear hb); (try clear hb2); (try clear hk); (try clear hi)) | ((with_reducible refine gate_callee (f := 11) rfl ?_); refine goesL_ (some 37) rfl rfl Try.func11 (by kernel_rfl) rfl #[.int .i64 a0, .slice A1 l1.length c1, .slice A2 l2.length c2] rfl (by (try simp only [List.map_toArray, List.map_cons, List.map_nil]); first | done | rfl | (simp only [List.length_drop, List.length_take]; rfl)) ?_; (with_reducible refine (learn_Clause.calls k a0 _ _ l1 _ _ l2 t295 t296 _ ?side1 ?side2 ?side3 ?side4 A8.out).mono ?_); (case side1 => repeat (first | exact (Kd.C_below HR1.out HB.out) | (with_reducible refine c0_ ?_ _) | (with_reducible refine c1_ ?_ _) | (with_reducible refine c2_ ?_))); (case side2 => exact HC1.out); (case side3 => repeat (first | exact (Kd.C_below HR2.out HB.out) | (with_reducible refine c0_ ?_ _) | (with_reducible refine c1_ ?_ _) | (with_reducible refine c2_ ?_))); (case side4 => exact HC2.out); rintro e w16 ⟨v297, rfl, ho0, hb⟩; refine ⟨_, rfl, ?_⟩; have n0_ := M_ (Kd.R_lower ho0 (below_size (by repeat (first | (with_reducible first | exact HB.out | apply b0_ | apply b1_ | apply b2_) | exact HB.out)))); have n1_ := M_ (below_step (by repeat (first | (with_reducible first | exact HB.out | apply b0_ | apply b1_ | apply b2_) | exact HB.out)) hb); clear HB; have HO298 := n0_; have HB := n1_; clear n0_ n1_; (try clear hb); (try clear hb2); (try clear hk); (try clear hi); (try clear ho0)) | ((with_reducible refine gate_callee (f := 12) rfl ?_); refine goesL_ (some 44) rfl rfl Try.func12 (by kernel_rfl) rfl #[.int .i64 a0, .slice A1 l1.length c1, .slice A2 l2.length c2] rfl (by (try simp only [List.map_toArray, List.map_cons, List.map_nil]); first | done | rfl | (simp only [List.length_drop, List.length_take]; rfl)) ?_; (with_reducible refine (spiritlevelref17_Clause.calls k a0 _ _ l1 _ _ l2 t299 t300 _ ?side1 ?side2 ?side3 ?side4 A9.out).mono ?_); (case side1 => repeat (first | exact (Kd.C_below HR1.out HB.out) | (with_reducible refine c0_ ?_ _) | (with_reducible refine c1_ ?_ _) | (with_reducible refine c2_ ?_))); (case side2 => exact HC1.out); (case side3 => repeat (first | exact (Kd.C_below HR2.out HB.out) | (with_reducible refine c0_ ?_ _) | (with_reducible refine c1_ ?_ _) | (with_reducible refine c2_ ?_))); (case side4 => exact HC2.out); rintro e w17 ⟨v301, rfl, ho0, hb⟩; refine ⟨_, rfl, ?_⟩; have n0_ := M_ (Kd.R_elder' (by (with_reducible repeat (first | apply a0_ | apply a1_ | apply a2_)); exact HO298.out) (Kd.R_base ho0) hb); have n1_ := M_ (Kd.R_lower (Kd.R_new' ho0 (Kd.R_lt (by (with_reducible repeat (first | apply a0_ | apply a1_ | apply a2_)); exact HO298.out))) (below_size (by repeat (first | (with_reducible first | exact HB.out | apply b0_ | apply b1_ | apply b2_) | exact HB.out)))); have n2_ := M_ (below_step (by repeat (first | (with_reducible first | exact HB.out | apply b0_ | apply b1_ | apply b2_) | exact HB.out)) hb); clear HO298; clear HB; have HO298 := n0_; have HO302 := n1_; have HB := n2_; clear n0_ n1_ n2_; (try clear hb); (try clear hb2); (try clear hk); (try clear hi); (try clear ho0); obtain ⟨Ao18, co18, eo18⟩ := Kd.R_slice HO298.out; subst eo18; obtain ⟨Ao19, co19, eo19⟩ := Kd.R_slice HO302.out; subst eo19) | (go_at_call 13; (with_reducible refine (spiritlevelref13_Same.calls k _ _ t295 _ _ t299 true _ ?side1 ?side2 ?side3 ?side4 A12.out).mono ?_); (case side1 => repeat (first | exact (Kd.R_reads' HO298.out).2.2 | (with_reducible refine c0_ ?_ _) | (with_reducible refine c1_ ?_ _) | (with_reducible refine c2_ ?_))); (case side2 => exact (Kd.R_reads' HO298.out).2.1); (case side3 => repeat (first | exact (Kd.R_reads' HO302.out).2.2 | (with_reducible refine c0_ ?_ _) | (with_reducible refine c1_ ?_ _) | (with_reducible refine c2_ ?_))); (case side4 => exact (Kd.R_reads' HO302.out).2.1); rintro e w' ⟨rfl, ⟨nd, rfl⟩⟩))
     go_ret
     exact ⟨by first | rfl | (simp [errW_none, errW_some] <;> rfl) | (simp [*, errW_none, errW_some] <;> rfl), by repeat (first | (with_reducible first | exact HB.out | apply b0_ | apply b1_ | apply b2_) | exact HB.out)⟩
    ·replace c13 := Bool.eq_false_iff.mpr c13
     subst c13
     have H1 : (some false) = some r := by rw [if_neg (show ¬ (false = true) by decide)] at H; exact H
     clear H
     have H := H1
     clear H1
     exact absurd ((Option.some.inj H).trans HTR_.out) (by decide)
   ·rw [if_neg c11] at H
    have c11b0 : (t292 == t294) = false := beq_eq_false_iff_ne.mpr c11
    have c11b1 : (t292 != t294) = true := bne_iff_ne.mpr c11
    exact absurd ((Option.some.inj H).trans HTR_.out) (by decide)
  ·rw [if_neg c10] at H
   have c10b0 : (t291 == t293) = false := by simpa using c10
   (try (have c10b1 : decide (t291 = t293) = false := by simpa using c10))
   (try (have c10b2 : (t291 == t293) = false := by simpa using c10))
   (try (have c10b3 : ¬ (t291 = t293) := by simpa using c10))
   clear c10
   exact absurd ((Option.some.inj H).trans HTR_.out) (by decide)

/-- THE ONE PURE STATEMENT of spiritlevellaw17_LearnTells. -/
def spiritlevellaw17_LearnTells.Pure : Prop := ∀ (a0 : Int) (l1 : List (List Int)) (l2 : List Int), ((Lit.int .i64 a0).wf = true) → (l1.length ≤ 9223372036854775807 ∧ l1.length * 24 ≤ 140737488351232 ∧ ∀ x0_ ∈ l1, x0_.length ≤ 9223372036854775807 ∧ x0_.length * 8 ≤ 140737488351232 ∧ ∀ x1_ ∈ x0_, (Lit.int .i64 x1_).wf = true) → (l2.length ≤ 9223372036854775807 ∧ l2.length * 8 ≤ 140737488351232 ∧ ∀ x0_ ∈ l2, (Lit.int .i64 x0_).wf = true) → ∃ k, spiritlevellaw17_LearnTells.f k a0 l1 l2 = some true
theorem spiritlevellaw17_LearnTells.walk (P : spiritlevellaw17_LearnTells.Pure) (a0 : Int) (A1 : Option Addr) (c1 : Nat) (l1 : List (List Int)) (A2 : Option Addr) (c2 : Nat) (l2 : List Int) (w : World) (hr1 : Kd.C (Kd.slice 3 (Kd.int .i64)) w A1 l1.length l1) (hc1 : l1.length ≤ c1) (hr2 : Kd.C (Kd.int .i64) w A2 l2.length l2) (hc2 : l2.length ≤ c2) (ok0 : (Lit.int .i64 a0).wf = true) (ok1 : l1.length ≤ 9223372036854775807 ∧ l1.length * 24 ≤ 140737488351232 ∧ ∀ x0_ ∈ l1, x0_.length ≤ 9223372036854775807 ∧ x0_.length * 8 ≤ 140737488351232 ∧ ∀ x1_ ∈ x0_, (Lit.int .i64 x1_).wf = true) (ok2 : l2.length ≤ 9223372036854775807 ∧ l2.length * 8 ≤ 140737488351232 ∧ ∀ x0_ ∈ l2, (Lit.int .i64 x0_).wf = true) :
  Calls Try.prog 3 #[.int .i64 a0, .slice A1 l1.length c1, .slice A2 l2.length c2] w fun e w' => e = .returned (.bool true) ∧ Below w.heap.size w w' := by
 obtain ⟨k, h⟩ := P a0 l1 l2 ok0 ok1 ok2
 refine (spiritlevellaw17_LearnTells.calls k a0 A1 c1 l1 A2 c2 l2 true w hr1 hc1 hr2 hc2 rfl h).mono ?_
 rintro e w' ⟨rfl, hd⟩
 exact ⟨rfl, hd⟩

end Go.Proofs.Ytcopolpepodceaa.QLearnTells
