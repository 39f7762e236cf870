-- Made by wip/myprint.sh (a patched print): a text of this session's own.
import Derived.Test.YtcopolpepodceaaQLearnTellsx0
import Derived.Test.YtcopolpepodceaaQLearnTellsx6
import Derived.Test.YtcopolpepodceaaQLearnTellsx9
namespace Go.Proofs.Ytcopolpepodceaa.QLearnTells
open Go.RowKit Go.Proofs.YtcopolpepodceaaW.PrintWords Go.Proofs.YtcopolpepodceaaW.PrintLast Go.Proofs.YtcopolpepodceaaW.PrintMore
attribute [local go_sem] max2_int min2_int max_two min_two max_three min_three max_four min_four   -- for this text's walks alone
set_option linter.unusedVariables false
set_option linter.unusedSimpArgs false

/-! ### spiritlevelref17_Implied: function 43 -/
mutual
def spiritlevelref17_Implied.l0 : Nat → List (List Int) → List Int → Option (List Int × Bool)
 | 0, _, _ => none
 | k + 1, x0, x6 => spiritlevelref17_Implied.l1 k x0 x6 (x6.length : Int) 0
def spiritlevelref17_Implied.l1 : Nat → List (List Int) → List Int → Int → Int → Option (List Int × Bool)
 | 0, _, _, _, _ => none
 | k + 1, x0, x6, x7, x8 => if x8 < (x0.length : Int) then (spiritlevelref17_Implied.l2 k x0 x6 x7 x8 ([] : List Int) false 0) else (if (x6.length : Int) = x7 then (some (x6, false)) else (spiritlevelref17_Implied.l0 k x0 x6))
def spiritlevelref17_Implied.l2 : Nat → List (List Int) → List Int → Int → Int → List Int → Bool → Int → Option (List Int × Bool)
 | 0, _, _, _, _, _, _, _ => none
 | k + 1, x0, x6, x7, x8, x9, x10, x11 => if 0 ≤ x8 then (if x8 < (x0.length : Int) then (if x11 < ((rd_L1 x0 x8).length : Int) then (if x10 = true then (spiritlevelref17_Implied.j3 k x0 x6 x7 x8 x9 true x11) else (if 0 ≤ x11 then ((spiritlevelref13_Has.f k x6 (rd (rd_L1 x0 x8) x11)).bind fun t205 => (spiritlevelref17_Implied.j3 k x0 x6 x7 x8 x9 t205 x11)) else (none))) else (if (x9.length : Int) = 0 then (some (x6, true)) else (if (x9.length : Int) = 1 then (if x10 = true then (spiritlevelref17_Implied.l1 k x0 x6 x7 (wrap64 (x8 + 1))) else (if 0 < (x9.length : Int) then (if x6.length < 17592186044416 then (spiritlevelref17_Implied.l1 k x0 (x6 ++ [rd x9 0]) x7 (wrap64 (x8 + 1))) else (none)) else (none))) else (spiritlevelref17_Implied.l1 k x0 x6 x7 (wrap64 (x8 + 1)))))) else (none)) else (none)
def spiritlevelref17_Implied.j3 : Nat → List (List Int) → List Int → Int → Int → List Int → Bool → Int → Option (List Int × Bool)
 | 0, _, _, _, _, _, _, _ => none
 | k + 1, x0, x6, x7, x8, x9, x10, x11 => if 0 ≤ x8 then (if x8 < (x0.length : Int) then (if 0 ≤ x11 then (if x11 < ((rd_L1 x0 x8).length : Int) then ((spiritlevelref13_Not.f (rd (rd_L1 x0 x8) x11)).bind fun t208 => ((spiritlevelref13_Has.f k x6 t208).bind fun t209 => (if t209 = true then (spiritlevelref17_Implied.l2 k x0 x6 x7 x8 x9 x10 (wrap64 (x11 + 1))) else (if x9.length < 17592186044416 then (spiritlevelref17_Implied.l2 k x0 x6 x7 x8 (x9 ++ [rd (rd_L1 x0 x8) x11]) x10 (wrap64 (x11 + 1))) else (none))))) else (none)) else (none)) else (none)) else (none)
end
def spiritlevelref17_Implied.f (k : Nat) (l0 : List (List Int)) (l1 : List Int) : Option (List Int × Bool) := (some (([] : List Int) : List Int)).bind fun y196 => (if y196.length + l1.length < 17592186044416 then (spiritlevelref17_Implied.l0 k l0 (y196 ++ l1)) else (none))
theorem spiritlevelref17_Implied.mono_l : ∀ k, (∀ y0 y1, LeO (spiritlevelref17_Implied.l0 k y0 y1) (spiritlevelref17_Implied.l0 (k + 1) y0 y1)) ∧ (∀ y0 y1 y2 y3, LeO (spiritlevelref17_Implied.l1 k y0 y1 y2 y3) (spiritlevelref17_Implied.l1 (k + 1) y0 y1 y2 y3)) ∧ (∀ y0 y1 y2 y3 y4 y5 y6, LeO (spiritlevelref17_Implied.l2 k y0 y1 y2 y3 y4 y5 y6) (spiritlevelref17_Implied.l2 (k + 1) y0 y1 y2 y3 y4 y5 y6)) ∧ (∀ y0 y1 y2 y3 y4 y5 y6, LeO (spiritlevelref17_Implied.j3 k y0 y1 y2 y3 y4 y5 y6) (spiritlevelref17_Implied.j3 (k + 1) y0 y1 y2 y3 y4 y5 y6))
 | 0 => ⟨fun _ _ r h => by simp [spiritlevelref17_Implied.l0] at h, fun _ _ _ _ r h => by simp [spiritlevelref17_Implied.l1] at h, fun _ _ _ _ _ _ _ r h => by simp [spiritlevelref17_Implied.l2] at h, fun _ _ _ _ _ _ _ r h => by simp [spiritlevelref17_Implied.j3] at h⟩
 | k + 1 => by
  obtain ⟨ih0, ih1, ih2, ih3⟩ := spiritlevelref17_Implied.mono_l k
  refine ⟨?_, ?_, ?_, ?_⟩
  ·intro y0 y1
   unfold spiritlevelref17_Implied.l0
   repeat' first
   | (with_reducible exact ih0 _ _)
   | (with_reducible exact ih1 _ _ _ _)
   | (with_reducible exact ih2 _ _ _ _ _ _ _)
   | (with_reducible exact ih3 _ _ _ _ _ _ _)
   | (with_reducible exact spiritlevelref13_Has.mono _ _ _)
   | (with_reducible exact LeO.refl _)
   | (with_reducible exact LeO.none _)
   | (with_reducible refine LeO.ite ?_ ?_)
   | (with_reducible refine LeO.bind ?_ (fun _ => ?_))
   | exact ih0 _ _
   | exact ih1 _ _ _ _
   | exact ih2 _ _ _ _ _ _ _
   | exact ih3 _ _ _ _ _ _ _
   | exact spiritlevelref13_Has.mono _ _ _
   | exact LeO.none _
   | refine LeO.ite ?_ ?_
   | refine LeO.bind ?_ (fun _ => ?_)
  ·intro y0 y1 y2 y3
   unfold spiritlevelref17_Implied.l1
   repeat' first
   | (with_reducible exact ih0 _ _)
   | (with_reducible exact ih1 _ _ _ _)
   | (with_reducible exact ih2 _ _ _ _ _ _ _)
   | (with_reducible exact ih3 _ _ _ _ _ _ _)
   | (with_reducible exact spiritlevelref13_Has.mono _ _ _)
   | (with_reducible exact LeO.refl _)
   | (with_reducible exact LeO.none _)
   | (with_reducible refine LeO.ite ?_ ?_)
   | (with_reducible refine LeO.bind ?_ (fun _ => ?_))
   | exact ih0 _ _
   | exact ih1 _ _ _ _
   | exact ih2 _ _ _ _ _ _ _
   | exact ih3 _ _ _ _ _ _ _
   | exact spiritlevelref13_Has.mono _ _ _
   | exact LeO.none _
   | refine LeO.ite ?_ ?_
   | refine LeO.bind ?_ (fun _ => ?_)
  ·intro y0 y1 y2 y3 y4 y5 y6
   unfold spiritlevelref17_Implied.l2
   repeat' first
   | (with_reducible exact ih0 _ _)
   | (with_reducible exact ih1 _ _ _ _)
   | (with_reducible exact ih2 _ _ _ _ _ _ _)
   | (with_reducible exact ih3 _ _ _ _ _ _ _)
   | (with_reducible exact spiritlevelref13_Has.mono _ _ _)
   | (with_reducible exact LeO.refl _)
   | (with_reducible exact LeO.none _)
   | (with_reducible refine LeO.ite ?_ ?_)
   | (with_reducible refine LeO.bind ?_ (fun _ => ?_))
   | exact ih0 _ _
   | exact ih1 _ _ _ _
   | exact ih2 _ _ _ _ _ _ _
   | exact ih3 _ _ _ _ _ _ _
   | exact spiritlevelref13_Has.mono _ _ _
   | exact LeO.none _
   | refine LeO.ite ?_ ?_
   | refine LeO.bind ?_ (fun _ => ?_)
  ·intro y0 y1 y2 y3 y4 y5 y6
   unfold spiritlevelref17_Implied.j3
   repeat' first
   | (with_reducible exact ih0 _ _)
   | (with_reducible exact ih1 _ _ _ _)
   | (with_reducible exact ih2 _ _ _ _ _ _ _)
   | (with_reducible exact ih3 _ _ _ _ _ _ _)
   | (with_reducible exact spiritlevelref13_Has.mono _ _ _)
   | (with_reducible exact LeO.refl _)
   | (with_reducible exact LeO.none _)
   | (with_reducible refine LeO.ite ?_ ?_)
   | (with_reducible refine LeO.bind ?_ (fun _ => ?_))
   | exact ih0 _ _
   | exact ih1 _ _ _ _
   | exact ih2 _ _ _ _ _ _ _
   | exact ih3 _ _ _ _ _ _ _
   | exact spiritlevelref13_Has.mono _ _ _
   | exact LeO.none _
   | refine LeO.ite ?_ ?_
   | refine LeO.bind ?_ (fun _ => ?_)
theorem spiritlevelref17_Implied.mono : ∀ a0 a1 k, LeO (spiritlevelref17_Implied.f k a0 a1) (spiritlevelref17_Implied.f (k + 1) a0 a1) := by
 intro a0 a1 k
 obtain ⟨ih0, ih1, ih2, ih3⟩ := spiritlevelref17_Implied.mono_l k
 unfold spiritlevelref17_Implied.f
 repeat' first
   | (with_reducible exact ih0 _ _)
   | (with_reducible exact ih1 _ _ _ _)
   | (with_reducible exact ih2 _ _ _ _ _ _ _)
   | (with_reducible exact ih3 _ _ _ _ _ _ _)
   | (with_reducible exact spiritlevelref13_Has.mono _ _ _)
   | (with_reducible exact LeO.refl _)
   | (with_reducible exact LeO.none _)
   | (with_reducible refine LeO.ite ?_ ?_)
   | (with_reducible refine LeO.bind ?_ (fun _ => ?_))
   | exact ih0 _ _
   | exact ih1 _ _ _ _
   | exact ih2 _ _ _ _ _ _ _
   | exact ih3 _ _ _ _ _ _ _
   | exact spiritlevelref13_Has.mono _ _ _
   | exact LeO.none _
   | refine LeO.ite ?_ ?_
   | refine LeO.bind ?_ (fun _ => ?_)
set_option maxHeartbeats 8000000 in
set_option maxRecDepth 100000 in
theorem spiritlevelref17_Implied.calls (k : Nat) (A0 : Option Addr) (c0 : Nat) (l0 : List (List Int)) (A1 : Option Addr) (c1 : Nat) (l1 : List Int) (r1 : List Int) (r2 : Bool) (w : World) (hr0 : Kd.C (Kd.slice 3 (Kd.int .i64)) w A0 l0.length l0) (hc0 : l0.length ≤ c0) (hr1 : Kd.C (Kd.int .i64) w A1 l1.length l1) (hc1 : l1.length ≤ c1) (h : spiritlevelref17_Implied.f k l0 l1 = some (r1, r2)) :
  Calls Try.prog 43 #[.slice A0 l0.length c0, .slice A1 l1.length c1] w fun e w' => ∃ v0_ : Value, e = .returned (.tuple #[v0_, .bool r2]) ∧ Kd.R (Kd.int .i64) 3 w' w.heap.size (fun _ => True) v0_ r1 ∧ Below w.heap.size w w' := by
 have HR0 := M_ hr0
 have HC0 := M_ hc0
 clear hr0 hc0
 have HR1 := M_ hr1
 have HC1 := M_ hc1
 clear hr1 hc1
 have HB := M_ (Below.refl w.heap.size w)
 have H : ((some (([] : List Int) : List Int)).bind fun y196 => (if y196.length + l1.length < 17592186044416 then (spiritlevelref17_Implied.l0 k l0 (y196 ++ l1)) else (none))) = some (r1, r2) := h
 clear h
 obtain ⟨y196, hy196⟩ : ∃ y_ : List Int, y_ = (([] : List Int)) := ⟨_, rfl⟩
 replace H : (if y196.length + l1.length < 17592186044416 then (spiritlevelref17_Implied.l0 k l0 (y196 ++ l1)) else (none)) = some (r1, r2) := by first | (rw [hy196]; with_reducible exact H) | (have H2_ := (Option.bind_some _ _).symm.trans H; rw [hy196]; with_reducible exact H2_) | (have H2_ := (Option.bind_some _ _).symm.trans H; with_reducible exact H2_) | with_reducible exact H | (rw [hy196]; exact H) | exact H
 have Ny196 := M_ hy196
 clear hy196
 by_cases c3 : y196.length + l1.length < 17592186044416
 ·rw [if_pos c3] at H
  have LMc3 := M_ c3
  clear c3
  obtain ⟨y199, hy199⟩ : ∃ y_ : List Int, y_ = (y196 ++ l1) := ⟨_, rfl⟩
  replace H : (spiritlevelref17_Implied.l0 k l0 y199) = some (r1, r2) := by first | (rw [hy199]; with_reducible exact H) | (have H2_ := (Option.bind_some _ _).symm.trans H; rw [hy199]; with_reducible exact H2_) | (have H2_ := (Option.bind_some _ _).symm.trans H; with_reducible exact H2_) | with_reducible exact H | (rw [hy199]; exact H) | exact H
  have Ny199 := M_ hy199
  clear hy199
  have H' := M_ H
  clear H
  go_enter Try.func43, Try.ntmps43
  go_wp2_with (first | ((with_reducible refine gate_dst (N := 12) rfl ?_); refine Kd.R_lit (Kd.int .i64) _ 3 ?hg (N := 12) ?hd (xs := ([] : List Int)) (inner := []) (ok := fun _ => True) (okp := fun _ => True) ?hr ?hp (fun _ hk => hk) trivial (Below.refl _ _) (Nat.le_refl _) (by simp) ?_; (case hd => rfl); (case hg => rfl); (case hr => first | (go_simp; done) | (go_simp; rfl)); (case hp => exact (Reps.none _ _)); intro v197 w4 ho5 hb hg_ hnew_; clear hg_ hnew_; (first | rw [← Ny196.out] at ho5 | (simp only [Int.reduceToNat] at ho5; rw [← Ny196.out] at ho5)); have n0_ := M_ (Kd.R_lower ho5 (below_size (by repeat (first | (with_reducible first | exact HB.out | apply b0_ | apply b1_ | apply b2_) | exact HB.out)))); have n1_ := M_ (below_step (by repeat (first | (with_reducible first | exact HB.out | apply b0_ | apply b1_ | apply b2_) | exact HB.out)) hb); clear HB; have HO198 := n0_; have HB := n1_; clear n0_ n1_; clear hb ho5) | ((with_reducible refine gate_builtin (b := .append) (xs := #[.tmp 12, .tmp 13]) rfl ?_); at_builtin; refine Kd.R_append_rows (Kd.int .i64) (w0 := w) w.heap.size rfl (.tmp 12) (.tmp 13) 23 3 (.int .i64 0) 8 rfl Try.underlying23 info3 rfl (by decide) (by omega) v197 y196 l1 _ _ _ (fun _ => True) (fun _ => False) rfl rfl ?aO ?aR (fun _ _ h => h) (fun _ h => h.elim) ?aF ?aB ?aS ?aL ?_; (case aR => repeat (first | exact (Kd.C_below HR1.out HB.out) | (with_reducible refine c0_ ?_ _) | (with_reducible refine c1_ ?_ _) | (with_reducible refine c2_ ?_))); (case aB => exact (by repeat (first | (with_reducible first | exact HB.out | apply b0_ | apply b1_ | apply b2_) | exact HB.out))); (case aF => exact (fun _ _ => trivial)); (case aO => exact (by (with_reducible repeat (first | apply a0_ | apply a1_ | apply a2_)); exact HO198.out)); (case aS => exact (below_size (by repeat (first | (with_reducible first | exact HB.out | apply b0_ | apply b1_ | apply b2_) | exact HB.out)))); (case aL => have := LMc3.out; omega); intro v200 w6 ho hb hg hat; rw [← Ny199.out] at ho; have n0_ := M_ (hb); have n1_ := M_ (ho); clear HB; clear HO198; have HB := n0_; have HO201 := n1_; clear n0_ n1_; clear ho hb hg hat))
  go_loopg [6] k (fun kq v6 w' => ∃ (x6_1 : List Int), Aside0 (spiritlevelref17_Implied.l0 kq l0 x6_1 = some (r1, r2)) ∧ Aside0 (kq ≤ k) ∧ Aside0 (Kd.R (Kd.int .i64) 3 w' w.heap.size (fun _ => True) v6 x6_1) ∧ Aside0 (Below w.heap.size w w'))
  case atStart => exact ⟨(y199), H', ⟨Nat.le_refl _⟩, ⟨by (with_reducible repeat (first | apply a0_ | apply a1_ | apply a2_)); exact HO201.out⟩, ⟨by repeat (first | (with_reducible first | exact HB.out | apply b0_ | apply b1_ | apply b2_) | exact HB.out)⟩⟩
  case round =>
   clear H'
   try clear c1
   try clear p2
   try clear c3
   try clear c4
   obtain ⟨x6_1, HA, HK1, HO_6, HB⟩ := hrel
   cases gk with
   | zero => exact absurd HA.out (by simp [spiritlevelref17_Implied.l0])
   | succ k1 =>
    have H := HA.out
    clear HA
    simp only [spiritlevelref17_Implied.l0] at H
    have H' := M_ H
    clear H
    obtain ⟨Ao7, co7, eo7⟩ := Kd.R_slice HO_6.out
    subst eo7
    go_wp2
    go_loopg [6, 8] k1 (fun kq v6 v8 w' => ∃ (x6_2 : List Int) (x8_2 : Int), v8 = .int .i64 x8_2 ∧ Aside0 (spiritlevelref17_Implied.l1 kq l0 x6_2 (x6_1.length : Int) x8_2 = some (r1, r2)) ∧ Aside0 (kq ≤ k1) ∧ Aside0 (Kd.R (Kd.int .i64) 3 w' w.heap.size (fun _ => True) v6 x6_2) ∧ Aside0 (Below w.heap.size w w'))
    case atStart => exact ⟨(x6_1), (0), (by first | rfl | (simp; done) | (simp [*]; done)), H', ⟨Nat.le_refl _⟩, ⟨by (with_reducible repeat (first | apply a0_ | apply a1_ | apply a2_)); exact HO_6.out⟩, ⟨by repeat (first | (with_reducible first | exact HB.out | apply b0_ | apply b1_ | apply b2_) | exact HB.out)⟩⟩
    case round =>
     clear H'
     try clear c1
     try clear p2
     try clear c3
     try clear c4
     try clear p2
     obtain ⟨x6_2, x8_2, rfl, HA, HK2, HO_6, HB⟩ := hrel
     cases gk with
     | zero => exact absurd HA.out (by simp [spiritlevelref17_Implied.l1])
     | succ k2 =>
      have H := HA.out
      clear HA
      simp only [spiritlevelref17_Implied.l1] at H
      by_cases c8 : x8_2 < (l0.length : Int)
      ·rw [if_pos c8] at H
       have c8b0 : decide (x8_2 < (l0.length : Int)) = true := decide_eq_true c8
       clear c8
       have H' := M_ H
       clear H
       go_wp2
       go_loopg [9, 10, 11] k2 (fun kq v9 v10 v11 w' => ∃ (x9_3 : List Int) (x10_3 : Bool) (x11_3 : Int), v10 = .bool x10_3 ∧ v11 = .int .i64 x11_3 ∧ Aside0 (spiritlevelref17_Implied.l2 kq l0 x6_2 (x6_1.length : Int) x8_2 x9_3 x10_3 x11_3 = some (r1, r2)) ∧ Aside0 (kq ≤ k2) ∧ Aside0 (Kd.R (Kd.int .i64) 3 w' w.heap.size (fun k_ => some k_ ≠ (v9 : Value).ownBlock) u6 x6_2) ∧ Aside0 (Kd.R (Kd.int .i64) 3 w' w.heap.size (fun k_ => some k_ ≠ (u6 : Value).ownBlock) v9 x9_3) ∧ Aside0 (Below w.heap.size w w'))
       case atStart => exact ⟨(([] : List Int)), (false), (0), (by first | rfl | (simp; done) | (simp [*]; done)), (by first | rfl | (simp; done) | (simp [*]; done)), H', ⟨Nat.le_refl _⟩, ⟨by (with_reducible repeat (first | apply a0_ | apply a1_ | apply a2_)); exact Kd.R_mono HO_6.out (fun _ hk => (by simp [Value.ownBlock]))⟩, ⟨by first | exact Kd.R_nil _ _ _ _ _ | exact Kd.N_nil _ _ _ _ _ | exact Kd.V_nil _ _ _ _ _ | exact Kd.Q_nil _ _ _ _ _ | exact Kd.S_nil _ _ _ _ _⟩, ⟨by repeat (first | (with_reducible first | exact HB.out | apply b0_ | apply b1_ | apply b2_) | exact HB.out)⟩⟩
       case round =>
        clear H'
        try clear c1
        try clear p2
        try clear c3
        try clear c4
        try clear c8
        try clear c8b0
        try clear p2
        obtain ⟨x9_3, x10_3, x11_3, rfl, rfl, HA, HK3, HO_6, HO_9, HB⟩ := hrel
        cases gk with
        | zero => exact absurd HA.out (by simp [spiritlevelref17_Implied.l2])
        | succ k3 =>
         have H := HA.out
         clear HA
         simp only [spiritlevelref17_Implied.l2] at H
         by_cases c9 : 0 ≤ x8_2
         ·rw [if_pos c9] at H
          have c9b0 : decide (0 ≤ x8_2) = true := decide_eq_true c9
          clear c9
          by_cases c10 : x8_2 < (l0.length : Int)
          ·rw [if_pos c10] at H
           have c10b0 : decide (x8_2 < (l0.length : Int)) = true := decide_eq_true c10
           clear c10
           by_cases c11 : x11_3 < ((rd_L1 l0 x8_2).length : Int)
           ·rw [if_pos c11] at H
            have c11b0 : decide (x11_3 < ((rd_L1 l0 x8_2).length : Int)) = true := decide_eq_true c11
            clear c11
            have HC12 := M_ H
            clear H
            have p202 : 0 ≤ (x8_2 : Int) := of_decide_eq_true (by first | (with_reducible assumption) | assumption)
            have q202 : x8_2 < (l0.length : Int) := of_decide_eq_true (by first | (with_reducible assumption) | assumption)
            obtain ⟨ad202, A202_0, c202_0, e202, hx202_0, hl202_0, hi202_0⟩ := at_L1 HR0.out x8_2 p202 q202
            cases e202
            replace hx202_0 := (HB.out.cell (World.block_lt_of_cell? w _ hx202_0)).trans hx202_0
            have HR202_0 := M_ hi202_0
            have HC202_0 := M_ hl202_0
            clear hi202_0 hl202_0
            replace p202 := eq_true p202
            replace q202 := eq_true q202
            go_upto_region 11 with (fail)
            go_cut [10] (fun v10 wc => ∃ (kq : Nat) (x10_11 : Bool), v10 = .bool x10_11 ∧ Aside0 (spiritlevelref17_Implied.j3 kq l0 x6_2 (x6_1.length : Int) x8_2 x9_3 x10_11 x11_3 = some (r1, r2)) ∧ Aside0 (kq ≤ k3) ∧ Aside0 (Kd.R (Kd.int .i64) 3 wc w.heap.size (fun k_ => some k_ ≠ (u9 : Value).ownBlock) u6 x6_2) ∧ Aside0 (Kd.R (Kd.int .i64) 3 wc w.heap.size (fun k_ => some k_ ≠ (u6 : Value).ownBlock) u9 x9_3) ∧ Aside0 (Below w.heap.size w wc))
            case first =>
             have H := HC12.out
             clear HC12
             by_cases c13 : x10_3 = true
             ·subst c13
              have H1 : (spiritlevelref17_Implied.j3 k3 l0 x6_2 (x6_1.length : Int) x8_2 x9_3 true x11_3) = some (r1, r2) := by rw [if_pos rfl] at H; exact H
              clear H
              have H := H1
              clear H1
              have H' := M_ H
              clear H
              go_wp2
              go_meet
              case rel => exact ⟨_, (true), (by first | rfl | (simp; done) | (simp [*]; done)), H', ⟨by have := HK1.out; have := HK2.out; have := HK3.out; first | omega | exact Nat.le_refl _⟩, ⟨by (with_reducible repeat (first | apply a0_ | apply a1_ | apply a2_)); exact HO_6.out⟩, ⟨by (with_reducible repeat (first | apply a0_ | apply a1_ | apply a2_)); exact HO_9.out⟩, ⟨by repeat (first | (with_reducible first | exact HB.out | apply b0_ | apply b1_ | apply b2_) | exact HB.out)⟩⟩
             ·replace c13 := Bool.eq_false_iff.mpr c13
              subst c13
              have H1 : (if 0 ≤ x11_3 then ((spiritlevelref13_Has.f k3 x6_2 (rd (rd_L1 l0 x8_2) x11_3)).bind fun t205 => (spiritlevelref17_Implied.j3 k3 l0 x6_2 (x6_1.length : Int) x8_2 x9_3 t205 x11_3)) else (none)) = some (r1, r2) := by rw [if_neg (show ¬ (false = true) by decide)] at H; exact H
              clear H
              have H := H1
              clear H1
              by_cases c14 : 0 ≤ x11_3
              ·rw [if_pos c14] at H
               have c14b0 : decide (0 ≤ x11_3) = true := decide_eq_true c14
               clear c14
               (first | rw [c14b0] | (simp only [i64_w, i32_w]; rw [c14b0]) | skip)
               replace H := Option.bind_eq_some_iff.mp H
               obtain ⟨t205, A150, H⟩ := H
               replace H : (spiritlevelref17_Implied.j3 k3 l0 x6_2 (x6_1.length : Int) x8_2 x9_3 t205 x11_3) = some (r1, r2) := H
               have A15 := M_ A150
               clear A150
               have H' := M_ H
               clear H
               have p203 : 0 ≤ (x8_2 : Int) := of_decide_eq_true (by first | (with_reducible assumption) | assumption)
               have q203 : x8_2 < (l0.length : Int) := of_decide_eq_true (by first | (with_reducible assumption) | assumption)
               obtain ⟨ad203, A203_0, c203_0, e203, hx203_0, hl203_0, hi203_0⟩ := at_L1 HR0.out x8_2 p203 q203
               obtain rfl : ad202 = ad203 := (by injection e203)
               replace hx203_0 := (HB.out.cell (World.block_lt_of_cell? w _ hx203_0)).trans hx203_0
               (try (obtain ⟨rfl, rfl⟩ : A203_0 = A202_0 ∧ c203_0 = c202_0 := by have e_ := hx203_0.symm.trans hx202_0; simp only [Option.some.injEq, Value.slice.injEq] at e_; exact ⟨e_.1, e_.2.2⟩))
               have HR203_0 := M_ hi203_0
               have HC203_0 := M_ hl203_0
               clear hi203_0 hl203_0
               replace p203 := eq_true p203
               replace q203 := eq_true q203
               have p204 : 0 ≤ (x11_3 : Int) := of_decide_eq_true (by first | (with_reducible assumption) | assumption)
               have q204 : x11_3 < ((rd_L1 l0 x8_2).length : Int) := of_decide_eq_true (by first | (with_reducible assumption) | assumption)
               obtain ⟨ad204, e204, hx204_0⟩ := Kd.at_int HR203_0.out x11_3 p204 q204
               cases e204
               replace hx204_0 := (HB.out.cell (World.block_lt_of_cell? w _ hx204_0)).trans hx204_0
               replace p204 := eq_true p204
               replace q204 := eq_true q204
               obtain ⟨Ao16, co16, eo16⟩ := Kd.R_slice HO_6.out
               subst eo16
               go_wp2_with (first | (go_at_call 38; (with_reducible refine (spiritlevelref13_Has.calls k3 _ _ x6_2 (rd (rd_L1 l0 x8_2) x11_3) t205 _ ?side1 ?side2 A15.out).mono ?_); (case side1 => repeat (first | exact (Kd.R_reads' HO_6.out).2.2 | (with_reducible refine c0_ ?_ _) | (with_reducible refine c1_ ?_ _) | (with_reducible refine c2_ ?_))); (case side2 => exact (Kd.R_reads' HO_6.out).2.1); rintro e w' ⟨rfl, ⟨nd, rfl⟩⟩))
               go_meet
               case rel => exact ⟨_, (t205), (by first | rfl | (simp; done) | (simp [*]; done)), H', ⟨by have := HK1.out; have := HK2.out; have := HK3.out; first | omega | exact Nat.le_refl _⟩, ⟨by (with_reducible repeat (first | apply a0_ | apply a1_ | apply a2_)); exact HO_6.out⟩, ⟨by (with_reducible repeat (first | apply a0_ | apply a1_ | apply a2_)); exact HO_9.out⟩, ⟨by repeat (first | (with_reducible first | exact HB.out | apply b0_ | apply b1_ | apply b2_) | exact HB.out)⟩⟩
              ·rw [if_neg c14] at H
               exact absurd H (by simp)
            case rest =>
             clear HC12
             try clear c1
             try clear c2
             try clear p2
             try clear q2
             try clear hx2
             try clear c3
             try clear c4
             try clear c8
             try clear c8b0
             try clear c9
             try clear c9b0
             try clear c10
             try clear c10b0
             try clear c11
             try clear c11b0
             try clear c13
             try clear c14
             try clear c14b0
             try clear hx202_0
             try clear hx203_0
             try clear hx204_0
             try clear p2
             try clear p202
             try clear p203
             try clear p204
             try clear q202
             try clear q203
             try clear q204
             obtain ⟨kq, x10_11, rfl, HA, HJ11, HO_6, HO_9, HB⟩ := hcut
             cases kq with
             | zero => exact absurd HA.out (by simp [spiritlevelref17_Implied.j3])
             | succ kj11 =>
              have H := HA.out
              clear HA
              simp only [spiritlevelref17_Implied.j3] at H
              by_cases c17 : 0 ≤ x8_2
              ·rw [if_pos c17] at H
               have c17b0 : decide (0 ≤ x8_2) = true := decide_eq_true c17
               clear c17
               by_cases c18 : x8_2 < (l0.length : Int)
               ·rw [if_pos c18] at H
                have c18b0 : decide (x8_2 < (l0.length : Int)) = true := decide_eq_true c18
                clear c18
                by_cases c19 : 0 ≤ x11_3
                ·rw [if_pos c19] at H
                 have c19b0 : decide (0 ≤ x11_3) = true := decide_eq_true c19
                 clear c19
                 by_cases c20 : x11_3 < ((rd_L1 l0 x8_2).length : Int)
                 ·rw [if_pos c20] at H
                  have c20b0 : decide (x11_3 < ((rd_L1 l0 x8_2).length : Int)) = true := decide_eq_true c20
                  clear c20
                  replace H := Option.bind_eq_some_iff.mp H
                  obtain ⟨t208, A210, H⟩ := H
                  replace H : ((spiritlevelref13_Has.f kj11 x6_2 t208).bind fun t209 => (if t209 = true then (spiritlevelref17_Implied.l2 kj11 l0 x6_2 (x6_1.length : Int) x8_2 x9_3 x10_11 (wrap64 (x11_3 + 1))) else (if x9_3.length < 17592186044416 then (spiritlevelref17_Implied.l2 kj11 l0 x6_2 (x6_1.length : Int) x8_2 (x9_3 ++ [rd (rd_L1 l0 x8_2) x11_3]) x10_11 (wrap64 (x11_3 + 1))) else (none)))) = some (r1, r2) := H
                  have A21 := M_ A210
                  clear A210
                  replace H := Option.bind_eq_some_iff.mp H
                  obtain ⟨t209, A220, H⟩ := H
                  replace H : (if t209 = true then (spiritlevelref17_Implied.l2 kj11 l0 x6_2 (x6_1.length : Int) x8_2 x9_3 x10_11 (wrap64 (x11_3 + 1))) else (if x9_3.length < 17592186044416 then (spiritlevelref17_Implied.l2 kj11 l0 x6_2 (x6_1.length : Int) x8_2 (x9_3 ++ [rd (rd_L1 l0 x8_2) x11_3]) x10_11 (wrap64 (x11_3 + 1))) else (none))) = some (r1, r2) := H
                  have A22 := M_ A220
                  clear A220
                  by_cases c23 : t209 = true
                  ·subst c23
                   have H1 : (spiritlevelref17_Implied.l2 kj11 l0 x6_2 (x6_1.length : Int) x8_2 x9_3 x10_11 (wrap64 (x11_3 + 1))) = some (r1, r2) := by rw [if_pos rfl] at H; exact H
                   clear H
                   have H := H1
                   clear H1
                   have H' := M_ H
                   clear H
                   have p206 : 0 ≤ (x8_2 : Int) := of_decide_eq_true (by first | (with_reducible assumption) | assumption)
                   have q206 : x8_2 < (l0.length : Int) := of_decide_eq_true (by first | (with_reducible assumption) | assumption)
                   obtain ⟨ad206, A206_0, c206_0, e206, hx206_0, hl206_0, hi206_0⟩ := at_L1 HR0.out x8_2 p206 q206
                   obtain rfl : ad202 = ad206 := (by injection e206)
                   replace hx206_0 := (HB.out.cell (World.block_lt_of_cell? w _ hx206_0)).trans hx206_0
                   have HR206_0 := M_ hi206_0
                   have HC206_0 := M_ hl206_0
                   clear hi206_0 hl206_0
                   replace p206 := eq_true p206
                   replace q206 := eq_true q206
                   have p207 : 0 ≤ (x11_3 : Int) := of_decide_eq_true (by first | (with_reducible assumption) | assumption)
                   have q207 : x11_3 < ((rd_L1 l0 x8_2).length : Int) := of_decide_eq_true (by first | (with_reducible assumption) | assumption)
                   obtain ⟨ad207, e207, hx207_0⟩ := Kd.at_int HR206_0.out x11_3 p207 q207
                   cases e207
                   replace hx207_0 := (HB.out.cell (World.block_lt_of_cell? w _ hx207_0)).trans hx207_0
                   replace p207 := eq_true p207
                   replace q207 := eq_true q207
                   go_wp2_with (first | ((with_reducible refine gate_callee (f := 18) rfl ?_); refine goesL_ (some 52) rfl rfl Try.func18 (by kernel_rfl) rfl #[.int .i64 (rd (rd_L1 l0 x8_2) x11_3)] rfl (by (try simp only [List.map_toArray, List.map_cons, List.map_nil]); first | done | rfl | (simp only [List.length_drop, List.length_take]; rfl)) ?_; (with_reducible refine (spiritlevelref13_Not.calls (rd (rd_L1 l0 x8_2) x11_3) t208 _ A21.out).mono ?_); rintro e w' ⟨rfl, ⟨nd, rfl⟩⟩; refine ⟨_, rfl, ?_⟩; obtain ⟨Ao24, co24, eo24⟩ := Kd.R_slice HO_6.out; subst eo24) | ((with_reducible refine gate_callee (f := 38) rfl ?_); refine goesL_ (some 53) rfl rfl Try.func38 (by kernel_rfl) rfl #[.slice Ao24 x6_2.length co24, .int .i64 t208] rfl (by (try simp only [List.map_toArray, List.map_cons, List.map_nil]); first | done | rfl | (simp only [List.length_drop, List.length_take]; rfl)) ?_; (with_reducible refine (spiritlevelref13_Has.calls kj11 _ _ x6_2 t208 true _ ?side1 ?side2 A22.out).mono ?_); (case side1 => repeat (first | exact (Kd.R_reads' HO_6.out).2.2 | (with_reducible refine c0_ ?_ _) | (with_reducible refine c1_ ?_ _) | (with_reducible refine c2_ ?_))); (case side2 => exact (Kd.R_reads' HO_6.out).2.1); rintro e w' ⟨rfl, ⟨nd, rfl⟩⟩; refine ⟨_, rfl, ?_⟩))
                   go_roundg kj11
                   case measure => have := HK1.out; have := HK2.out; have := HK3.out; have := HJ11.out; omega
                   case rel => exact ⟨(x9_3), (x10_11), (wrap64 (x11_3 + 1)), (by first | rfl | (simp; done) | (simp [*]; done)), (by first | rfl | (simp; done) | (simp [*]; done)), H', ⟨by have := HK1.out; have := HK2.out; have := HK3.out; have := HJ11.out; omega⟩, ⟨by (with_reducible repeat (first | apply a0_ | apply a1_ | apply a2_)); exact HO_6.out⟩, ⟨by (with_reducible repeat (first | apply a0_ | apply a1_ | apply a2_)); exact HO_9.out⟩, ⟨by repeat (first | (with_reducible first | exact HB.out | apply b0_ | apply b1_ | apply b2_) | exact HB.out)⟩⟩
                  ·replace c23 := Bool.eq_false_iff.mpr c23
                   subst c23
                   have H1 : (if x9_3.length < 17592186044416 then (spiritlevelref17_Implied.l2 kj11 l0 x6_2 (x6_1.length : Int) x8_2 (x9_3 ++ [rd (rd_L1 l0 x8_2) x11_3]) x10_11 (wrap64 (x11_3 + 1))) else (none)) = some (r1, r2) := by rw [if_neg (show ¬ (false = true) by decide)] at H; exact H
                   clear H
                   have H := H1
                   clear H1
                   by_cases c25 : x9_3.length < 17592186044416
                   ·rw [if_pos c25] at H
                    have LMc25 := M_ c25
                    clear c25
                    obtain ⟨y212, hy212⟩ : ∃ y_ : List Int, y_ = (x9_3 ++ [rd (rd_L1 l0 x8_2) x11_3]) := ⟨_, rfl⟩
                    replace H : (spiritlevelref17_Implied.l2 kj11 l0 x6_2 (x6_1.length : Int) x8_2 y212 x10_11 (wrap64 (x11_3 + 1))) = some (r1, r2) := by first | (rw [hy212]; with_reducible exact H) | (have H2_ := (Option.bind_some _ _).symm.trans H; rw [hy212]; with_reducible exact H2_) | (have H2_ := (Option.bind_some _ _).symm.trans H; with_reducible exact H2_) | with_reducible exact H | (rw [hy212]; exact H) | exact H
                    have Ny212 := M_ hy212
                    clear hy212
                    have H' := M_ H
                    clear H
                    have p206 : 0 ≤ (x8_2 : Int) := of_decide_eq_true (by first | (with_reducible assumption) | assumption)
                    have q206 : x8_2 < (l0.length : Int) := of_decide_eq_true (by first | (with_reducible assumption) | assumption)
                    obtain ⟨ad206, A206_0, c206_0, e206, hx206_0, hl206_0, hi206_0⟩ := at_L1 HR0.out x8_2 p206 q206
                    obtain rfl : ad202 = ad206 := (by injection e206)
                    replace hx206_0 := (HB.out.cell (World.block_lt_of_cell? w _ hx206_0)).trans hx206_0
                    (try (obtain ⟨rfl, rfl⟩ : A206_0 = A206_0 ∧ c206_0 = c206_0 := by have e_ := hx206_0.symm.trans hx206_0; simp only [Option.some.injEq, Value.slice.injEq] at e_; exact ⟨e_.1, e_.2.2⟩))
                    have HR206_0 := M_ hi206_0
                    have HC206_0 := M_ hl206_0
                    clear hi206_0 hl206_0
                    replace p206 := eq_true p206
                    replace q206 := eq_true q206
                    have p207 : 0 ≤ (x11_3 : Int) := of_decide_eq_true (by first | (with_reducible assumption) | assumption)
                    have q207 : x11_3 < ((rd_L1 l0 x8_2).length : Int) := of_decide_eq_true (by first | (with_reducible assumption) | assumption)
                    obtain ⟨ad207, e207, hx207_0⟩ := Kd.at_int HR206_0.out x11_3 p207 q207
                    cases e207
                    replace hx207_0 := (HB.out.cell (World.block_lt_of_cell? w _ hx207_0)).trans hx207_0
                    replace p207 := eq_true p207
                    replace q207 := eq_true q207
                    go_wp2_with (first | ((with_reducible refine gate_callee (f := 18) rfl ?_); refine goesL_ (some 52) rfl rfl Try.func18 (by kernel_rfl) rfl #[.int .i64 (rd (rd_L1 l0 x8_2) x11_3)] rfl (by (try simp only [List.map_toArray, List.map_cons, List.map_nil]); first | done | rfl | (simp only [List.length_drop, List.length_take]; rfl)) ?_; (with_reducible refine (spiritlevelref13_Not.calls (rd (rd_L1 l0 x8_2) x11_3) t208 _ A21.out).mono ?_); rintro e w' ⟨rfl, ⟨nd, rfl⟩⟩; refine ⟨_, rfl, ?_⟩; obtain ⟨Ao26, co26, eo26⟩ := Kd.R_slice HO_6.out; subst eo26) | ((with_reducible refine gate_callee (f := 38) rfl ?_); refine goesL_ (some 53) rfl rfl Try.func38 (by kernel_rfl) rfl #[.slice Ao26 x6_2.length co26, .int .i64 t208] rfl (by (try simp only [List.map_toArray, List.map_cons, List.map_nil]); first | done | rfl | (simp only [List.length_drop, List.length_take]; rfl)) ?_; (with_reducible refine (spiritlevelref13_Has.calls kj11 _ _ x6_2 t208 false _ ?side1 ?side2 A22.out).mono ?_); (case side1 => repeat (first | exact (Kd.R_reads' HO_6.out).2.2 | (with_reducible refine c0_ ?_ _) | (with_reducible refine c1_ ?_ _) | (with_reducible refine c2_ ?_))); (case side2 => exact (Kd.R_reads' HO_6.out).2.1); rintro e w' ⟨rfl, ⟨nd, rfl⟩⟩; refine ⟨_, rfl, ?_⟩; have p210 : 0 ≤ (x8_2 : Int) := of_decide_eq_true (by first | (with_reducible assumption) | assumption); have q210 : x8_2 < (l0.length : Int) := of_decide_eq_true (by first | (with_reducible assumption) | assumption); obtain ⟨ad210, A210_0, c210_0, e210, hx210_0, hl210_0, hi210_0⟩ := at_L1 HR0.out x8_2 p210 q210; obtain rfl : ad202 = ad210 := (by injection e210); replace hx210_0 := (HB.out.cell (World.block_lt_of_cell? w _ hx210_0)).trans hx210_0; have HR210_0 := M_ hi210_0; have HC210_0 := M_ hl210_0; clear hi210_0 hl210_0; replace p210 := eq_true p210; replace q210 := eq_true q210; have ea_ := Option.some.inj (hx206_0.symm.trans hx210_0); injection ea_ with ea_ en_ ec_; subst ea_; subst ec_; clear en_; have p211 : 0 ≤ (x11_3 : Int) := of_decide_eq_true (by first | (with_reducible assumption) | assumption); have q211 : x11_3 < ((rd_L1 l0 x8_2).length : Int) := of_decide_eq_true (by first | (with_reducible assumption) | assumption); obtain ⟨ad211, e211, hx211_0⟩ := Kd.at_int HR210_0.out x11_3 p211 q211; cases e211; replace hx211_0 := (HB.out.cell (World.block_lt_of_cell? w _ hx211_0)).trans hx211_0; replace p211 := eq_true p211; replace q211 := eq_true q211) | ((with_reducible refine gate_builtin (b := .append) (xs := #[.tmp 55, .tmp 63]) rfl ?_); at_builtin; refine Kd.R_append (Kd.int .i64) (w0 := w) w.heap.size rfl (.tmp 55) (.tmp 63) 23 3 (.int .i64 0) 8 rfl Try.underlying23 info3 rfl (by decide) (by omega) u9 x9_3 (rd (rd_L1 l0 x8_2) x11_3) [.int .i64 (rd (rd_L1 l0 x8_2) x11_3)] (fun k_ => some k_ ≠ (.slice Ao26 x6_2.length co26 : Value).ownBlock) (fun _ => False) rfl rfl ?aP (fun _ hk => hk.elim) ?aF ?aO ?aB ?aS ?aL ?_; (case aP => exact rfl); (case aB => exact (by repeat (first | (with_reducible first | exact HB.out | apply b0_ | apply b1_ | apply b2_) | exact HB.out))); (case aF => exact (fun k_ hk => Kd.fresh' (Kd.R_lt (by (with_reducible repeat (first | apply a0_ | apply a1_ | apply a2_)); exact HO_6.out)) k_ hk)); (case aO => exact (by (with_reducible repeat (first | apply a0_ | apply a1_ | apply a2_)); exact HO_9.out)); (case aS => exact (below_size (by repeat (first | (with_reducible first | exact HB.out | apply b0_ | apply b1_ | apply b2_) | exact HB.out)))); (case aL => have := LMc25.out; omega); intro v213 w27 ho hb hg hat; rw [← Ny212.out] at ho; have n0_ := M_ (Kd.R_after (ok := (fun _ => True)) (by (with_reducible repeat (first | apply a0_ | apply a1_ | apply a2_)); exact Kd.R_mono HO_6.out (fun _ hk => ⟨trivial, hk⟩)) hg hat); have n1_ := M_ (hb); have n2_ := M_ (ho); clear HO_6; clear HB; clear HO_9; have HO_6 := n0_; have HB := n1_; have HO214 := n2_; clear n0_ n1_ n2_; clear ho hb hg hat))
                    go_roundg kj11
                    case measure => have := HK1.out; have := HK2.out; have := HK3.out; have := HJ11.out; omega
                    case rel => exact ⟨(y212), (x10_11), (wrap64 (x11_3 + 1)), (by first | rfl | (simp; done) | (simp [*]; done)), (by first | rfl | (simp; done) | (simp [*]; done)), H', ⟨by have := HK1.out; have := HK2.out; have := HK3.out; have := HJ11.out; omega⟩, ⟨by (with_reducible repeat (first | apply a0_ | apply a1_ | apply a2_)); exact Kd.R_mono HO_6.out (fun _ hk => hk.2)⟩, ⟨by (with_reducible repeat (first | apply a0_ | apply a1_ | apply a2_)); exact HO214.out⟩, ⟨by repeat (first | (with_reducible first | exact HB.out | apply b0_ | apply b1_ | apply b2_) | exact HB.out)⟩⟩
                   ·rw [if_neg c25] at H
                    exact absurd H (by simp)
                 ·rw [if_neg c20] at H
                  exact absurd H (by simp)
                ·rw [if_neg c19] at H
                 exact absurd H (by simp)
               ·rw [if_neg c18] at H
                exact absurd H (by simp)
              ·rw [if_neg c17] at H
               exact absurd H (by simp)
           ·rw [if_neg c11] at H
            have c11b0 : decide (x11_3 < ((rd_L1 l0 x8_2).length : Int)) = false := decide_eq_false c11
            clear c11
            by_cases c28 : (x9_3.length : Int) = 0
            ·rw [if_pos c28] at H
             have c28b0 : ((x9_3.length : Int) == 0) = true := beq_iff_eq.mpr c28
             have c28b1 : ((x9_3.length : Int) != 0) = false := bne_eq_false_iff_eq.mpr c28
             clear c28
             simp only [Option.some.injEq, Prod.mk.injEq] at H
             obtain ⟨rfl, rfl⟩ := H
             have p202 : 0 ≤ (x8_2 : Int) := of_decide_eq_true (by first | (with_reducible assumption) | assumption)
             have q202 : x8_2 < (l0.length : Int) := of_decide_eq_true (by first | (with_reducible assumption) | assumption)
             obtain ⟨ad202, A202_0, c202_0, e202, hx202_0, hl202_0, hi202_0⟩ := at_L1 HR0.out x8_2 p202 q202
             cases e202
             replace hx202_0 := (HB.out.cell (World.block_lt_of_cell? w _ hx202_0)).trans hx202_0
             have HR202_0 := M_ hi202_0
             have HC202_0 := M_ hl202_0
             clear hi202_0 hl202_0
             replace p202 := eq_true p202
             replace q202 := eq_true q202
             obtain ⟨Ao29, co29, eo29⟩ := Kd.R_slice HO_9.out
             subst eo29
             go_wp2
             go_ret2
             exact ⟨_, by first | rfl | (simp [errW_none, errW_some] <;> rfl) | (simp [*, errW_none, errW_some] <;> rfl), by (with_reducible repeat (first | apply a0_ | apply a1_ | apply a2_)); exact Kd.R_mono HO_6.out (fun _ hk => trivial), by repeat (first | (with_reducible first | exact HB.out | apply b0_ | apply b1_ | apply b2_) | exact HB.out)⟩
            ·rw [if_neg c28] at H
             have c28b0 : ((x9_3.length : Int) == 0) = false := beq_eq_false_iff_ne.mpr c28
             have c28b1 : ((x9_3.length : Int) != 0) = true := bne_iff_ne.mpr c28
             have c28b2 : ¬ (x9_3 = []) := fun h_ => c28 (by rw [h_]; rfl)
             by_cases c30 : (x9_3.length : Int) = 1
             ·rw [if_pos c30] at H
              have c30b0 : ((x9_3.length : Int) == 1) = true := beq_iff_eq.mpr c30
              have c30b1 : ((x9_3.length : Int) != 1) = false := bne_eq_false_iff_eq.mpr c30
              clear c30
              by_cases c31 : x10_3 = true
              ·subst c31
               have H1 : (spiritlevelref17_Implied.l1 k3 l0 x6_2 (x6_1.length : Int) (wrap64 (x8_2 + 1))) = some (r1, r2) := by rw [if_pos rfl] at H; exact H
               clear H
               have H := H1
               clear H1
               have H' := M_ H
               clear H
               have p202 : 0 ≤ (x8_2 : Int) := of_decide_eq_true (by first | (with_reducible assumption) | assumption)
               have q202 : x8_2 < (l0.length : Int) := of_decide_eq_true (by first | (with_reducible assumption) | assumption)
               obtain ⟨ad202, A202_0, c202_0, e202, hx202_0, hl202_0, hi202_0⟩ := at_L1 HR0.out x8_2 p202 q202
               cases e202
               replace hx202_0 := (HB.out.cell (World.block_lt_of_cell? w _ hx202_0)).trans hx202_0
               (try (obtain ⟨rfl, rfl⟩ : A202_0 = A202_0 ∧ c202_0 = c202_0 := by have e_ := hx202_0.symm.trans hx202_0; simp only [Option.some.injEq, Value.slice.injEq] at e_; exact ⟨e_.1, e_.2.2⟩))
               have HR202_0 := M_ hi202_0
               have HC202_0 := M_ hl202_0
               clear hi202_0 hl202_0
               replace p202 := eq_true p202
               replace q202 := eq_true q202
               obtain ⟨Ao32, co32, eo32⟩ := Kd.R_slice HO_9.out
               subst eo32
               go_wp2
               go_roundg k3
               case measure => have := HK1.out; have := HK2.out; have := HK3.out; omega
               case rel => exact ⟨(x6_2), (wrap64 (x8_2 + 1)), (by first | rfl | (simp; done) | (simp [*]; done)), H', ⟨by have := HK1.out; have := HK2.out; have := HK3.out; omega⟩, ⟨by (with_reducible repeat (first | apply a0_ | apply a1_ | apply a2_)); exact Kd.R_mono HO_6.out (fun _ hk => trivial)⟩, ⟨by repeat (first | (with_reducible first | exact HB.out | apply b0_ | apply b1_ | apply b2_) | exact HB.out)⟩⟩
              ·replace c31 := Bool.eq_false_iff.mpr c31
               subst c31
               have H1 : (if 0 < (x9_3.length : Int) then (if x6_2.length < 17592186044416 then (spiritlevelref17_Implied.l1 k3 l0 (x6_2 ++ [rd x9_3 0]) (x6_1.length : Int) (wrap64 (x8_2 + 1))) else (none)) else (none)) = some (r1, r2) := by rw [if_neg (show ¬ (false = true) by decide)] at H; exact H
               clear H
               have H := H1
               clear H1
               by_cases c33 : 0 < (x9_3.length : Int)
               ·rw [if_pos c33] at H
                have c33b0 : decide (0 < (x9_3.length : Int)) = true := decide_eq_true c33
                have c33b1 : decide (0 < x9_3.length) = true := decide_eq_true (by omega)
                clear c33
                by_cases c34 : x6_2.length < 17592186044416
                ·rw [if_pos c34] at H
                 have LMc34 := M_ c34
                 clear c34
                 obtain ⟨y216, hy216⟩ : ∃ y_ : List Int, y_ = (x6_2 ++ [rd x9_3 0]) := ⟨_, rfl⟩
                 replace H : (spiritlevelref17_Implied.l1 k3 l0 y216 (x6_1.length : Int) (wrap64 (x8_2 + 1))) = some (r1, r2) := by first | (rw [hy216]; with_reducible exact H) | (have H2_ := (Option.bind_some _ _).symm.trans H; rw [hy216]; with_reducible exact H2_) | (have H2_ := (Option.bind_some _ _).symm.trans H; with_reducible exact H2_) | with_reducible exact H | (rw [hy216]; exact H) | exact H
                 have Ny216 := M_ hy216
                 clear hy216
                 have H' := M_ H
                 clear H
                 have p202 : 0 ≤ (x8_2 : Int) := of_decide_eq_true (by first | (with_reducible assumption) | assumption)
                 have q202 : x8_2 < (l0.length : Int) := of_decide_eq_true (by first | (with_reducible assumption) | assumption)
                 obtain ⟨ad202, A202_0, c202_0, e202, hx202_0, hl202_0, hi202_0⟩ := at_L1 HR0.out x8_2 p202 q202
                 cases e202
                 replace hx202_0 := (HB.out.cell (World.block_lt_of_cell? w _ hx202_0)).trans hx202_0
                 have HR202_0 := M_ hi202_0
                 have HC202_0 := M_ hl202_0
                 clear hi202_0 hl202_0
                 replace p202 := eq_true p202
                 replace q202 := eq_true q202
                 obtain ⟨Ao35, co35, eo35⟩ := Kd.R_slice HO_9.out
                 subst eo35
                 have p215 : 0 ≤ (0 : Int) := (by omega)
                 have q215 : 0 < (x9_3.length : Int) := of_decide_eq_true (by first | (with_reducible assumption) | assumption)
                 obtain ⟨ad215, e215, hx215_0⟩ := Kd.at_int (Kd.R_reads' HO_9.out).2.2 0 p215 q215
                 cases e215
                 have qi215 : (0 < x9_3.length) = True := eq_true (by omega)
                 (try rw [show ((0 : Int)).toNat = 0 from rfl] at hx215_0)
                 (try rw [Addr.add_zero'] at hx215_0)
                 replace p215 := eq_true p215
                 replace q215 := eq_true q215
                 go_wp2_with (first | ((with_reducible refine gate_builtin (b := .append) (xs := #[.tmp 76, .tmp 80]) rfl ?_); at_builtin; refine Kd.R_append (Kd.int .i64) (w0 := w) w.heap.size rfl (.tmp 76) (.tmp 80) 23 3 (.int .i64 0) 8 rfl Try.underlying23 info3 rfl (by decide) (by omega) u6 x6_2 (rd x9_3 0) [.int .i64 (rd x9_3 0)] (fun k_ => some k_ ≠ (.slice (some ad215) x9_3.length co35 : Value).ownBlock) (fun _ => False) rfl rfl ?aP (fun _ hk => hk.elim) ?aF ?aO ?aB ?aS ?aL ?_; (case aP => exact rfl); (case aB => exact (by repeat (first | (with_reducible first | exact HB.out | apply b0_ | apply b1_ | apply b2_) | exact HB.out))); (case aF => exact (fun k_ hk => Kd.fresh' (Kd.R_lt (by (with_reducible repeat (first | apply a0_ | apply a1_ | apply a2_)); exact HO_9.out)) k_ hk)); (case aO => exact (by (with_reducible repeat (first | apply a0_ | apply a1_ | apply a2_)); exact HO_6.out)); (case aS => exact (below_size (by repeat (first | (with_reducible first | exact HB.out | apply b0_ | apply b1_ | apply b2_) | exact HB.out)))); (case aL => have := LMc34.out; omega); intro v217 w36 ho hb hg hat; rw [← Ny216.out] at ho; have n0_ := M_ (Kd.R_after (ok := (fun _ => True)) (by (with_reducible repeat (first | apply a0_ | apply a1_ | apply a2_)); exact Kd.R_mono HO_9.out (fun _ hk => ⟨trivial, hk⟩)) hg hat); have n1_ := M_ (hb); have n2_ := M_ (ho); clear HO_9; clear HB; clear HO_6; have HO_9 := n0_; have HB := n1_; have HO218 := n2_; clear n0_ n1_ n2_; clear ho hb hg hat))
                 go_roundg k3
                 case measure => have := HK1.out; have := HK2.out; have := HK3.out; omega
                 case rel => exact ⟨(y216), (wrap64 (x8_2 + 1)), (by first | rfl | (simp; done) | (simp [*]; done)), H', ⟨by have := HK1.out; have := HK2.out; have := HK3.out; omega⟩, ⟨by (with_reducible repeat (first | apply a0_ | apply a1_ | apply a2_)); exact Kd.R_mono HO218.out (fun _ hk => trivial)⟩, ⟨by repeat (first | (with_reducible first | exact HB.out | apply b0_ | apply b1_ | apply b2_) | exact HB.out)⟩⟩
                ·rw [if_neg c34] at H
                 exact absurd H (by simp)
               ·rw [if_neg c33] at H
                exact absurd H (by simp)
             ·rw [if_neg c30] at H
              have c30b0 : ((x9_3.length : Int) == 1) = false := beq_eq_false_iff_ne.mpr c30
              have c30b1 : ((x9_3.length : Int) != 1) = true := bne_iff_ne.mpr c30
              have H' := M_ H
              clear H
              have p202 : 0 ≤ (x8_2 : Int) := of_decide_eq_true (by first | (with_reducible assumption) | assumption)
              have q202 : x8_2 < (l0.length : Int) := of_decide_eq_true (by first | (with_reducible assumption) | assumption)
              obtain ⟨ad202, A202_0, c202_0, e202, hx202_0, hl202_0, hi202_0⟩ := at_L1 HR0.out x8_2 p202 q202
              cases e202
              replace hx202_0 := (HB.out.cell (World.block_lt_of_cell? w _ hx202_0)).trans hx202_0
              have HR202_0 := M_ hi202_0
              have HC202_0 := M_ hl202_0
              clear hi202_0 hl202_0
              replace p202 := eq_true p202
              replace q202 := eq_true q202
              obtain ⟨Ao37, co37, eo37⟩ := Kd.R_slice HO_9.out
              subst eo37
              go_wp2
              go_roundg k3
              case measure => have := HK1.out; have := HK2.out; have := HK3.out; omega
              case rel => exact ⟨(x6_2), (wrap64 (x8_2 + 1)), (by first | rfl | (simp; done) | (simp [*]; done)), H', ⟨by have := HK1.out; have := HK2.out; have := HK3.out; omega⟩, ⟨by (with_reducible repeat (first | apply a0_ | apply a1_ | apply a2_)); exact Kd.R_mono HO_6.out (fun _ hk => trivial)⟩, ⟨by repeat (first | (with_reducible first | exact HB.out | apply b0_ | apply b1_ | apply b2_) | exact HB.out)⟩⟩
          ·rw [if_neg c10] at H
           exact absurd H (by simp)
         ·rw [if_neg c9] at H
          exact absurd H (by simp)
      ·rw [if_neg c8] at H
       have c8b0 : decide (x8_2 < (l0.length : Int)) = false := decide_eq_false c8
       clear c8
       by_cases c38 : (x6_2.length : Int) = (x6_1.length : Int)
       ·rw [if_pos c38] at H
        have c38b0 : ((x6_2.length : Int) == (x6_1.length : Int)) = true := beq_iff_eq.mpr c38
        have c38b1 : ((x6_2.length : Int) != (x6_1.length : Int)) = false := bne_eq_false_iff_eq.mpr c38
        have c38b2 : (x6_2.length == x6_1.length) = true := by first | simpa using c38 | (simp at c38 ⊢; omega)
        clear c38
        simp only [Option.some.injEq, Prod.mk.injEq] at H
        obtain ⟨rfl, rfl⟩ := H
        obtain ⟨Ao39, co39, eo39⟩ := Kd.R_slice HO_6.out
        subst eo39
        go_wp2
        go_ret2
        exact ⟨_, by first | rfl | (simp [errW_none, errW_some] <;> rfl) | (simp [*, errW_none, errW_some] <;> rfl), by (with_reducible repeat (first | apply a0_ | apply a1_ | apply a2_)); exact HO_6.out, by repeat (first | (with_reducible first | exact HB.out | apply b0_ | apply b1_ | apply b2_) | exact HB.out)⟩
       ·rw [if_neg c38] at H
        have c38b0 : ((x6_2.length : Int) == (x6_1.length : Int)) = false := beq_eq_false_iff_ne.mpr c38
        have c38b1 : ((x6_2.length : Int) != (x6_1.length : Int)) = true := bne_iff_ne.mpr c38
        have c38b2 : (x6_2.length == x6_1.length) = false := by first | simpa using c38 | (simp at c38 ⊢; omega)
        have H' := M_ H
        clear H
        obtain ⟨Ao40, co40, eo40⟩ := Kd.R_slice HO_6.out
        subst eo40
        go_wp2
        go_roundg k2
        case measure => have := HK1.out; have := HK2.out; omega
        case rel => exact ⟨(x6_2), H', ⟨by have := HK1.out; have := HK2.out; omega⟩, ⟨by (with_reducible repeat (first | apply a0_ | apply a1_ | apply a2_)); exact HO_6.out⟩, ⟨by repeat (first | (with_reducible first | exact HB.out | apply b0_ | apply b1_ | apply b2_) | exact HB.out)⟩⟩
 ·rw [if_neg c3] at H
  exact absurd H (by simp)

/-! ### spiritlevelref17_Fails: function 28 -/
def spiritlevelref17_Fails.f (k : Nat) (l0 : List (List Int)) (l1 : List Int) : Option (Bool) := (spiritlevelref17_Implied.f k l0 l1).bind fun bt219 => (some bt219.2)
theorem spiritlevelref17_Fails.mono : ∀ a0 a1 k, LeO (spiritlevelref17_Fails.f k a0 a1) (spiritlevelref17_Fails.f (k + 1) a0 a1) := by
 intro a0 a1 k
 unfold spiritlevelref17_Fails.f
 repeat' first
   | (with_reducible exact spiritlevelref17_Implied.mono _ _ _)
   | (with_reducible exact LeO.refl _)
   | (with_reducible exact LeO.none _)
   | (with_reducible refine LeO.ite ?_ ?_)
   | (with_reducible refine LeO.bind ?_ (fun _ => ?_))
   | exact spiritlevelref17_Implied.mono _ _ _
   | exact LeO.none _
   | refine LeO.ite ?_ ?_
   | refine LeO.bind ?_ (fun _ => ?_)
set_option maxHeartbeats 8000000 in
set_option maxRecDepth 100000 in
theorem spiritlevelref17_Fails.calls (k : Nat) (A0 : Option Addr) (c0 : Nat) (l0 : List (List Int)) (A1 : Option Addr) (c1 : Nat) (l1 : List Int) (r : Bool) (w : World) (hr0 : Kd.C (Kd.slice 3 (Kd.int .i64)) w A0 l0.length l0) (hc0 : l0.length ≤ c0) (hr1 : Kd.C (Kd.int .i64) w A1 l1.length l1) (hc1 : l1.length ≤ c1) (h : spiritlevelref17_Fails.f k l0 l1 = some r) :
  Calls Try.prog 28 #[.slice A0 l0.length c0, .slice A1 l1.length c1] w fun e w' => e = .returned (.bool r) ∧ Below w.heap.size w w' := by
 have HR0 := M_ hr0
 have HC0 := M_ hc0
 clear hr0 hc0
 have HR1 := M_ hr1
 have HC1 := M_ hc1
 clear hr1 hc1
 have HB := M_ (Below.refl w.heap.size w)
 have H : ((spiritlevelref17_Implied.f k l0 l1).bind fun bt219 => (some bt219.2)) = some r := h
 clear h
 replace H := Option.bind_eq_some_iff.mp H
 obtain ⟨⟨t219, t220⟩, A30, H⟩ := H
 replace H : (some t220) = some r := H
 have A3 := M_ A30
 clear A30
 obtain rfl := Option.some.inj H
 go_enter Try.func28, Try.ntmps28
 go_wp2_with (first | ((with_reducible refine gate_callee (f := 43) rfl ?_); refine goesL_ (some 10) rfl rfl Try.func43 (by kernel_rfl) rfl #[.slice A0 l0.length c0, .slice A1 l1.length c1] rfl (by (try simp only [List.map_toArray, List.map_cons, List.map_nil]); first | done | rfl | (simp only [List.length_drop, List.length_take]; rfl)) ?_; (with_reducible refine (spiritlevelref17_Implied.calls k _ _ l0 _ _ l1 t219 t220 _ ?side1 ?side2 ?side3 ?side4 A3.out).mono ?_); (case side1 => repeat (first | exact HR0.out | (with_reducible refine c0_ ?_ _) | (with_reducible refine c1_ ?_ _) | (with_reducible refine c2_ ?_))); (case side2 => exact HC0.out); (case side3 => repeat (first | exact HR1.out | (with_reducible refine c0_ ?_ _) | (with_reducible refine c1_ ?_ _) | (with_reducible refine c2_ ?_))); (case side4 => exact HC1.out); rintro e w4 ⟨v221, rfl, ho0, hb⟩; refine ⟨_, rfl, ?_⟩; have n0_ := M_ (Kd.R_lower ho0 (below_size (by repeat (first | (with_reducible first | exact HB.out | apply b0_ | apply b1_ | apply b2_) | exact HB.out)))); have n1_ := M_ (below_step (by repeat (first | (with_reducible first | exact HB.out | apply b0_ | apply b1_ | apply b2_) | exact HB.out)) hb); clear HB; have HO222 := n0_; have HB := n1_; clear n0_ n1_; (try clear hb); (try clear hb2); (try clear hk); (try clear hi); (try clear ho0)))
 go_ret
 exact ⟨by first | rfl | (simp [errW_none, errW_some] <;> rfl) | (simp [*, errW_none, errW_some] <;> rfl), by repeat (first | (with_reducible first | exact HB.out | apply b0_ | apply b1_ | apply b2_) | exact HB.out)⟩

/-! ### spiritlevelref17_Conflict: function 10 -/
def spiritlevelref17_Conflict.f (k : Nat) (a0 : Int) (l1 : List (List Int)) (l2 : List Int) : Option (Bool × Int) := (spiritlevelref17_Asked.f k a0 l1 l2).bind fun t223 => (if t223 = 0 then ((spiritlevelref17_Fails.f k l1 l2).bind fun t224 => (some (t224, 0))) else (some (false, t223)))
theorem spiritlevelref17_Conflict.mono : ∀ a0 a1 a2 k, LeO (spiritlevelref17_Conflict.f k a0 a1 a2) (spiritlevelref17_Conflict.f (k + 1) a0 a1 a2) := by
 intro a0 a1 a2 k
 unfold spiritlevelref17_Conflict.f
 repeat' first
   | (with_reducible exact spiritlevelref17_Asked.mono _ _ _ _)
   | (with_reducible exact spiritlevelref17_Fails.mono _ _ _)
   | (with_reducible exact LeO.refl _)
   | (with_reducible exact LeO.none _)
   | (with_reducible refine LeO.ite ?_ ?_)
   | (with_reducible refine LeO.bind ?_ (fun _ => ?_))
   | exact spiritlevelref17_Asked.mono _ _ _ _
   | exact spiritlevelref17_Fails.mono _ _ _
   | exact LeO.none _
   | refine LeO.ite ?_ ?_
   | refine LeO.bind ?_ (fun _ => ?_)
set_option maxHeartbeats 8000000 in
set_option maxRecDepth 100000 in
theorem spiritlevelref17_Conflict.calls (k : Nat) (a0 : Int) (A1 : Option Addr) (c1 : Nat) (l1 : List (List Int)) (A2 : Option Addr) (c2 : Nat) (l2 : List Int) (r1 : Bool) (r2 : Int) (w : World) (hr1 : Kd.C (Kd.slice 3 (Kd.int .i64)) w A1 l1.length l1) (hc1 : l1.length ≤ c1) (hr2 : Kd.C (Kd.int .i64) w A2 l2.length l2) (hc2 : l2.length ≤ c2) (h : spiritlevelref17_Conflict.f k a0 l1 l2 = some (r1, r2)) :
  Calls Try.prog 10 #[.int .i64 a0, .slice A1 l1.length c1, .slice A2 l2.length c2] w fun e w' => e = .returned (.tuple #[.bool r1, .int .i64 r2]) ∧ Below w.heap.size w w' := by
 have HR1 := M_ hr1
 have HC1 := M_ hc1
 clear hr1 hc1
 have HR2 := M_ hr2
 have HC2 := M_ hc2
 clear hr2 hc2
 have HB := M_ (Below.refl w.heap.size w)
 have H : ((spiritlevelref17_Asked.f k a0 l1 l2).bind fun t223 => (if t223 = 0 then ((spiritlevelref17_Fails.f k l1 l2).bind fun t224 => (some (t224, 0))) else (some (false, t223)))) = some (r1, r2) := h
 clear h
 replace H := Option.bind_eq_some_iff.mp H
 obtain ⟨t223, A40, H⟩ := H
 replace H : (if t223 = 0 then ((spiritlevelref17_Fails.f k l1 l2).bind fun t224 => (some (t224, 0))) else (some (false, t223))) = some (r1, r2) := H
 have A4 := M_ A40
 clear A40
 by_cases c5 : t223 = 0
 ·rw [if_pos c5] at H
  have c5b0 : (t223 == 0) = true := beq_iff_eq.mpr c5
  have c5b1 : (t223 != 0) = false := bne_eq_false_iff_eq.mpr c5
  clear c5
  replace H := Option.bind_eq_some_iff.mp H
  obtain ⟨t224, A60, H⟩ := H
  replace H : (some (t224, 0)) = some (r1, r2) := H
  have A6 := M_ A60
  clear A60
  simp only [Option.some.injEq, Prod.mk.injEq] at H
  obtain ⟨rfl, rfl⟩ := H
  go_enter Try.func10, Try.ntmps10
  go_wp2_with (first | ((with_reducible refine gate_callee (f := 27) rfl ?_); refine goesL_ (some 12) rfl rfl Try.func27 (by kernel_rfl) rfl #[.int .i64 a0, .slice A1 l1.length c1, .slice A2 l2.length c2] rfl (by (try simp only [List.map_toArray, List.map_cons, List.map_nil]); first | done | rfl | (simp only [List.length_drop, List.length_take]; rfl)) ?_; (with_reducible refine (spiritlevelref17_Asked.calls k a0 _ _ l1 _ _ l2 t223 _ ?side1 ?side2 ?side3 ?side4 A4.out).mono ?_); (case side1 => repeat (first | exact HR1.out | (with_reducible refine c0_ ?_ _) | (with_reducible refine c1_ ?_ _) | (with_reducible refine c2_ ?_))); (case side2 => exact HC1.out); (case side3 => repeat (first | exact HR2.out | (with_reducible refine c0_ ?_ _) | (with_reducible refine c1_ ?_ _) | (with_reducible refine c2_ ?_))); (case side4 => exact HC2.out); rintro e w7 ⟨rfl, hb⟩; refine ⟨_, rfl, ?_⟩; have n0_ := M_ (below_step (by repeat (first | (with_reducible first | exact HB.out | apply b0_ | apply b1_ | apply b2_) | exact HB.out)) hb); clear HB; have HB := n0_; clear n0_; (try clear hb); (try clear hb2); (try clear hk); (try clear hi)) | ((with_reducible refine gate_callee (f := 28) rfl ?_); refine goesL_ (some 18) rfl rfl Try.func28 (by kernel_rfl) rfl #[.slice A1 l1.length c1, .slice A2 l2.length c2] rfl (by (try simp only [List.map_toArray, List.map_cons, List.map_nil]); first | done | rfl | (simp only [List.length_drop, List.length_take]; rfl)) ?_; (with_reducible refine (spiritlevelref17_Fails.calls k _ _ l1 _ _ l2 t224 _ ?side1 ?side2 ?side3 ?side4 A6.out).mono ?_); (case side1 => repeat (first | exact (Kd.C_below HR1.out HB.out) | (with_reducible refine c0_ ?_ _) | (with_reducible refine c1_ ?_ _) | (with_reducible refine c2_ ?_))); (case side2 => exact HC1.out); (case side3 => repeat (first | exact (Kd.C_below HR2.out HB.out) | (with_reducible refine c0_ ?_ _) | (with_reducible refine c1_ ?_ _) | (with_reducible refine c2_ ?_))); (case side4 => exact HC2.out); rintro e w8 ⟨rfl, hb⟩; refine ⟨_, rfl, ?_⟩; have n0_ := M_ (below_step (by repeat (first | (with_reducible first | exact HB.out | apply b0_ | apply b1_ | apply b2_) | exact HB.out)) hb); clear HB; have HB := n0_; clear n0_; (try clear hb); (try clear hb2); (try clear hk); (try clear hi)))
  go_ret2
  exact ⟨by first | rfl | (simp [errW_none, errW_some] <;> rfl) | (simp [*, errW_none, errW_some] <;> rfl), by repeat (first | (with_reducible first | exact HB.out | apply b0_ | apply b1_ | apply b2_) | exact HB.out)⟩
 ·rw [if_neg c5] at H
  have c5b0 : (t223 == 0) = false := beq_eq_false_iff_ne.mpr c5
  have c5b1 : (t223 != 0) = true := bne_iff_ne.mpr c5
  simp only [Option.some.injEq, Prod.mk.injEq] at H
  obtain ⟨rfl, rfl⟩ := H
  go_enter Try.func10, Try.ntmps10
  go_wp2_with (first | ((with_reducible refine gate_callee (f := 27) rfl ?_); refine goesL_ (some 12) rfl rfl Try.func27 (by kernel_rfl) rfl #[.int .i64 a0, .slice A1 l1.length c1, .slice A2 l2.length c2] rfl (by (try simp only [List.map_toArray, List.map_cons, List.map_nil]); first | done | rfl | (simp only [List.length_drop, List.length_take]; rfl)) ?_; (with_reducible refine (spiritlevelref17_Asked.calls k a0 _ _ l1 _ _ l2 t223 _ ?side1 ?side2 ?side3 ?side4 A4.out).mono ?_); (case side1 => repeat (first | exact HR1.out | (with_reducible refine c0_ ?_ _) | (with_reducible refine c1_ ?_ _) | (with_reducible refine c2_ ?_))); (case side2 => exact HC1.out); (case side3 => repeat (first | exact HR2.out | (with_reducible refine c0_ ?_ _) | (with_reducible refine c1_ ?_ _) | (with_reducible refine c2_ ?_))); (case side4 => exact HC2.out); rintro e w9 ⟨rfl, hb⟩; refine ⟨_, rfl, ?_⟩; have n0_ := M_ (below_step (by repeat (first | (with_reducible first | exact HB.out | apply b0_ | apply b1_ | apply b2_) | exact HB.out)) hb); clear HB; have HB := n0_; clear n0_; (try clear hb); (try clear hb2); (try clear hk); (try clear hi)))
  go_ret2
  exact ⟨by first | rfl | (simp [errW_none, errW_some] <;> rfl) | (simp [*, errW_none, errW_some] <;> rfl), by repeat (first | (with_reducible first | exact HB.out | apply b0_ | apply b1_ | apply b2_) | exact HB.out)⟩

/-! ### slices_Index_int_int: function 30 -/
def slices_Index_int_int.l0 : Nat → List Int → Int → Int → Int → Option (Int)
 | 0, _, _, _, _ => none
 | k + 1, x0, x1, x7, x8 => if x8 < x7 then (if 0 ≤ x8 then (if x8 < (x0.length : Int) then (if x1 = (rd x0 x8) then (some x8) else (slices_Index_int_int.l0 k x0 x1 x7 (wrap64 (x8 + 1)))) else (none)) else (none)) else (some (-1))
def slices_Index_int_int.f (k : Nat) (l0 : List Int) (a1 : Int) : Option (Int) := slices_Index_int_int.l0 k l0 a1 (l0.length : Int) 0
theorem slices_Index_int_int.mono_l : ∀ k, (∀ y0 y1 y2 y3, LeO (slices_Index_int_int.l0 k y0 y1 y2 y3) (slices_Index_int_int.l0 (k + 1) y0 y1 y2 y3))
 | 0 => fun _ _ _ _ r h => by simp [slices_Index_int_int.l0] at h
 | k + 1 => by
  have ih0 := slices_Index_int_int.mono_l k
  ·intro y0 y1 y2 y3
   unfold slices_Index_int_int.l0
   repeat' first
   | (with_reducible exact ih0 _ _ _ _)
   | (with_reducible exact LeO.refl _)
   | (with_reducible exact LeO.none _)
   | (with_reducible refine LeO.ite ?_ ?_)
   | (with_reducible refine LeO.bind ?_ (fun _ => ?_))
   | exact ih0 _ _ _ _
   | exact LeO.none _
   | refine LeO.ite ?_ ?_
   | refine LeO.bind ?_ (fun _ => ?_)
theorem slices_Index_int_int.mono : ∀ a0 a1 k, LeO (slices_Index_int_int.f k a0 a1) (slices_Index_int_int.f (k + 1) a0 a1) := by
 intro a0 a1 k
 have ih0 := slices_Index_int_int.mono_l k
 unfold slices_Index_int_int.f
 repeat' first
   | (with_reducible exact ih0 _ _ _ _)
   | (with_reducible exact LeO.refl _)
   | (with_reducible exact LeO.none _)
   | (with_reducible refine LeO.ite ?_ ?_)
   | (with_reducible refine LeO.bind ?_ (fun _ => ?_))
   | exact ih0 _ _ _ _
   | exact LeO.none _
   | refine LeO.ite ?_ ?_
   | refine LeO.bind ?_ (fun _ => ?_)
set_option maxHeartbeats 8000000 in
set_option maxRecDepth 100000 in
theorem slices_Index_int_int.calls (k : Nat) (A0 : Option Addr) (c0 : Nat) (l0 : List Int) (a1 : Int) (r : Int) (w : World) (hr0 : Kd.C (Kd.int .i64) w A0 l0.length l0) (hc0 : l0.length ≤ c0) (h : slices_Index_int_int.f k l0 a1 = some r) :
  Calls Try.prog 30 #[.slice A0 l0.length c0, .int .i64 a1] w fun e w' => e = .returned (.int .i64 r) ∧ Drawn0 w w' := by
 have HR0 := M_ hr0
 have HC0 := M_ hc0
 clear hr0 hc0
 have H : (slices_Index_int_int.l0 k l0 a1 (l0.length : Int) 0) = some r := h
 clear h
 have H' := M_ H
 clear H
 go_enter Try.func30, Try.ntmps30
 go_wp2
 go_loopg [8] k (fun kq v8 w' => ∃ (x8_1 : Int), v8 = .int .i64 x8_1 ∧ Aside0 (slices_Index_int_int.l0 kq l0 a1 (l0.length : Int) x8_1 = some r) ∧ Aside0 (kq ≤ k) ∧ Drawn0 w w')
 case atStart => exact ⟨(0), (by first | rfl | (simp; done) | (simp [*]; done)), H', ⟨Nat.le_refl _⟩, by repeat (first | exact Drawn0.refl _ | apply Drawn0.step)⟩
 case round =>
  clear H'
  try clear p2
  obtain ⟨x8_1, rfl, HA, HK1, ⟨m1, rfl⟩⟩ := hrel
  cases gk with
  | zero => exact absurd HA.out (by simp [slices_Index_int_int.l0])
  | succ k1 =>
   have H := HA.out
   clear HA
   simp only [slices_Index_int_int.l0] at H
   by_cases c3 : x8_1 < (l0.length : Int)
   ·rw [if_pos c3] at H
    have c3b0 : decide (x8_1 < (l0.length : Int)) = true := decide_eq_true c3
    clear c3
    by_cases c4 : 0 ≤ x8_1
    ·rw [if_pos c4] at H
     have c4b0 : decide (0 ≤ x8_1) = true := decide_eq_true c4
     clear c4
     by_cases c5 : x8_1 < (l0.length : Int)
     ·rw [if_pos c5] at H
      have c5b0 : decide (x8_1 < (l0.length : Int)) = true := decide_eq_true c5
      clear c5
      by_cases c6 : a1 = (rd l0 x8_1)
      ·rw [if_pos c6] at H
       have c6b0 : (a1 == (rd l0 x8_1)) = true := beq_iff_eq.mpr c6
       have c6b1 : (a1 != (rd l0 x8_1)) = false := bne_eq_false_iff_eq.mpr c6
       clear c6
       obtain rfl := Option.some.inj H
       have p225 : 0 ≤ (x8_1 : Int) := of_decide_eq_true (by first | (with_reducible assumption) | assumption)
       have q225 : x8_1 < (l0.length : Int) := of_decide_eq_true (by first | (with_reducible assumption) | assumption)
       obtain ⟨ad225, e225, hx225_0⟩ := Kd.at_int HR0.out x8_1 p225 q225
       cases e225
       replace p225 := eq_true p225
       replace q225 := eq_true q225
       go_wp2
       go_ret
       exact ⟨by first | rfl | (simp; done) | (simp [*]; done), by repeat (first | exact Drawn0.refl _ | apply Drawn0.step)⟩
      ·rw [if_neg c6] at H
       have c6b0 : (a1 == (rd l0 x8_1)) = false := beq_eq_false_iff_ne.mpr c6
       have c6b1 : (a1 != (rd l0 x8_1)) = true := bne_iff_ne.mpr c6
       have H' := M_ H
       clear H
       have p225 : 0 ≤ (x8_1 : Int) := of_decide_eq_true (by first | (with_reducible assumption) | assumption)
       have q225 : x8_1 < (l0.length : Int) := of_decide_eq_true (by first | (with_reducible assumption) | assumption)
       obtain ⟨ad225, e225, hx225_0⟩ := Kd.at_int HR0.out x8_1 p225 q225
       cases e225
       replace p225 := eq_true p225
       replace q225 := eq_true q225
       go_wp2
       go_roundg k1
       case measure => have := HK1.out; omega
       case rel => exact ⟨(wrap64 (x8_1 + 1)), (by first | rfl | (simp; done) | (simp [*]; done)), H', ⟨by have := HK1.out; omega⟩, by repeat (first | exact Drawn0.refl _ | apply Drawn0.step)⟩
     ·rw [if_neg c5] at H
      exact absurd H (by simp)
    ·rw [if_neg c4] at H
     exact absurd H (by simp)
   ·rw [if_neg c3] at H
    have c3b0 : decide (x8_1 < (l0.length : Int)) = false := decide_eq_false c3
    clear c3
    obtain rfl := Option.some.inj H
    go_wp2
    go_ret
    exact ⟨by first | rfl | (simp; done) | (simp [*]; done), by repeat (first | exact Drawn0.refl _ | apply Drawn0.step)⟩

/-! ### slices_Delete_int_int: function 31, by hand -/
theorem encs_mapX {α : Type} (enc : α → Value) (l : List α) : encs enc l = l.map enc := by simp [encs]
def slices_Delete_int_int.f (l0 : List Int) (a1 a2 : Int) : Option (List Int) := if l0.length ≤ 1000000000 ∧ 0 < l0.length ∧ 0 ≤ a1 ∧ a1 ≤ a2 ∧ a2 ≤ (l0.length : Int) then some (l0.take a1.toNat ++ l0.drop a2.toNat) else none
theorem slices_Delete_int_int.calls (P0_ : Nat → Prop) (u9000_ : Value) (l0 : List Int) (a1 a2 : Int) (r : List Int) (w0 w : World) (hB : Below w0.heap.size w0 w) (ho0 : Kd.R (Kd.int .i64) 3 w w0.heap.size P0_ u9000_ l0) (h : slices_Delete_int_int.f l0 a1 a2 = some r) :
  Calls Try.prog 31 #[u9000_, .int .i64 a1, .int .i64 a2] w fun e w' => ∃ v0_ : Value, e = .returned (v0_) ∧ Kd.R (Kd.int .i64) 3 w' w0.heap.size (fun k_ => (P0_ k_ ∨ w.heap.size ≤ k_)) v0_ r ∧ Below w0.heap.size w0 w' ∧ Kept w w' (fun k_ => P0_ k_) := by
 unfold slices_Delete_int_int.f at h
 split at h
 ·rename_i hb
  obtain ⟨b0, b1, b2, b3, b4⟩ := hb
  obtain rfl := Option.some.inj h
  clear h
  obtain ⟨i, rfl⟩ := Int.eq_ofNat_of_zero_le b2
  obtain ⟨j, rfl⟩ := Int.eq_ofNat_of_zero_le (show 0 ≤ a2 by omega)
  rw [Int.toNat_natCast, Int.toNat_natCast]
  have ho := Kd.own_of_R ho0
  rw [encs_mapX] at ho
  rcases ho.2 with ⟨rfl, hn⟩ | ⟨g, cap, cur, rfl, hg, hh, h1, h2, h3, h4⟩
  ·have hn0 : l0.length = 0 := hn
   omega
  ·have hlt : g < w.heap.size := (Array.getElem?_eq_some_iff.1 hh).1
   rw [Nat.mul_one] at h4
   refine (Try.slices_Delete_int g 0 cap i j l0 w (holds_of_blockI hh h4) h1 (Nat.le_trans h2 (by decide)) (by omega) (by omega)).mono ?_
   rintro e w' ⟨rfl, q, rfl⟩
   have hlen : (l0.take i ++ l0.drop j).length = l0.length - (j - i) := by rw [List.length_append, List.length_take, List.length_drop]; omega
   have hk : (l0.take i ++ l0.drop j).length ≤ l0.length := by omega
   have hy : (l0.take i ++ l0.drop j ++ List.replicate (j - i) (0 : Int)).length = l0.length := by rw [List.length_append, hlen, List.length_replicate]; omega
   have hw := Lib.ownsRow_putRow (q := q) ho hy hk
   rw [List.take_left' rfl] at hw
   rw [hlen] at hw
   have hgr := grownBy_sortedI (w := w) (g := g) (n := q) (os := #[]) (l0.take i ++ l0.drop j ++ List.replicate (j - i) (0 : Int)).toArray
   rw [Sort.grow_empty] at hgr
   refine ⟨_, rfl, Kd.R_of_own (by rw [encs_mapX, hlen]; exact hw) (fun k hk => .inl (ho0.1 k hk)), pw_below_grown hB (some g) hB.size hgr (fun k e => by cases e; exact hg), Kept.of_grown hgr (Kept.refl _ _) (fun k e => by cases e; exact .inl (ho0.1 _ rfl))⟩
 ·simp at h

/-! ### slices_Sort_int_int: function 32, by hand -/
/-- The numbers of a list in increasing order. -/
def sortI (l : List Int) : List Int := l.mergeSort fun x y => decide (x ≤ y)
theorem encs_map {α : Type} (enc : α → Value) (l : List α) : encs enc l = l.map enc := by simp [encs]
def slices_Sort_int_int.f (l0 : List Int) : Option (List Int) := if l0.length ≤ 1000000000 then some (sortI l0) else none
theorem slices_Sort_int_int.calls (P0_ : Nat → Prop) (u9000_ : Value) (l0 : List Int) (r : List Int) (w0 w : World) (hB : Below w0.heap.size w0 w) (ho0 : Kd.R (Kd.int .i64) 3 w w0.heap.size P0_ u9000_ l0) (h : slices_Sort_int_int.f l0 = some r) :
  Calls Try.prog 32 #[u9000_] w fun e w' => e = .returned (.tuple #[]) ∧ Kd.R (Kd.int .i64) 3 w' w0.heap.size (fun k_ => (P0_ k_ ∨ w.heap.size ≤ k_)) u9000_ r ∧ Below w0.heap.size w0 w' ∧ Kept w w' (fun k_ => P0_ k_) := by
 unfold slices_Sort_int_int.f at h
 split at h
 ·rename_i hb
  obtain rfl := Option.some.inj h
  clear h
  have ho := Kd.own_of_R ho0
  rw [encs_map] at ho
  rcases ho.2 with ⟨rfl, hn⟩ | ⟨g, cap, cur, rfl, hg, hh, h1, h2, h3, h4⟩
  ·have hn0 : l0.length = 0 := hn
   have hn := List.eq_nil_of_length_eq_zero hn0
   subst hn
   refine (Try.slices_Sort_int_none none 0 w).mono ?_
   rintro e w' ⟨rfl, rfl⟩
   exact ⟨rfl, Kd.R_mono (by simpa [sortI] using ho0) (fun _ hk => .inl hk), hB, Kept.refl _ _⟩
  ·have hlt : g < w.heap.size := (Array.getElem?_eq_some_iff.1 hh).1
   rw [Nat.mul_one] at h4
   refine (Try.slices_Sort_int g 0 cap l0 w (holds_of_blockI hh h4) hlt (by omega)).mono ?_
   rintro e w' ⟨rfl, n, os, rfl⟩
   have hl : (sortI l0).length = l0.length := by simp [sortI]
   have hw := ownsRow_sortedI (n := n) (os := os) hl hg hh h1 h2 h3
   have hgr : w.grownBy (Sort.grow (Sort.putRow (Value.int .i64) (Sort.ahead w n) g 0 (sortI l0).toArray) os) (some g) := grownBy_sortedI (sortI l0).toArray
   refine ⟨rfl, Kd.R_of_own (by rw [encs_map, hl]; exact hw) (fun k hk => .inl (ho0.1 k hk)), pw_below_grown hB (some g) hB.size hgr (fun k e => by cases e; exact hg), Kept.of_grown hgr (Kept.refl _ _) (fun k e => by cases e; exact .inl (ho0.1 _ rfl))⟩
 ·simp at h

end Go.Proofs.Ytcopolpepodceaa.QLearnTells
