-- Made by wip/myprint.sh (a patched print): a text of this session's own.
import Derived.Test.YtcopolpepodceaaQLearnFollowsx0
import Derived.Test.YtcopolpepodceaaQLearnFollowsx6
namespace Go.Proofs.Ytcopolpepodceaa.QLearnFollows
open Go.RowKit Go.Proofs.YtcopolpepodceaaW.PrintWords Go.Proofs.YtcopolpepodceaaW.PrintLast Go.Proofs.YtcopolpepodceaaW.PrintMore
attribute [local go_sem] max2_int min2_int max_two min_two max_three min_three max_four min_four   -- for this text's walks alone
set_option linter.unusedVariables false
set_option linter.unusedSimpArgs false

/-! ### spiritlevellaw17_alive_t: function 14 -/
def spiritlevellaw17_alive_t.f (k : Nat)  : Option (Bool) := (spiritlevellaw17_learns.f k (([(([3, 4] : List Int)), (([5, 6] : List Int)), (([3, 7] : List Int))] : List (List Int))) (([8, 2] : List Int)) (([3] : List Int))).bind fun t210 => (if t210 = true then ((spiritlevellaw17_learns.f k (([(([3, 5] : List Int)), (([3, 4, 7] : List Int))] : List (List Int))) (([2, 6] : List Int)) (([3, 7] : List Int))).bind fun t226 => (some t226)) else (some false))
theorem spiritlevellaw17_alive_t.mono : ∀ k, LeO (spiritlevellaw17_alive_t.f k ) (spiritlevellaw17_alive_t.f (k + 1) ) := by
 intro  k
 unfold spiritlevellaw17_alive_t.f
 repeat' first
   | (with_reducible exact spiritlevellaw17_learns.mono _ _ _ _)
   | (with_reducible exact LeO.refl _)
   | (with_reducible exact LeO.none _)
   | (with_reducible refine LeO.ite ?_ ?_)
   | (with_reducible refine LeO.bind ?_ (fun _ => ?_))
   | exact spiritlevellaw17_learns.mono _ _ _ _
   | exact LeO.none _
   | refine LeO.ite ?_ ?_
   | refine LeO.bind ?_ (fun _ => ?_)
set_option maxHeartbeats 8000000 in
set_option maxRecDepth 100000 in
theorem spiritlevellaw17_alive_t.calls (k : Nat)  (r : Bool) (w : World) (ht_ : r = true) (h : spiritlevellaw17_alive_t.f k  = some r) :
  Calls Try.prog 14 #[] w fun e w' => e = .returned (.bool r) ∧ Below w.heap.size w w' := by
 have HTR_ := M_ ht_
 clear ht_
 have HB := M_ (Below.refl w.heap.size w)
 have H : ((spiritlevellaw17_learns.f k (([(([3, 4] : List Int)), (([5, 6] : List Int)), (([3, 7] : List Int))] : List (List Int))) (([8, 2] : List Int)) (([3] : List Int))).bind fun t210 => (if t210 = true then ((spiritlevellaw17_learns.f k (([(([3, 5] : List Int)), (([3, 4, 7] : List Int))] : List (List Int))) (([2, 6] : List Int)) (([3, 7] : List Int))).bind fun t226 => (some t226)) else (some false))) = some r := h
 clear h
 obtain ⟨y192, hy192⟩ : ∃ y_ : List Int, y_ = (([3, 4] : List Int)) := ⟨_, rfl⟩
 replace H : ((spiritlevellaw17_learns.f k (([y192, (([5, 6] : List Int)), (([3, 7] : List Int))] : List (List Int))) (([8, 2] : List Int)) (([3] : List Int))).bind fun t210 => (if t210 = true then ((spiritlevellaw17_learns.f k (([(([3, 5] : List Int)), (([3, 4, 7] : List Int))] : List (List Int))) (([2, 6] : List Int)) (([3, 7] : List Int))).bind fun t226 => (some t226)) else (some false))) = some r := by first | (rw [hy192]; with_reducible exact H) | (have H2_ := (Option.bind_some _ _).symm.trans H; rw [hy192]; with_reducible exact H2_) | (have H2_ := (Option.bind_some _ _).symm.trans H; with_reducible exact H2_) | with_reducible exact H | (rw [hy192]; exact H) | exact H
 have Ny192 := M_ hy192
 clear hy192
 obtain ⟨y195, hy195⟩ : ∃ y_ : List Int, y_ = (([5, 6] : List Int)) := ⟨_, rfl⟩
 replace H : ((spiritlevellaw17_learns.f k (([y192, y195, (([3, 7] : List Int))] : List (List Int))) (([8, 2] : List Int)) (([3] : List Int))).bind fun t210 => (if t210 = true then ((spiritlevellaw17_learns.f k (([(([3, 5] : List Int)), (([3, 4, 7] : List Int))] : List (List Int))) (([2, 6] : List Int)) (([3, 7] : List Int))).bind fun t226 => (some t226)) else (some false))) = some r := by first | (rw [hy195]; with_reducible exact H) | (have H2_ := (Option.bind_some _ _).symm.trans H; rw [hy195]; with_reducible exact H2_) | (have H2_ := (Option.bind_some _ _).symm.trans H; with_reducible exact H2_) | with_reducible exact H | (rw [hy195]; exact H) | exact H
 have Ny195 := M_ hy195
 clear hy195
 obtain ⟨y198, hy198⟩ : ∃ y_ : List Int, y_ = (([3, 7] : List Int)) := ⟨_, rfl⟩
 replace H : ((spiritlevellaw17_learns.f k (([y192, y195, y198] : List (List Int))) (([8, 2] : List Int)) (([3] : List Int))).bind fun t210 => (if t210 = true then ((spiritlevellaw17_learns.f k (([(([3, 5] : List Int)), (([3, 4, 7] : List Int))] : List (List Int))) (([2, 6] : List Int)) (([3, 7] : List Int))).bind fun t226 => (some t226)) else (some false))) = some r := by first | (rw [hy198]; with_reducible exact H) | (have H2_ := (Option.bind_some _ _).symm.trans H; rw [hy198]; with_reducible exact H2_) | (have H2_ := (Option.bind_some _ _).symm.trans H; with_reducible exact H2_) | with_reducible exact H | (rw [hy198]; exact H) | exact H
 have Ny198 := M_ hy198
 clear hy198
 obtain ⟨y201, hy201⟩ : ∃ y_ : List (List Int), y_ = (([y192, y195, y198] : List (List Int))) := ⟨_, rfl⟩
 replace H : ((spiritlevellaw17_learns.f k y201 (([8, 2] : List Int)) (([3] : List Int))).bind fun t210 => (if t210 = true then ((spiritlevellaw17_learns.f k (([(([3, 5] : List Int)), (([3, 4, 7] : List Int))] : List (List Int))) (([2, 6] : List Int)) (([3, 7] : List Int))).bind fun t226 => (some t226)) else (some false))) = some r := by first | (rw [hy201]; with_reducible exact H) | (have H2_ := (Option.bind_some _ _).symm.trans H; rw [hy201]; with_reducible exact H2_) | (have H2_ := (Option.bind_some _ _).symm.trans H; with_reducible exact H2_) | with_reducible exact H | (rw [hy201]; exact H) | exact H
 have Ny201 := M_ hy201
 clear hy201
 obtain ⟨y204, hy204⟩ : ∃ y_ : List Int, y_ = (([8, 2] : List Int)) := ⟨_, rfl⟩
 replace H : ((spiritlevellaw17_learns.f k y201 y204 (([3] : List Int))).bind fun t210 => (if t210 = true then ((spiritlevellaw17_learns.f k (([(([3, 5] : List Int)), (([3, 4, 7] : List Int))] : List (List Int))) (([2, 6] : List Int)) (([3, 7] : List Int))).bind fun t226 => (some t226)) else (some false))) = some r := by first | (rw [hy204]; with_reducible exact H) | (have H2_ := (Option.bind_some _ _).symm.trans H; rw [hy204]; with_reducible exact H2_) | (have H2_ := (Option.bind_some _ _).symm.trans H; with_reducible exact H2_) | with_reducible exact H | (rw [hy204]; exact H) | exact H
 have Ny204 := M_ hy204
 clear hy204
 obtain ⟨y207, hy207⟩ : ∃ y_ : List Int, y_ = (([3] : List Int)) := ⟨_, rfl⟩
 replace H : ((spiritlevellaw17_learns.f k y201 y204 y207).bind fun t210 => (if t210 = true then ((spiritlevellaw17_learns.f k (([(([3, 5] : List Int)), (([3, 4, 7] : List Int))] : List (List Int))) (([2, 6] : List Int)) (([3, 7] : List Int))).bind fun t226 => (some t226)) else (some false))) = some r := by first | (rw [hy207]; with_reducible exact H) | (have H2_ := (Option.bind_some _ _).symm.trans H; rw [hy207]; with_reducible exact H2_) | (have H2_ := (Option.bind_some _ _).symm.trans H; with_reducible exact H2_) | with_reducible exact H | (rw [hy207]; exact H) | exact H
 have Ny207 := M_ hy207
 clear hy207
 replace H := Option.bind_eq_some_iff.mp H
 obtain ⟨t210, A10, H⟩ := H
 replace H : (if t210 = true then ((spiritlevellaw17_learns.f k (([(([3, 5] : List Int)), (([3, 4, 7] : List Int))] : List (List Int))) (([2, 6] : List Int)) (([3, 7] : List Int))).bind fun t226 => (some t226)) else (some false)) = some r := H
 have A1 := M_ A10
 clear A10
 by_cases c2 : t210 = true
 ·subst c2
  have H1 : ((spiritlevellaw17_learns.f k (([(([3, 5] : List Int)), (([3, 4, 7] : List Int))] : List (List Int))) (([2, 6] : List Int)) (([3, 7] : List Int))).bind fun t226 => (some t226)) = some r := by rw [if_pos rfl] at H; exact H
  clear H
  have H := H1
  clear H1
  obtain ⟨y211, hy211⟩ : ∃ y_ : List Int, y_ = (([3, 5] : List Int)) := ⟨_, rfl⟩
  replace H : ((spiritlevellaw17_learns.f k (([y211, (([3, 4, 7] : List Int))] : List (List Int))) (([2, 6] : List Int)) (([3, 7] : List Int))).bind fun t226 => (some t226)) = some r := by first | (rw [hy211]; with_reducible exact H) | (have H2_ := (Option.bind_some _ _).symm.trans H; rw [hy211]; with_reducible exact H2_) | (have H2_ := (Option.bind_some _ _).symm.trans H; with_reducible exact H2_) | with_reducible exact H | (rw [hy211]; exact H) | exact H
  have Ny211 := M_ hy211
  clear hy211
  obtain ⟨y214, hy214⟩ : ∃ y_ : List Int, y_ = (([3, 4, 7] : List Int)) := ⟨_, rfl⟩
  replace H : ((spiritlevellaw17_learns.f k (([y211, y214] : List (List Int))) (([2, 6] : List Int)) (([3, 7] : List Int))).bind fun t226 => (some t226)) = some r := by first | (rw [hy214]; with_reducible exact H) | (have H2_ := (Option.bind_some _ _).symm.trans H; rw [hy214]; with_reducible exact H2_) | (have H2_ := (Option.bind_some _ _).symm.trans H; with_reducible exact H2_) | with_reducible exact H | (rw [hy214]; exact H) | exact H
  have Ny214 := M_ hy214
  clear hy214
  obtain ⟨y217, hy217⟩ : ∃ y_ : List (List Int), y_ = (([y211, y214] : List (List Int))) := ⟨_, rfl⟩
  replace H : ((spiritlevellaw17_learns.f k y217 (([2, 6] : List Int)) (([3, 7] : List Int))).bind fun t226 => (some t226)) = some r := by first | (rw [hy217]; with_reducible exact H) | (have H2_ := (Option.bind_some _ _).symm.trans H; rw [hy217]; with_reducible exact H2_) | (have H2_ := (Option.bind_some _ _).symm.trans H; with_reducible exact H2_) | with_reducible exact H | (rw [hy217]; exact H) | exact H
  have Ny217 := M_ hy217
  clear hy217
  obtain ⟨y220, hy220⟩ : ∃ y_ : List Int, y_ = (([2, 6] : List Int)) := ⟨_, rfl⟩
  replace H : ((spiritlevellaw17_learns.f k y217 y220 (([3, 7] : List Int))).bind fun t226 => (some t226)) = some r := by first | (rw [hy220]; with_reducible exact H) | (have H2_ := (Option.bind_some _ _).symm.trans H; rw [hy220]; with_reducible exact H2_) | (have H2_ := (Option.bind_some _ _).symm.trans H; with_reducible exact H2_) | with_reducible exact H | (rw [hy220]; exact H) | exact H
  have Ny220 := M_ hy220
  clear hy220
  obtain ⟨y223, hy223⟩ : ∃ y_ : List Int, y_ = (([3, 7] : List Int)) := ⟨_, rfl⟩
  replace H : ((spiritlevellaw17_learns.f k y217 y220 y223).bind fun t226 => (some t226)) = some r := by first | (rw [hy223]; with_reducible exact H) | (have H2_ := (Option.bind_some _ _).symm.trans H; rw [hy223]; with_reducible exact H2_) | (have H2_ := (Option.bind_some _ _).symm.trans H; with_reducible exact H2_) | with_reducible exact H | (rw [hy223]; exact H) | exact H
  have Ny223 := M_ hy223
  clear hy223
  replace H := Option.bind_eq_some_iff.mp H
  obtain ⟨t226, A30, H⟩ := H
  replace H : (some t226) = some r := H
  have A3 := M_ A30
  clear A30
  obtain rfl := Option.some.inj H
  go_enter Try.func14, Try.ntmps14
  go_wp2_with (first | ((with_reducible refine gate_dst (N := 1) rfl ?_); (try (refine gate_guard (by rfl) ?_; dsimp only)); refine Kd.R_lit (Kd.int .i64) _ 3 ?hg (N := 1) ?hd (xs := ([3, 4] : List Int)) (inner := [.int .i64 3, .int .i64 4]) (ok := fun _ => True) (okp := fun _ => True) ?hr ?hp (fun _ hk => hk) trivial (Below.refl _ _) (Nat.le_refl _) (by simp) ?_; (case hd => rfl); (case hg => rfl); (case hr => first | (go_simp; done) | (go_simp; rfl)); (case hp => exact (Reps.one (show Kd.M (Kd.int .i64) _ _ _ 3 [.int .i64 3] from rfl) (Reps.one (show Kd.M (Kd.int .i64) _ _ _ 4 [.int .i64 4] from rfl) (Reps.none _ _)))); intro v193 w4 ho5 hb hg_ hnew_; clear hg_ hnew_; (first | rw [← Ny192.out] at ho5 | (simp only [Int.reduceToNat] at ho5; rw [← Ny192.out] at ho5)); have n0_ := M_ (Kd.R_lower ho5 (below_size (by repeat (first | (with_reducible first | exact HB.out | apply b0_ | apply b1_ | apply b2_) | exact HB.out)))); have n1_ := M_ (below_step (by repeat (first | (with_reducible first | exact HB.out | apply b0_ | apply b1_ | apply b2_) | exact HB.out)) hb); clear HB; have HO194 := n0_; have HB := n1_; clear n0_ n1_; clear hb ho5) | ((with_reducible refine gate_dst (N := 2) rfl ?_); (try (refine gate_guard (by rfl) ?_; dsimp only)); refine Kd.R_lit (Kd.int .i64) _ 3 ?hg (N := 2) ?hd (xs := ([5, 6] : List Int)) (inner := [.int .i64 5, .int .i64 6]) (ok := fun _ => True) (okp := fun _ => True) ?hr ?hp (fun _ hk => hk) trivial (Below.refl _ _) (Nat.le_refl _) (by simp) ?_; (case hd => rfl); (case hg => rfl); (case hr => first | (go_simp; done) | (go_simp; rfl)); (case hp => exact (Reps.one (show Kd.M (Kd.int .i64) _ _ _ 5 [.int .i64 5] from rfl) (Reps.one (show Kd.M (Kd.int .i64) _ _ _ 6 [.int .i64 6] from rfl) (Reps.none _ _)))); intro v196 w6 ho7 hb hg_ hnew_; clear hg_ hnew_; (first | rw [← Ny195.out] at ho7 | (simp only [Int.reduceToNat] at ho7; rw [← Ny195.out] at ho7)); have n0_ := M_ (Kd.R_elder' (by (with_reducible repeat (first | apply a0_ | apply a1_ | apply a2_)); exact HO194.out) (Kd.R_base ho7) hb); have n1_ := M_ (Kd.R_lower (Kd.R_new' ho7 (Kd.R_lt (by (with_reducible repeat (first | apply a0_ | apply a1_ | apply a2_)); exact HO194.out))) (below_size (by repeat (first | (with_reducible first | exact HB.out | apply b0_ | apply b1_ | apply b2_) | exact HB.out)))); have n2_ := M_ (below_step (by repeat (first | (with_reducible first | exact HB.out | apply b0_ | apply b1_ | apply b2_) | exact HB.out)) hb); clear HO194; clear HB; have HO194 := n0_; have HO197 := n1_; have HB := n2_; clear n0_ n1_ n2_; clear hb ho7) | ((with_reducible refine gate_dst (N := 3) rfl ?_); (try (refine gate_guard (by rfl) ?_; dsimp only)); refine Kd.R_lit (Kd.int .i64) _ 3 ?hg (N := 3) ?hd (xs := ([3, 7] : List Int)) (inner := [.int .i64 3, .int .i64 7]) (ok := fun _ => True) (okp := fun _ => True) ?hr ?hp (fun _ hk => hk) trivial (Below.refl _ _) (Nat.le_refl _) (by simp) ?_; (case hd => rfl); (case hg => rfl); (case hr => first | (go_simp; done) | (go_simp; rfl)); (case hp => exact (Reps.one (show Kd.M (Kd.int .i64) _ _ _ 3 [.int .i64 3] from rfl) (Reps.one (show Kd.M (Kd.int .i64) _ _ _ 7 [.int .i64 7] from rfl) (Reps.none _ _)))); intro v199 w8 ho9 hb hg_ hnew_; clear hg_ hnew_; (first | rw [← Ny198.out] at ho9 | (simp only [Int.reduceToNat] at ho9; rw [← Ny198.out] at ho9)); have n0_ := M_ (Kd.R_elder' (by (with_reducible repeat (first | apply a0_ | apply a1_ | apply a2_)); exact HO194.out) (Kd.R_base ho9) hb); have n1_ := M_ (Kd.R_elder' (by (with_reducible repeat (first | apply a0_ | apply a1_ | apply a2_)); exact HO197.out) (Kd.R_base ho9) hb); have n2_ := M_ (Kd.R_lower (Kd.R_new' (Kd.R_new' ho9 (Kd.R_lt (by (with_reducible repeat (first | apply a0_ | apply a1_ | apply a2_)); exact HO194.out))) (Kd.R_lt (by (with_reducible repeat (first | apply a0_ | apply a1_ | apply a2_)); exact HO197.out))) (below_size (by repeat (first | (with_reducible first | exact HB.out | apply b0_ | apply b1_ | apply b2_) | exact HB.out)))); have n3_ := M_ (below_step (by repeat (first | (with_reducible first | exact HB.out | apply b0_ | apply b1_ | apply b2_) | exact HB.out)) hb); clear HO194; clear HO197; clear HB; have HO194 := n0_; have HO197 := n1_; have HO200 := n2_; have HB := n3_; clear n0_ n1_ n2_ n3_; clear hb ho9; obtain ⟨Ao10, co10, eo10⟩ := Kd.R_slice HO194.out; subst eo10; obtain ⟨Ao11, co11, eo11⟩ := Kd.R_slice HO197.out; subst eo11; obtain ⟨Ao12, co12, eo12⟩ := Kd.R_slice HO200.out; subst eo12) | ((with_reducible refine gate_dst (N := 4) rfl ?_); (try (refine gate_guard (by rfl) ?_; dsimp only)); refine Kd.N_lit (Kd.slice 3 (Kd.int .i64)) _ 23 ?hg (N' := 4) ?hd (xs := ([y192, y195, y198] : List (List Int))) (inner := [.slice Ao10 y192.length co10, .slice Ao11 y195.length co11, .slice Ao12 y198.length co12]) (ok := (fun _ => True)) (okp := (fun _ => True)) ?hr ?hp (fun _ hk => hk) ((show ∀ k_, w8.heap.size ≤ k_ → (fun _ => True) k_ from fun k_ hk => trivial) _ (Nat.le_refl _)) (Below.refl _ _) (Nat.le_refl _) (by simp) ?_; (case hd => rfl); (case hg => rfl); (case hr => first | (go_simp; done) | (go_simp; rfl)); (case hp => exact (Reps.one (show Kd.FK (Kd.slice 3 (Kd.int .i64)) _ _ y192 [.slice Ao10 y192.length co10] from (Kd.FK_slice_mk (Kd.R_reads' (Kd.R_mono (ok' := (fun _ => True)) (HO194.out) (fun k_ hk => trivial))).2.1 (Kd.R_F (Kd.R_mono (ok' := (fun _ => True)) (HO194.out) (fun k_ hk => trivial))))) (Reps.one (show Kd.FK (Kd.slice 3 (Kd.int .i64)) _ _ y195 [.slice Ao11 y195.length co11] from (Kd.FK_slice_mk (Kd.R_reads' (Kd.R_mono (ok' := (fun _ => True)) (HO197.out) (fun k_ hk => trivial))).2.1 (Kd.R_F (Kd.R_mono (ok' := (fun _ => True)) (HO197.out) (fun k_ hk => trivial))))) (Reps.one (show Kd.FK (Kd.slice 3 (Kd.int .i64)) _ _ y198 [.slice Ao12 y198.length co12] from (Kd.FK_slice_mk (Kd.R_reads' (Kd.R_mono (ok' := (fun _ => True)) (HO200.out) (fun k_ hk => trivial))).2.1 (Kd.R_F (Kd.R_mono (ok' := (fun _ => True)) (HO200.out) (fun k_ hk => trivial))))) (Reps.none _ _))))); intro v202 w13 ho14 hb hg_ hnew_; clear hg_ hnew_; (first | rw [← Ny201.out] at ho14 | (simp only [Int.reduceToNat] at ho14; rw [← Ny201.out] at ho14)); have n0_ := M_ (Kd.N_lower ho14 (below_size (by repeat (first | (with_reducible first | exact HB.out | apply b0_ | apply b1_ | apply b2_) | exact HB.out)))); have n1_ := M_ (below_step (by repeat (first | (with_reducible first | exact HB.out | apply b0_ | apply b1_ | apply b2_) | exact HB.out)) hb); clear HB; clear HO194; clear HO197; clear HO200; have HO203 := n0_; have HB := n1_; clear n0_ n1_; clear hb ho14) | ((with_reducible refine gate_dst (N := 5) rfl ?_); (try (refine gate_guard (by rfl) ?_; dsimp only)); refine Kd.R_lit (Kd.int .i64) _ 3 ?hg (N := 5) ?hd (xs := ([8, 2] : List Int)) (inner := [.int .i64 8, .int .i64 2]) (ok := fun _ => True) (okp := fun _ => True) ?hr ?hp (fun _ hk => hk) trivial (Below.refl _ _) (Nat.le_refl _) (by simp) ?_; (case hd => rfl); (case hg => rfl); (case hr => first | (go_simp; done) | (go_simp; rfl)); (case hp => exact (Reps.one (show Kd.M (Kd.int .i64) _ _ _ 8 [.int .i64 8] from rfl) (Reps.one (show Kd.M (Kd.int .i64) _ _ _ 2 [.int .i64 2] from rfl) (Reps.none _ _)))); intro v205 w15 ho16 hb hg_ hnew_; clear hg_ hnew_; (first | rw [← Ny204.out] at ho16 | (simp only [Int.reduceToNat] at ho16; rw [← Ny204.out] at ho16)); have n0_ := M_ (Kd.N_elder' (by (with_reducible repeat (first | apply a6_ | apply a7_ | apply a8_)); exact HO203.out) (Kd.R_base ho16) hb); have n1_ := M_ (Kd.R_lower ho16 (below_size (by repeat (first | (with_reducible first | exact HB.out | apply b0_ | apply b1_ | apply b2_) | exact HB.out)))); have n2_ := M_ (below_step (by repeat (first | (with_reducible first | exact HB.out | apply b0_ | apply b1_ | apply b2_) | exact HB.out)) hb); clear HO203; clear HB; have HO203 := n0_; have HO206 := n1_; have HB := n2_; clear n0_ n1_ n2_; clear hb ho16) | ((with_reducible refine gate_dst (N := 6) rfl ?_); (try (refine gate_guard (by rfl) ?_; dsimp only)); refine Kd.R_lit (Kd.int .i64) _ 3 ?hg (N := 6) ?hd (xs := ([3] : List Int)) (inner := [.int .i64 3]) (ok := fun _ => True) (okp := fun _ => True) ?hr ?hp (fun _ hk => hk) trivial (Below.refl _ _) (Nat.le_refl _) (by simp) ?_; (case hd => rfl); (case hg => rfl); (case hr => first | (go_simp; done) | (go_simp; rfl)); (case hp => exact (Reps.one (show Kd.M (Kd.int .i64) _ _ _ 3 [.int .i64 3] from rfl) (Reps.none _ _))); intro v208 w17 ho18 hb hg_ hnew_; clear hg_ hnew_; (first | rw [← Ny207.out] at ho18 | (simp only [Int.reduceToNat] at ho18; rw [← Ny207.out] at ho18)); have n0_ := M_ (Kd.N_elder' (by (with_reducible repeat (first | apply a6_ | apply a7_ | apply a8_)); exact HO203.out) (Kd.R_base ho18) hb); have n1_ := M_ (Kd.R_elder' (by (with_reducible repeat (first | apply a0_ | apply a1_ | apply a2_)); exact HO206.out) (Kd.R_base ho18) hb); have n2_ := M_ (Kd.R_lower (Kd.R_new' ho18 (Kd.R_lt (by (with_reducible repeat (first | apply a0_ | apply a1_ | apply a2_)); exact HO206.out))) (below_size (by repeat (first | (with_reducible first | exact HB.out | apply b0_ | apply b1_ | apply b2_) | exact HB.out)))); have n3_ := M_ (below_step (by repeat (first | (with_reducible first | exact HB.out | apply b0_ | apply b1_ | apply b2_) | exact HB.out)) hb); clear HO203; clear HO206; clear HB; have HO203 := n0_; have HO206 := n1_; have HO209 := n2_; have HB := n3_; clear n0_ n1_ n2_ n3_; clear hb ho18; obtain ⟨Ao19, co19, eo19⟩ := Kd.N_slice HO203.out; subst eo19; obtain ⟨Ao20, co20, eo20⟩ := Kd.R_slice HO206.out; subst eo20; obtain ⟨Ao21, co21, eo21⟩ := Kd.R_slice HO209.out; subst eo21) | ((with_reducible refine gate_callee (f := 34) rfl ?_); refine goesL_ (some 7) rfl rfl Try.func34 (by kernel_rfl) rfl #[.slice Ao19 y201.length co19, .slice Ao20 y204.length co20, .slice Ao21 y207.length co21] rfl (by (try simp only [List.map_toArray, List.map_cons, List.map_nil]); first | done | rfl | (simp only [List.length_drop, List.length_take]; rfl)) ?_; (with_reducible refine (spiritlevellaw17_learns.calls k _ _ y201 _ _ y204 _ _ y207 true _ ?side1 ?side2 ?side3 ?side4 ?side5 ?side6 A1.out).mono ?_); (case side1 => repeat (first | exact (Kd.N_reads' HO203.out).2.2 | (with_reducible refine c0_ ?_ _) | (with_reducible refine c1_ ?_ _) | (with_reducible refine c2_ ?_))); (case side2 => exact (Kd.N_reads' HO203.out).2.1); (case side3 => repeat (first | exact (Kd.R_reads' HO206.out).2.2 | (with_reducible refine c0_ ?_ _) | (with_reducible refine c1_ ?_ _) | (with_reducible refine c2_ ?_))); (case side4 => exact (Kd.R_reads' HO206.out).2.1); (case side5 => repeat (first | exact (Kd.R_reads' HO209.out).2.2 | (with_reducible refine c0_ ?_ _) | (with_reducible refine c1_ ?_ _) | (with_reducible refine c2_ ?_))); (case side6 => exact (Kd.R_reads' HO209.out).2.1); rintro e w22 ⟨rfl, hb⟩; refine ⟨_, rfl, ?_⟩; have n0_ := M_ (Kd.N_below (by (with_reducible repeat (first | apply a6_ | apply a7_ | apply a8_)); exact HO203.out) hb); have n1_ := M_ (Kd.R_below (by (with_reducible repeat (first | apply a0_ | apply a1_ | apply a2_)); exact HO206.out) hb); have n2_ := M_ (Kd.R_below (by (with_reducible repeat (first | apply a0_ | apply a1_ | apply a2_)); exact HO209.out) hb); have n3_ := M_ (below_step (by repeat (first | (with_reducible first | exact HB.out | apply b0_ | apply b1_ | apply b2_) | exact HB.out)) hb); clear HO203; clear HO206; clear HO209; clear HB; have HO203 := n0_; have HO206 := n1_; have HO209 := n2_; have HB := n3_; clear n0_ n1_ n2_ n3_; (try clear hb); (try clear hb2); (try clear hk); (try clear hi)) | ((with_reducible refine gate_dst (N := 9) rfl ?_); (try (refine gate_guard (by rfl) ?_; dsimp only)); refine Kd.R_lit (Kd.int .i64) _ 3 ?hg (N := 9) ?hd (xs := ([3, 5] : List Int)) (inner := [.int .i64 3, .int .i64 5]) (ok := fun _ => True) (okp := fun _ => True) ?hr ?hp (fun _ hk => hk) trivial (Below.refl _ _) (Nat.le_refl _) (by simp) ?_; (case hd => rfl); (case hg => rfl); (case hr => first | (go_simp; done) | (go_simp; rfl)); (case hp => exact (Reps.one (show Kd.M (Kd.int .i64) _ _ _ 3 [.int .i64 3] from rfl) (Reps.one (show Kd.M (Kd.int .i64) _ _ _ 5 [.int .i64 5] from rfl) (Reps.none _ _)))); intro v212 w23 ho24 hb hg_ hnew_; clear hg_ hnew_; (first | rw [← Ny211.out] at ho24 | (simp only [Int.reduceToNat] at ho24; rw [← Ny211.out] at ho24)); have n0_ := M_ (Kd.N_elder' (by (with_reducible repeat (first | apply a6_ | apply a7_ | apply a8_)); exact HO203.out) (Kd.R_base ho24) hb); have n1_ := M_ (Kd.R_elder' (by (with_reducible repeat (first | apply a0_ | apply a1_ | apply a2_)); exact HO206.out) (Kd.R_base ho24) hb); have n2_ := M_ (Kd.R_elder' (by (with_reducible repeat (first | apply a0_ | apply a1_ | apply a2_)); exact HO209.out) (Kd.R_base ho24) hb); have n3_ := M_ (Kd.R_lower (Kd.R_new' (Kd.R_new' ho24 (Kd.R_lt (by (with_reducible repeat (first | apply a0_ | apply a1_ | apply a2_)); exact HO206.out))) (Kd.R_lt (by (with_reducible repeat (first | apply a0_ | apply a1_ | apply a2_)); exact HO209.out))) (below_size (by repeat (first | (with_reducible first | exact HB.out | apply b0_ | apply b1_ | apply b2_) | exact HB.out)))); have n4_ := M_ (below_step (by repeat (first | (with_reducible first | exact HB.out | apply b0_ | apply b1_ | apply b2_) | exact HB.out)) hb); clear HO203; clear HO206; clear HO209; clear HB; have HO203 := n0_; have HO206 := n1_; have HO209 := n2_; have HO213 := n3_; have HB := n4_; clear n0_ n1_ n2_ n3_ n4_; clear hb ho24) | ((with_reducible refine gate_dst (N := 10) rfl ?_); (try (refine gate_guard (by rfl) ?_; dsimp only)); refine Kd.R_lit (Kd.int .i64) _ 3 ?hg (N := 10) ?hd (xs := ([3, 4, 7] : List Int)) (inner := [.int .i64 3, .int .i64 4, .int .i64 7]) (ok := fun _ => True) (okp := fun _ => True) ?hr ?hp (fun _ hk => hk) trivial (Below.refl _ _) (Nat.le_refl _) (by simp) ?_; (case hd => rfl); (case hg => rfl); (case hr => first | (go_simp; done) | (go_simp; rfl)); (case hp => exact (Reps.one (show Kd.M (Kd.int .i64) _ _ _ 3 [.int .i64 3] from rfl) (Reps.one (show Kd.M (Kd.int .i64) _ _ _ 4 [.int .i64 4] from rfl) (Reps.one (show Kd.M (Kd.int .i64) _ _ _ 7 [.int .i64 7] from rfl) (Reps.none _ _))))); intro v215 w25 ho26 hb hg_ hnew_; clear hg_ hnew_; (first | rw [← Ny214.out] at ho26 | (simp only [Int.reduceToNat] at ho26; rw [← Ny214.out] at ho26)); have n0_ := M_ (Kd.N_elder' (by (with_reducible repeat (first | apply a6_ | apply a7_ | apply a8_)); exact HO203.out) (Kd.R_base ho26) hb); have n1_ := M_ (Kd.R_elder' (by (with_reducible repeat (first | apply a0_ | apply a1_ | apply a2_)); exact HO206.out) (Kd.R_base ho26) hb); have n2_ := M_ (Kd.R_elder' (by (with_reducible repeat (first | apply a0_ | apply a1_ | apply a2_)); exact HO209.out) (Kd.R_base ho26) hb); have n3_ := M_ (Kd.R_elder' (by (with_reducible repeat (first | apply a0_ | apply a1_ | apply a2_)); exact HO213.out) (Kd.R_base ho26) hb); have n4_ := M_ (Kd.R_lower (Kd.R_new' (Kd.R_new' (Kd.R_new' ho26 (Kd.R_lt (by (with_reducible repeat (first | apply a0_ | apply a1_ | apply a2_)); exact HO206.out))) (Kd.R_lt (by (with_reducible repeat (first | apply a0_ | apply a1_ | apply a2_)); exact HO209.out))) (Kd.R_lt (by (with_reducible repeat (first | apply a0_ | apply a1_ | apply a2_)); exact HO213.out))) (below_size (by repeat (first | (with_reducible first | exact HB.out | apply b0_ | apply b1_ | apply b2_) | exact HB.out)))); have n5_ := M_ (below_step (by repeat (first | (with_reducible first | exact HB.out | apply b0_ | apply b1_ | apply b2_) | exact HB.out)) hb); clear HO203; clear HO206; clear HO209; clear HO213; clear HB; have HO203 := n0_; have HO206 := n1_; have HO209 := n2_; have HO213 := n3_; have HO216 := n4_; have HB := n5_; clear n0_ n1_ n2_ n3_ n4_ n5_; clear hb ho26; obtain ⟨Ao27, co27, eo27⟩ := Kd.R_slice HO213.out; subst eo27; obtain ⟨Ao28, co28, eo28⟩ := Kd.R_slice HO216.out; subst eo28) | ((with_reducible refine gate_dst (N := 11) rfl ?_); (try (refine gate_guard (by rfl) ?_; dsimp only)); refine Kd.N_lit (Kd.slice 3 (Kd.int .i64)) _ 23 ?hg (N' := 11) ?hd (xs := ([y211, y214] : List (List Int))) (inner := [.slice Ao27 y211.length co27, .slice Ao28 y214.length co28]) (ok := (fun k_ => some k_ ≠ (.slice Ao19 y201.length co19 : Value).ownBlock ∧ some k_ ≠ (.slice Ao20 y204.length co20 : Value).ownBlock ∧ some k_ ≠ (.slice Ao21 y207.length co21 : Value).ownBlock)) (okp := (fun k_ => some k_ ≠ (.slice Ao19 y201.length co19 : Value).ownBlock ∧ some k_ ≠ (.slice Ao20 y204.length co20 : Value).ownBlock ∧ some k_ ≠ (.slice Ao21 y207.length co21 : Value).ownBlock)) ?hr ?hp (fun _ hk => hk) ((show ∀ k_, w25.heap.size ≤ k_ → (fun k_ => some k_ ≠ (.slice Ao19 y201.length co19 : Value).ownBlock ∧ some k_ ≠ (.slice Ao20 y204.length co20 : Value).ownBlock ∧ some k_ ≠ (.slice Ao21 y207.length co21 : Value).ownBlock) k_ from fun k_ hk => ⟨Kd.fresh' (Kd.N_lt (by (with_reducible repeat (first | apply a6_ | apply a7_ | apply a8_)); exact HO203.out)) k_ hk, Kd.fresh' (Kd.R_lt (by (with_reducible repeat (first | apply a0_ | apply a1_ | apply a2_)); exact HO206.out)) k_ hk, Kd.fresh' (Kd.R_lt (by (with_reducible repeat (first | apply a0_ | apply a1_ | apply a2_)); exact HO209.out)) k_ hk⟩) _ (Nat.le_refl _)) (Below.refl _ _) (Nat.le_refl _) (by simp) ?_; (case hd => rfl); (case hg => rfl); (case hr => first | (go_simp; done) | (go_simp; rfl)); (case hp => exact (Reps.one (show Kd.FK (Kd.slice 3 (Kd.int .i64)) _ _ y211 [.slice Ao27 y211.length co27] from (Kd.FK_slice_mk (Kd.R_reads' (Kd.R_mono (ok' := (fun k_ => some k_ ≠ (.slice Ao19 y201.length co19 : Value).ownBlock ∧ some k_ ≠ (.slice Ao20 y204.length co20 : Value).ownBlock ∧ some k_ ≠ (.slice Ao21 y207.length co21 : Value).ownBlock)) (Kd.R_apart' (HO213.out) (Kd.N_typed HO203.out) (by decide)) (fun k_ hk => ⟨hk.2, ⟨hk.1.1.1.2, hk.1.1.2⟩⟩))).2.1 (Kd.R_F (Kd.R_mono (ok' := (fun k_ => some k_ ≠ (.slice Ao19 y201.length co19 : Value).ownBlock ∧ some k_ ≠ (.slice Ao20 y204.length co20 : Value).ownBlock ∧ some k_ ≠ (.slice Ao21 y207.length co21 : Value).ownBlock)) (Kd.R_apart' (HO213.out) (Kd.N_typed HO203.out) (by decide)) (fun k_ hk => ⟨hk.2, ⟨hk.1.1.1.2, hk.1.1.2⟩⟩))))) (Reps.one (show Kd.FK (Kd.slice 3 (Kd.int .i64)) _ _ y214 [.slice Ao28 y214.length co28] from (Kd.FK_slice_mk (Kd.R_reads' (Kd.R_mono (ok' := (fun k_ => some k_ ≠ (.slice Ao19 y201.length co19 : Value).ownBlock ∧ some k_ ≠ (.slice Ao20 y204.length co20 : Value).ownBlock ∧ some k_ ≠ (.slice Ao21 y207.length co21 : Value).ownBlock)) (Kd.R_apart' (HO216.out) (Kd.N_typed HO203.out) (by decide)) (fun k_ hk => ⟨hk.2, ⟨hk.1.1.1.2, hk.1.1.2⟩⟩))).2.1 (Kd.R_F (Kd.R_mono (ok' := (fun k_ => some k_ ≠ (.slice Ao19 y201.length co19 : Value).ownBlock ∧ some k_ ≠ (.slice Ao20 y204.length co20 : Value).ownBlock ∧ some k_ ≠ (.slice Ao21 y207.length co21 : Value).ownBlock)) (Kd.R_apart' (HO216.out) (Kd.N_typed HO203.out) (by decide)) (fun k_ hk => ⟨hk.2, ⟨hk.1.1.1.2, hk.1.1.2⟩⟩))))) (Reps.none _ _)))); intro v218 w29 ho30 hb hg_ hnew_; clear hg_ hnew_; (first | rw [← Ny217.out] at ho30 | (simp only [Int.reduceToNat] at ho30; rw [← Ny217.out] at ho30)); have n0_ := M_ (Kd.N_elder' (by (with_reducible repeat (first | apply a6_ | apply a7_ | apply a8_)); exact HO203.out) (Kd.N_base ho30) hb); have n1_ := M_ (Kd.R_below (by (with_reducible repeat (first | apply a0_ | apply a1_ | apply a2_)); exact HO206.out) hb); have n2_ := M_ (Kd.R_below (by (with_reducible repeat (first | apply a0_ | apply a1_ | apply a2_)); exact HO209.out) hb); have n3_ := M_ (Kd.N_lower ho30 (below_size (by repeat (first | (with_reducible first | exact HB.out | apply b0_ | apply b1_ | apply b2_) | exact HB.out)))); have n4_ := M_ (below_step (by repeat (first | (with_reducible first | exact HB.out | apply b0_ | apply b1_ | apply b2_) | exact HB.out)) hb); clear HO203; clear HO206; clear HO209; clear HB; clear HO213; clear HO216; have HO203 := n0_; have HO206 := n1_; have HO209 := n2_; have HO219 := n3_; have HB := n4_; clear n0_ n1_ n2_ n3_ n4_; clear hb ho30) | ((with_reducible refine gate_dst (N := 12) rfl ?_); (try (refine gate_guard (by rfl) ?_; dsimp only)); refine Kd.R_lit (Kd.int .i64) _ 3 ?hg (N := 12) ?hd (xs := ([2, 6] : List Int)) (inner := [.int .i64 2, .int .i64 6]) (ok := fun _ => True) (okp := fun _ => True) ?hr ?hp (fun _ hk => hk) trivial (Below.refl _ _) (Nat.le_refl _) (by simp) ?_; (case hd => rfl); (case hg => rfl); (case hr => first | (go_simp; done) | (go_simp; rfl)); (case hp => exact (Reps.one (show Kd.M (Kd.int .i64) _ _ _ 2 [.int .i64 2] from rfl) (Reps.one (show Kd.M (Kd.int .i64) _ _ _ 6 [.int .i64 6] from rfl) (Reps.none _ _)))); intro v221 w31 ho32 hb hg_ hnew_; clear hg_ hnew_; (first | rw [← Ny220.out] at ho32 | (simp only [Int.reduceToNat] at ho32; rw [← Ny220.out] at ho32)); have n0_ := M_ (Kd.N_elder' (by (with_reducible repeat (first | apply a6_ | apply a7_ | apply a8_)); exact HO203.out) (Kd.R_base ho32) hb); have n1_ := M_ (Kd.R_elder' (by (with_reducible repeat (first | apply a0_ | apply a1_ | apply a2_)); exact HO206.out) (Kd.R_base ho32) hb); have n2_ := M_ (Kd.R_elder' (by (with_reducible repeat (first | apply a0_ | apply a1_ | apply a2_)); exact HO209.out) (Kd.R_base ho32) hb); have n3_ := M_ (Kd.N_elder' (by (with_reducible repeat (first | apply a6_ | apply a7_ | apply a8_)); exact HO219.out) (Kd.R_base ho32) hb); have n4_ := M_ (Kd.R_lower (Kd.R_new' (Kd.R_new' ho32 (Kd.R_lt (by (with_reducible repeat (first | apply a0_ | apply a1_ | apply a2_)); exact HO206.out))) (Kd.R_lt (by (with_reducible repeat (first | apply a0_ | apply a1_ | apply a2_)); exact HO209.out))) (below_size (by repeat (first | (with_reducible first | exact HB.out | apply b0_ | apply b1_ | apply b2_) | exact HB.out)))); have n5_ := M_ (below_step (by repeat (first | (with_reducible first | exact HB.out | apply b0_ | apply b1_ | apply b2_) | exact HB.out)) hb); clear HO203; clear HO206; clear HO209; clear HO219; clear HB; have HO203 := n0_; have HO206 := n1_; have HO209 := n2_; have HO219 := n3_; have HO222 := n4_; have HB := n5_; clear n0_ n1_ n2_ n3_ n4_ n5_; clear hb ho32) | ((with_reducible refine gate_dst (N := 13) rfl ?_); (try (refine gate_guard (by rfl) ?_; dsimp only)); refine Kd.R_lit (Kd.int .i64) _ 3 ?hg (N := 13) ?hd (xs := ([3, 7] : List Int)) (inner := [.int .i64 3, .int .i64 7]) (ok := fun _ => True) (okp := fun _ => True) ?hr ?hp (fun _ hk => hk) trivial (Below.refl _ _) (Nat.le_refl _) (by simp) ?_; (case hd => rfl); (case hg => rfl); (case hr => first | (go_simp; done) | (go_simp; rfl)); (case hp => exact (Reps.one (show Kd.M (Kd.int .i64) _ _ _ 3 [.int .i64 3] from rfl) (Reps.one (show Kd.M (Kd.int .i64) _ _ _ 7 [.int .i64 7] from rfl) (Reps.none _ _)))); intro v224 w33 ho34 hb hg_ hnew_; clear hg_ hnew_; (first | rw [← Ny223.out] at ho34 | (simp only [Int.reduceToNat] at ho34; rw [← Ny223.out] at ho34)); have n0_ := M_ (Kd.N_elder' (by (with_reducible repeat (first | apply a6_ | apply a7_ | apply a8_)); exact HO203.out) (Kd.R_base ho34) hb); have n1_ := M_ (Kd.R_elder' (by (with_reducible repeat (first | apply a0_ | apply a1_ | apply a2_)); exact HO206.out) (Kd.R_base ho34) hb); have n2_ := M_ (Kd.R_elder' (by (with_reducible repeat (first | apply a0_ | apply a1_ | apply a2_)); exact HO209.out) (Kd.R_base ho34) hb); have n3_ := M_ (Kd.N_elder' (by (with_reducible repeat (first | apply a6_ | apply a7_ | apply a8_)); exact HO219.out) (Kd.R_base ho34) hb); have n4_ := M_ (Kd.R_elder' (by (with_reducible repeat (first | apply a0_ | apply a1_ | apply a2_)); exact HO222.out) (Kd.R_base ho34) hb); have n5_ := M_ (Kd.R_lower (Kd.R_new' (Kd.R_new' (Kd.R_new' ho34 (Kd.R_lt (by (with_reducible repeat (first | apply a0_ | apply a1_ | apply a2_)); exact HO206.out))) (Kd.R_lt (by (with_reducible repeat (first | apply a0_ | apply a1_ | apply a2_)); exact HO209.out))) (Kd.R_lt (by (with_reducible repeat (first | apply a0_ | apply a1_ | apply a2_)); exact HO222.out))) (below_size (by repeat (first | (with_reducible first | exact HB.out | apply b0_ | apply b1_ | apply b2_) | exact HB.out)))); have n6_ := M_ (below_step (by repeat (first | (with_reducible first | exact HB.out | apply b0_ | apply b1_ | apply b2_) | exact HB.out)) hb); clear HO203; clear HO206; clear HO209; clear HO219; clear HO222; clear HB; have HO203 := n0_; have HO206 := n1_; have HO209 := n2_; have HO219 := n3_; have HO222 := n4_; have HO225 := n5_; have HB := n6_; clear n0_ n1_ n2_ n3_ n4_ n5_ n6_; clear hb ho34; obtain ⟨Ao35, co35, eo35⟩ := Kd.N_slice HO219.out; subst eo35; obtain ⟨Ao36, co36, eo36⟩ := Kd.R_slice HO222.out; subst eo36; obtain ⟨Ao37, co37, eo37⟩ := Kd.R_slice HO225.out; subst eo37) | (go_at_call 34; (with_reducible refine (spiritlevellaw17_learns.calls k _ _ y217 _ _ y220 _ _ y223 t226 _ ?side1 ?side2 ?side3 ?side4 ?side5 ?side6 A3.out).mono ?_); (case side1 => repeat (first | exact (Kd.N_reads' HO219.out).2.2 | (with_reducible refine c0_ ?_ _) | (with_reducible refine c1_ ?_ _) | (with_reducible refine c2_ ?_))); (case side2 => exact (Kd.N_reads' HO219.out).2.1); (case side3 => repeat (first | exact (Kd.R_reads' HO222.out).2.2 | (with_reducible refine c0_ ?_ _) | (with_reducible refine c1_ ?_ _) | (with_reducible refine c2_ ?_))); (case side4 => exact (Kd.R_reads' HO222.out).2.1); (case side5 => repeat (first | exact (Kd.R_reads' HO225.out).2.2 | (with_reducible refine c0_ ?_ _) | (with_reducible refine c1_ ?_ _) | (with_reducible refine c2_ ?_))); (case side6 => exact (Kd.R_reads' HO225.out).2.1); rintro e w38 ⟨rfl, hb⟩; have n0_ := M_ (Kd.N_below (by (with_reducible repeat (first | apply a6_ | apply a7_ | apply a8_)); exact HO203.out) hb); have n1_ := M_ (Kd.R_below (by (with_reducible repeat (first | apply a0_ | apply a1_ | apply a2_)); exact HO206.out) hb); have n2_ := M_ (Kd.R_below (by (with_reducible repeat (first | apply a0_ | apply a1_ | apply a2_)); exact HO209.out) hb); have n3_ := M_ (Kd.N_below (by (with_reducible repeat (first | apply a6_ | apply a7_ | apply a8_)); exact HO219.out) hb); have n4_ := M_ (Kd.R_below (by (with_reducible repeat (first | apply a0_ | apply a1_ | apply a2_)); exact HO222.out) hb); have n5_ := M_ (Kd.R_below (by (with_reducible repeat (first | apply a0_ | apply a1_ | apply a2_)); exact HO225.out) hb); have n6_ := M_ (below_step (by repeat (first | (with_reducible first | exact HB.out | apply b0_ | apply b1_ | apply b2_) | exact HB.out)) hb); clear HO203; clear HO206; clear HO209; clear HO219; clear HO222; clear HO225; clear HB; have HO203 := n0_; have HO206 := n1_; have HO209 := n2_; have HO219 := n3_; have HO222 := n4_; have HO225 := n5_; have HB := n6_; clear n0_ n1_ n2_ n3_ n4_ n5_ n6_; (try clear hb); (try clear hb2); (try clear hk); (try clear hi)))
  go_ret
  exact ⟨by first | rfl | (simp [errW_none, errW_some] <;> rfl) | (simp [*, errW_none, errW_some] <;> rfl), by repeat (first | (with_reducible first | exact HB.out | apply b0_ | apply b1_ | apply b2_) | exact HB.out)⟩
 ·replace c2 := Bool.eq_false_iff.mpr c2
  subst c2
  have H1 : (some false) = some r := by rw [if_neg (show ¬ (false = true) by decide)] at H; exact H
  clear H
  have H := H1
  clear H1
  exact absurd ((Option.some.inj H).trans HTR_.out) (by decide)

def spiritlevellaw17_alive.f (k : Nat) : Option (Bool) := (spiritlevellaw17_alive_t.f k).bind fun b => if b = true then some true else none
theorem spiritlevellaw17_alive.mono : ∀ k, LeO (spiritlevellaw17_alive.f k) (spiritlevellaw17_alive.f (k + 1)) := fun k => LeO.bind (spiritlevellaw17_alive_t.mono k) (fun _ => LeO.refl _)
theorem spiritlevellaw17_alive.calls (k : Nat)  (r : Bool) (w : World) (h : spiritlevellaw17_alive.f k  = some r) :
  Calls Try.prog 14 #[] w fun e w' => e = .returned (.bool r) ∧ Below w.heap.size w w' := by
 unfold spiritlevellaw17_alive.f at h
 obtain ⟨b, hb, h⟩ := Option.bind_eq_some_iff.mp h
 cases b with
 | false => simp at h
 | true =>
  rw [if_pos rfl] at h
  obtain rfl := Option.some.inj h
  exact spiritlevellaw17_alive_t.calls k true w rfl hb

/-! ### spiritlevelref15_Great: function 24 -/
mutual
def spiritlevelref15_Great.l0 : Nat → Int → List (List Int) → Int → Option (Bool)
 | 0, _, _, _ => none
 | k + 1, x0, x1, x5 => if x5 < (x1.length : Int) then (spiritlevelref15_Great.j1 k x0 x1 x5 (decide (x5 ≤ 60))) else (spiritlevelref15_Great.j1 k x0 x1 x5 false)
def spiritlevelref15_Great.j1 : Nat → Int → List (List Int) → Int → Bool → Option (Bool)
 | 0, _, _, _, _ => none
 | k + 1, x0, x1, x5, x13 => if x13 = true then (if 0 ≤ x5 then (if x5 < (x1.length : Int) then (if ((rd_L2 x1 x5).length : Int) > 40 then (some true) else (spiritlevelref15_Great.l0 k x0 x1 (wrap64 (x5 + 1)))) else (none)) else (none)) else (if (x1.length : Int) > 60 then (some true) else (if x0 > 40 then (some (x0 != 4001)) else (some false)))
end
def spiritlevelref15_Great.f (k : Nat) (a0 : Int) (l1 : List (List Int)) : Option (Bool) := spiritlevelref15_Great.l0 k a0 l1 0
theorem spiritlevelref15_Great.mono_l : ∀ k, (∀ y0 y1 y2, LeO (spiritlevelref15_Great.l0 k y0 y1 y2) (spiritlevelref15_Great.l0 (k + 1) y0 y1 y2)) ∧ (∀ y0 y1 y2 y3, LeO (spiritlevelref15_Great.j1 k y0 y1 y2 y3) (spiritlevelref15_Great.j1 (k + 1) y0 y1 y2 y3))
 | 0 => ⟨fun _ _ _ r h => by simp [spiritlevelref15_Great.l0] at h, fun _ _ _ _ r h => by simp [spiritlevelref15_Great.j1] at h⟩
 | k + 1 => by
  obtain ⟨ih0, ih1⟩ := spiritlevelref15_Great.mono_l k
  refine ⟨?_, ?_⟩
  ·intro y0 y1 y2
   unfold spiritlevelref15_Great.l0
   repeat' first
   | (with_reducible exact ih0 _ _ _)
   | (with_reducible exact ih1 _ _ _ _)
   | (with_reducible exact LeO.refl _)
   | (with_reducible exact LeO.none _)
   | (with_reducible refine LeO.ite ?_ ?_)
   | (with_reducible refine LeO.bind ?_ (fun _ => ?_))
   | exact ih0 _ _ _
   | exact ih1 _ _ _ _
   | exact LeO.none _
   | refine LeO.ite ?_ ?_
   | refine LeO.bind ?_ (fun _ => ?_)
  ·intro y0 y1 y2 y3
   unfold spiritlevelref15_Great.j1
   repeat' first
   | (with_reducible exact ih0 _ _ _)
   | (with_reducible exact ih1 _ _ _ _)
   | (with_reducible exact LeO.refl _)
   | (with_reducible exact LeO.none _)
   | (with_reducible refine LeO.ite ?_ ?_)
   | (with_reducible refine LeO.bind ?_ (fun _ => ?_))
   | exact ih0 _ _ _
   | exact ih1 _ _ _ _
   | exact LeO.none _
   | refine LeO.ite ?_ ?_
   | refine LeO.bind ?_ (fun _ => ?_)
theorem spiritlevelref15_Great.mono : ∀ a0 a1 k, LeO (spiritlevelref15_Great.f k a0 a1) (spiritlevelref15_Great.f (k + 1) a0 a1) := by
 intro a0 a1 k
 obtain ⟨ih0, ih1⟩ := spiritlevelref15_Great.mono_l k
 unfold spiritlevelref15_Great.f
 repeat' first
   | (with_reducible exact ih0 _ _ _)
   | (with_reducible exact ih1 _ _ _ _)
   | (with_reducible exact LeO.refl _)
   | (with_reducible exact LeO.none _)
   | (with_reducible refine LeO.ite ?_ ?_)
   | (with_reducible refine LeO.bind ?_ (fun _ => ?_))
   | exact ih0 _ _ _
   | exact ih1 _ _ _ _
   | exact LeO.none _
   | refine LeO.ite ?_ ?_
   | refine LeO.bind ?_ (fun _ => ?_)
set_option maxHeartbeats 8000000 in
set_option maxRecDepth 100000 in
theorem spiritlevelref15_Great.calls (k : Nat) (a0 : Int) (A1 : Option Addr) (c1 : Nat) (l1 : List (List Int)) (r : Bool) (w : World) (hr1 : Kd.C (Kd.slice 3 (Kd.int .i64)) w A1 l1.length l1) (hc1 : l1.length ≤ c1) (h : spiritlevelref15_Great.f k a0 l1 = some r) :
  Calls Try.prog 24 #[.int .i64 a0, .slice A1 l1.length c1] w fun e w' => e = .returned (.bool r) ∧ Drawn0 w w' := by
 have HR1 := M_ hr1
 have HC1 := M_ hc1
 clear hr1 hc1
 have H : (spiritlevelref15_Great.l0 k a0 l1 0) = some r := h
 clear h
 have H' := M_ H
 clear H
 go_enter Try.func24, Try.ntmps24
 go_wp2
 go_loopg [5] k (fun kq v5 w' => ∃ (x5_1 : Int), v5 = .int .i64 x5_1 ∧ Aside0 (spiritlevelref15_Great.l0 kq a0 l1 x5_1 = some r) ∧ Aside0 (kq ≤ k) ∧ Drawn0 w w')
 case atStart => exact ⟨(0), (by first | rfl | (simp; done) | (simp [*]; done)), H', ⟨Nat.le_refl _⟩, by repeat (first | exact Drawn0.refl _ | apply Drawn0.step)⟩
 case round =>
  clear H'
  try clear c1
  try clear c2
  try clear p2
  obtain ⟨x5_1, rfl, HA, HK1, ⟨m1, rfl⟩⟩ := hrel
  cases gk with
  | zero => exact absurd HA.out (by simp [spiritlevelref15_Great.l0])
  | succ k1 =>
   have H := HA.out
   clear HA
   simp only [spiritlevelref15_Great.l0] at H
   have HC3 := M_ H
   clear H
   go_upto_region 2 with (fail)
   go_cut [13] (fun v13 wc => ∃ (kq : Nat) (x13_2 : Bool), v13 = .bool x13_2 ∧ Aside0 (spiritlevelref15_Great.j1 kq a0 l1 x5_1 x13_2 = some r) ∧ Aside0 (kq ≤ k1) ∧ Drawn0 w wc)
   case first =>
    have H := HC3.out
    clear HC3
    by_cases c4 : x5_1 < (l1.length : Int)
    ·rw [if_pos c4] at H
     have c4b0 : decide (x5_1 < (l1.length : Int)) = true := decide_eq_true c4
     clear c4
     (first | rw [c4b0] | (simp only [i64_w, i32_w]; rw [c4b0]) | skip)
     have H' := M_ H
     clear H
     go_wp2
     go_meet
     case rel => exact ⟨_, (decide (x5_1 ≤ 60)), (by first | rfl | (simp; done) | (simp [*]; done)), H', ⟨by have := HK1.out; first | omega | exact Nat.le_refl _⟩, by repeat (first | exact Drawn0.refl _ | apply Drawn0.step)⟩
    ·rw [if_neg c4] at H
     have c4b0 : decide (x5_1 < (l1.length : Int)) = false := decide_eq_false c4
     clear c4
     (first | rw [c4b0] | (simp only [i64_w, i32_w]; rw [c4b0]) | skip)
     have H' := M_ H
     clear H
     go_wp2
     go_meet
     case rel => exact ⟨_, (false), (by first | rfl | (simp; done) | (simp [*]; done)), H', ⟨by have := HK1.out; first | omega | exact Nat.le_refl _⟩, by repeat (first | exact Drawn0.refl _ | apply Drawn0.step)⟩
   case rest =>
    clear HC3
    try clear c1
    try clear c2
    try clear p2
    try clear c4
    try clear c4b0
    try clear p2
    obtain ⟨kq, x13_2, rfl, HA, HJ2, ⟨mc2, rfl⟩⟩ := hcut
    cases kq with
    | zero => exact absurd HA.out (by simp [spiritlevelref15_Great.j1])
    | succ kj2 =>
     have H := HA.out
     clear HA
     simp only [spiritlevelref15_Great.j1] at H
     by_cases c5 : x13_2 = true
     ·subst c5
      have H1 : (if 0 ≤ x5_1 then (if x5_1 < (l1.length : Int) then (if ((rd_L2 l1 x5_1).length : Int) > 40 then (some true) else (spiritlevelref15_Great.l0 kj2 a0 l1 (wrap64 (x5_1 + 1)))) else (none)) else (none)) = some r := by rw [if_pos rfl] at H; exact H
      clear H
      have H := H1
      clear H1
      by_cases c6 : 0 ≤ x5_1
      ·rw [if_pos c6] at H
       have c6b0 : decide (0 ≤ x5_1) = true := decide_eq_true c6
       clear c6
       by_cases c7 : x5_1 < (l1.length : Int)
       ·rw [if_pos c7] at H
        have c7b0 : decide (x5_1 < (l1.length : Int)) = true := decide_eq_true c7
        clear c7
        by_cases c8 : ((rd_L2 l1 x5_1).length : Int) > 40
        ·rw [if_pos c8] at H
         have c8b0 : decide (40 < ((rd_L2 l1 x5_1).length : Int)) = true := decide_eq_true c8
         have c8b1 : decide (40 < (rd_L2 l1 x5_1).length) = true := decide_eq_true (by omega)
         clear c8
         obtain rfl := Option.some.inj H
         have p227 : 0 ≤ (x5_1 : Int) := of_decide_eq_true (by first | (with_reducible assumption) | assumption)
         have q227 : x5_1 < (l1.length : Int) := of_decide_eq_true (by first | (with_reducible assumption) | assumption)
         obtain ⟨ad227, A227_0, c227_0, e227, hx227_0, hl227_0, hi227_0⟩ := at_L2 HR1.out x5_1 p227 q227
         cases e227
         have HR227_0 := M_ hi227_0
         have HC227_0 := M_ hl227_0
         clear hi227_0 hl227_0
         replace p227 := eq_true p227
         replace q227 := eq_true q227
         go_wp2
         go_ret
         exact ⟨by first | rfl | (simp; done) | (simp [*]; done), by repeat (first | exact Drawn0.refl _ | apply Drawn0.step)⟩
        ·rw [if_neg c8] at H
         have c8b0 : decide (40 < ((rd_L2 l1 x5_1).length : Int)) = false := decide_eq_false c8
         have c8b1 : decide (40 < (rd_L2 l1 x5_1).length) = false := decide_eq_false (by omega)
         clear c8
         have H' := M_ H
         clear H
         have p227 : 0 ≤ (x5_1 : Int) := of_decide_eq_true (by first | (with_reducible assumption) | assumption)
         have q227 : x5_1 < (l1.length : Int) := of_decide_eq_true (by first | (with_reducible assumption) | assumption)
         obtain ⟨ad227, A227_0, c227_0, e227, hx227_0, hl227_0, hi227_0⟩ := at_L2 HR1.out x5_1 p227 q227
         cases e227
         have HR227_0 := M_ hi227_0
         have HC227_0 := M_ hl227_0
         clear hi227_0 hl227_0
         replace p227 := eq_true p227
         replace q227 := eq_true q227
         go_wp2
         go_roundg kj2
         case measure => have := HK1.out; have := HJ2.out; omega
         case rel => exact ⟨(wrap64 (x5_1 + 1)), (by first | rfl | (simp; done) | (simp [*]; done)), H', ⟨by have := HK1.out; have := HJ2.out; omega⟩, by repeat (first | exact Drawn0.refl _ | apply Drawn0.step)⟩
       ·rw [if_neg c7] at H
        exact absurd H (by simp)
      ·rw [if_neg c6] at H
       exact absurd H (by simp)
     ·replace c5 := Bool.eq_false_iff.mpr c5
      subst c5
      have H1 : (if (l1.length : Int) > 60 then (some true) else (if a0 > 40 then (some (a0 != 4001)) else (some false))) = some r := by rw [if_neg (show ¬ (false = true) by decide)] at H; exact H
      clear H
      have H := H1
      clear H1
      by_cases c9 : (l1.length : Int) > 60
      ·rw [if_pos c9] at H
       have c9b0 : decide (60 < (l1.length : Int)) = true := decide_eq_true c9
       have c9b1 : decide (60 < l1.length) = true := decide_eq_true (by omega)
       clear c9
       obtain rfl := Option.some.inj H
       go_wp2
       go_ret
       exact ⟨by first | rfl | (simp; done) | (simp [*]; done), by repeat (first | exact Drawn0.refl _ | apply Drawn0.step)⟩
      ·rw [if_neg c9] at H
       have c9b0 : decide (60 < (l1.length : Int)) = false := decide_eq_false c9
       have c9b1 : decide (60 < l1.length) = false := decide_eq_false (by omega)
       clear c9
       by_cases c10 : a0 > 40
       ·rw [if_pos c10] at H
        have c10b0 : decide (40 < a0) = true := decide_eq_true c10
        clear c10
        obtain rfl := Option.some.inj H
        go_wp2
        go_ret
        exact ⟨by first | rfl | (simp; done) | (simp [*]; done), by repeat (first | exact Drawn0.refl _ | apply Drawn0.step)⟩
       ·rw [if_neg c10] at H
        have c10b0 : decide (40 < a0) = false := decide_eq_false c10
        clear c10
        obtain rfl := Option.some.inj H
        go_wp2
        go_ret
        exact ⟨by first | rfl | (simp; done) | (simp [*]; done), by repeat (first | exact Drawn0.refl _ | apply Drawn0.step)⟩

/-! ### spiritlevellaw17_great: function 8 -/
def spiritlevellaw17_great.f (k : Nat) (a0 : Int) (l1 : List (List Int)) (l2 : List Int) : Option (Bool) := (spiritlevelref15_Great.f k a0 l1).bind fun t228 => (if t228 = true then (some true) else (some (decide ((l2.length : Int) > 50))))
theorem spiritlevellaw17_great.mono : ∀ a0 a1 a2 k, LeO (spiritlevellaw17_great.f k a0 a1 a2) (spiritlevellaw17_great.f (k + 1) a0 a1 a2) := by
 intro a0 a1 a2 k
 unfold spiritlevellaw17_great.f
 repeat' first
   | (with_reducible exact spiritlevelref15_Great.mono _ _ _)
   | (with_reducible exact LeO.refl _)
   | (with_reducible exact LeO.none _)
   | (with_reducible refine LeO.ite ?_ ?_)
   | (with_reducible refine LeO.bind ?_ (fun _ => ?_))
   | exact spiritlevelref15_Great.mono _ _ _
   | exact LeO.none _
   | refine LeO.ite ?_ ?_
   | refine LeO.bind ?_ (fun _ => ?_)
set_option maxHeartbeats 8000000 in
set_option maxRecDepth 100000 in
theorem spiritlevellaw17_great.calls (k : Nat) (a0 : Int) (A1 : Option Addr) (c1 : Nat) (l1 : List (List Int)) (A2 : Option Addr) (c2 : Nat) (l2 : List Int) (r : Bool) (w : World) (hr1 : Kd.C (Kd.slice 3 (Kd.int .i64)) w A1 l1.length l1) (hc1 : l1.length ≤ c1) (hr2 : Kd.C (Kd.int .i64) w A2 l2.length l2) (hc2 : l2.length ≤ c2) (h : spiritlevellaw17_great.f k a0 l1 l2 = some r) :
  Calls Try.prog 8 #[.int .i64 a0, .slice A1 l1.length c1, .slice A2 l2.length c2] w fun e w' => e = .returned (.bool r) ∧ Drawn0 w w' := by
 have HR1 := M_ hr1
 have HC1 := M_ hc1
 clear hr1 hc1
 have HR2 := M_ hr2
 have HC2 := M_ hc2
 clear hr2 hc2
 have H : ((spiritlevelref15_Great.f k a0 l1).bind fun t228 => (if t228 = true then (some true) else (some (decide ((l2.length : Int) > 50))))) = some r := h
 clear h
 replace H := Option.bind_eq_some_iff.mp H
 obtain ⟨t228, A40, H⟩ := H
 replace H : (if t228 = true then (some true) else (some (decide ((l2.length : Int) > 50)))) = some r := H
 have A4 := M_ A40
 clear A40
 by_cases c5 : t228 = true
 ·subst c5
  have H1 : (some true) = some r := by rw [if_pos rfl] at H; exact H
  clear H
  have H := H1
  clear H1
  obtain rfl := Option.some.inj H
  go_enter Try.func8, Try.ntmps8
  go_wp2_with (first | ((with_reducible refine gate_callee (f := 24) rfl ?_); refine goesL_ (some 9) rfl rfl Try.func24 (by kernel_rfl) rfl #[.int .i64 a0, .slice A1 l1.length c1] rfl (by (try simp only [List.map_toArray, List.map_cons, List.map_nil]); first | done | rfl | (simp only [List.length_drop, List.length_take]; rfl)) ?_; (with_reducible refine (spiritlevelref15_Great.calls k a0 _ _ l1 true _ ?side1 ?side2 A4.out).mono ?_); (case side1 => repeat (first | exact HR1.out | (with_reducible refine c0_ ?_ _) | (with_reducible refine c1_ ?_ _) | (with_reducible refine c2_ ?_))); (case side2 => exact HC1.out); rintro e w' ⟨rfl, ⟨nd, rfl⟩⟩; refine ⟨_, rfl, ?_⟩))
  go_ret
  exact ⟨by first | rfl | (simp; done) | (simp [*]; done), by repeat (first | exact Drawn0.refl _ | apply Drawn0.step)⟩
 ·replace c5 := Bool.eq_false_iff.mpr c5
  subst c5
  have H1 : (some (decide ((l2.length : Int) > 50))) = some r := by rw [if_neg (show ¬ (false = true) by decide)] at H; exact H
  clear H
  have H := H1
  clear H1
  obtain rfl := Option.some.inj H
  go_enter Try.func8, Try.ntmps8
  go_wp2_with (first | ((with_reducible refine gate_callee (f := 24) rfl ?_); refine goesL_ (some 9) rfl rfl Try.func24 (by kernel_rfl) rfl #[.int .i64 a0, .slice A1 l1.length c1] rfl (by (try simp only [List.map_toArray, List.map_cons, List.map_nil]); first | done | rfl | (simp only [List.length_drop, List.length_take]; rfl)) ?_; (with_reducible refine (spiritlevelref15_Great.calls k a0 _ _ l1 false _ ?side1 ?side2 A4.out).mono ?_); (case side1 => repeat (first | exact HR1.out | (with_reducible refine c0_ ?_ _) | (with_reducible refine c1_ ?_ _) | (with_reducible refine c2_ ?_))); (case side2 => exact HC1.out); rintro e w' ⟨rfl, ⟨nd, rfl⟩⟩; refine ⟨_, rfl, ?_⟩))
  go_ret
  exact ⟨by first | rfl | (simp; done) | (simp [*]; done), by repeat (first | exact Drawn0.refl _ | apply Drawn0.step)⟩

/-! ### spiritlevelref13_Vars: function 36 -/
def spiritlevelref13_Vars.f (a0 : Int) : Option (Bool) := if a0 ≥ 0 then (some (decide (a0 ≤ 4000))) else (some false)
set_option maxHeartbeats 8000000 in
set_option maxRecDepth 100000 in
theorem spiritlevelref13_Vars.calls (a0 : Int) (r : Bool) (w : World) (h : spiritlevelref13_Vars.f a0 = some r) :
  Calls Try.prog 36 #[.int .i64 a0] w fun e w' => e = .returned (.bool r) ∧ Drawn0 w w' := by
 have H : (if a0 ≥ 0 then (some (decide (a0 ≤ 4000))) else (some false)) = some r := h
 clear h
 by_cases c2 : a0 ≥ 0
 ·rw [if_pos c2] at H
  have c2b0 : decide (0 ≤ a0) = true := decide_eq_true c2
  clear c2
  obtain rfl := Option.some.inj H
  go_enter Try.func36, Try.ntmps36
  go_wp2
  go_ret
  exact ⟨by first | rfl | (simp; done) | (simp [*]; done), by repeat (first | exact Drawn0.refl _ | apply Drawn0.step)⟩
 ·rw [if_neg c2] at H
  have c2b0 : decide (0 ≤ a0) = false := decide_eq_false c2
  clear c2
  obtain rfl := Option.some.inj H
  go_enter Try.func36, Try.ntmps36
  go_wp2
  go_ret
  exact ⟨by first | rfl | (simp; done) | (simp [*]; done), by repeat (first | exact Drawn0.refl _ | apply Drawn0.step)⟩

/-! ### spiritlevelref13_Lit: function 48 -/
def spiritlevelref13_Lit.f (a0 : Int) (a1 : Int) : Option (Bool) := if a1 ≥ 2 then (some (decide (a1 ≤ (wrap64 ((wrap64 (2 * a0)) + 1))))) else (some false)
set_option maxHeartbeats 8000000 in
set_option maxRecDepth 100000 in
theorem spiritlevelref13_Lit.calls (a0 : Int) (a1 : Int) (r : Bool) (w : World) (h : spiritlevelref13_Lit.f a0 a1 = some r) :
  Calls Try.prog 48 #[.int .i64 a0, .int .i64 a1] w fun e w' => e = .returned (.bool r) ∧ Drawn0 w w' := by
 have H : (if a1 ≥ 2 then (some (decide (a1 ≤ (wrap64 ((wrap64 (2 * a0)) + 1))))) else (some false)) = some r := h
 clear h
 by_cases c3 : a1 ≥ 2
 ·rw [if_pos c3] at H
  have c3b0 : decide (2 ≤ a1) = true := decide_eq_true c3
  clear c3
  obtain rfl := Option.some.inj H
  go_enter Try.func48, Try.ntmps48
  go_wp2
  go_ret
  exact ⟨by first | rfl | (simp; done) | (simp [*]; done), by repeat (first | exact Drawn0.refl _ | apply Drawn0.step)⟩
 ·rw [if_neg c3] at H
  have c3b0 : decide (2 ≤ a1) = false := decide_eq_false c3
  clear c3
  obtain rfl := Option.some.inj H
  go_enter Try.func48, Try.ntmps48
  go_wp2
  go_ret
  exact ⟨by first | rfl | (simp; done) | (simp [*]; done), by repeat (first | exact Drawn0.refl _ | apply Drawn0.step)⟩

/-! ### spiritlevelref13_Not: function 18 -/
def spiritlevelref13_Not.f (a0 : Int) : Option (Int) := if (Int.tmod a0 2) = 0 then (some (wrap64 (a0 + 1))) else (some (wrap64 (a0 - 1)))
set_option maxHeartbeats 8000000 in
set_option maxRecDepth 100000 in
theorem spiritlevelref13_Not.calls (a0 : Int) (r : Int) (w : World) (h : spiritlevelref13_Not.f a0 = some r) :
  Calls Try.prog 18 #[.int .i64 a0] w fun e w' => e = .returned (.int .i64 r) ∧ Drawn0 w w' := by
 have H : (if (Int.tmod a0 2) = 0 then (some (wrap64 (a0 + 1))) else (some (wrap64 (a0 - 1)))) = some r := h
 clear h
 by_cases c2 : (Int.tmod a0 2) = 0
 ·rw [if_pos c2] at H
  have c2b0 : ((Int.tmod a0 2) == 0) = true := beq_iff_eq.mpr c2
  have c2b1 : ((Int.tmod a0 2) != 0) = false := bne_eq_false_iff_eq.mpr c2
  clear c2
  obtain rfl := Option.some.inj H
  go_enter Try.func18, Try.ntmps18
  go_wp2
  go_ret
  exact ⟨by first | rfl | (simp; done) | (simp [*]; done), by repeat (first | exact Drawn0.refl _ | apply Drawn0.step)⟩
 ·rw [if_neg c2] at H
  have c2b0 : ((Int.tmod a0 2) == 0) = false := beq_eq_false_iff_ne.mpr c2
  have c2b1 : ((Int.tmod a0 2) != 0) = true := bne_iff_ne.mpr c2
  obtain rfl := Option.some.inj H
  go_enter Try.func18, Try.ntmps18
  go_wp2
  go_ret
  exact ⟨by first | rfl | (simp; done) | (simp [*]; done), by repeat (first | exact Drawn0.refl _ | apply Drawn0.step)⟩

/-! ### spiritlevelref14_Is: function 52 -/
def spiritlevelref14_Is.l0 : Nat → Int → Int → Int → List Int → List Int → Option (Int)
 | 0, _, _, _, _, _ => none
 | k + 1, x1, x5, x230000, x230001, x230002 => if x5 < (x230001.length : Int) then (if 0 ≤ x5 then (if (rd x230001 x5) = x1 then (some 1) else ((spiritlevelref13_Not.f x1).bind fun t232 => (if (rd x230001 x5) = t232 then (some 0) else (spiritlevelref14_Is.l0 k x1 (wrap64 (x5 + 1)) x230000 x230001 x230002)))) else (none)) else (some 2)
def spiritlevelref14_Is.f (k : Nat) (a0_0 : Int) (l0_1 : List Int) (l0_2 : List Int) (a1 : Int) : Option (Int) := spiritlevelref14_Is.l0 k a1 0 a0_0 l0_1 l0_2
theorem spiritlevelref14_Is.mono_l : ∀ k, (∀ y0 y1 y2 y3 y4, LeO (spiritlevelref14_Is.l0 k y0 y1 y2 y3 y4) (spiritlevelref14_Is.l0 (k + 1) y0 y1 y2 y3 y4))
 | 0 => fun _ _ _ _ _ r h => by simp [spiritlevelref14_Is.l0] at h
 | k + 1 => by
  have ih0 := spiritlevelref14_Is.mono_l k
  ·intro y0 y1 y2 y3 y4
   unfold spiritlevelref14_Is.l0
   repeat' first
   | (with_reducible exact ih0 _ _ _ _ _)
   | (with_reducible exact LeO.refl _)
   | (with_reducible exact LeO.none _)
   | (with_reducible refine LeO.ite ?_ ?_)
   | (with_reducible refine LeO.bind ?_ (fun _ => ?_))
   | exact ih0 _ _ _ _ _
   | exact LeO.none _
   | refine LeO.ite ?_ ?_
   | refine LeO.bind ?_ (fun _ => ?_)
theorem spiritlevelref14_Is.mono : ∀ a0 a1 a2 a3 k, LeO (spiritlevelref14_Is.f k a0 a1 a2 a3) (spiritlevelref14_Is.f (k + 1) a0 a1 a2 a3) := by
 intro a0 a1 a2 a3 k
 have ih0 := spiritlevelref14_Is.mono_l k
 unfold spiritlevelref14_Is.f
 repeat' first
   | (with_reducible exact ih0 _ _ _ _ _)
   | (with_reducible exact LeO.refl _)
   | (with_reducible exact LeO.none _)
   | (with_reducible refine LeO.ite ?_ ?_)
   | (with_reducible refine LeO.bind ?_ (fun _ => ?_))
   | exact ih0 _ _ _ _ _
   | exact LeO.none _
   | refine LeO.ite ?_ ?_
   | refine LeO.bind ?_ (fun _ => ?_)
set_option maxHeartbeats 8000000 in
set_option maxRecDepth 100000 in
theorem spiritlevelref14_Is.calls (k : Nat) (a0_0 : Int) (A0_1 : Option Addr) (c0_1 : Nat) (l0_1 : List Int) (A0_2 : Option Addr) (c0_2 : Nat) (l0_2 : List Int) (a1 : Int) (r : Int) (w : World) (hr0_1 : Kd.C (Kd.int .i64) w A0_1 l0_1.length l0_1) (hc0_1 : l0_1.length ≤ c0_1) (hr0_2 : Kd.C (Kd.int .i64) w A0_2 l0_2.length l0_2) (hc0_2 : l0_2.length ≤ c0_2) (h : spiritlevelref14_Is.f k a0_0 l0_1 l0_2 a1 = some r) :
  Calls Try.prog 52 #[.agg #[.int .i64 a0_0, .slice A0_1 l0_1.length c0_1, .slice A0_2 l0_2.length c0_2], .int .i64 a1] w fun e w' => e = .returned (.int .u8 r) ∧ Below w.heap.size w w' := by
 have hu63 := Try.underlying63
 have HR0_1 := M_ hr0_1
 have HC0_1 := M_ hc0_1
 clear hr0_1 hc0_1
 have HR0_2 := M_ hr0_2
 have HC0_2 := M_ hc0_2
 clear hr0_2 hc0_2
 have HB := M_ (Below.refl w.heap.size w)
 have H : (spiritlevelref14_Is.l0 k a1 0 a0_0 l0_1 l0_2) = some r := h
 clear h
 have H' := M_ H
 clear H
 go_enter Try.func52, Try.ntmps52
 go_wp2_with (first | ((with_reducible refine gate_dst (N := 2) rfl ?_); refine box_event ?hg (N := 2) ?hd (cs := #[.int .i64 a0_0, .slice A0_1 l0_1.length c0_1, .slice A0_2 l0_2.length c0_2]) (t := 63) ?hr ?_; (case hd => rfl); (case hg => rfl); (case hr => first | (go_simp; done) | (go_simp; rfl)); intro gb229 hg w3 hbox hb; have n0_ := M_ (below_step (by repeat (first | (with_reducible first | exact HB.out | apply b0_ | apply b1_ | apply b2_) | exact HB.out)) hb); have n1_ := M_ (hbox); have n2_ := M_ ((by rw [hg]; exact (below_size (by repeat (first | (with_reducible first | exact HB.out | apply b0_ | apply b1_ | apply b2_) | exact HB.out))) : w.heap.size ≤ gb229)); have n3_ := M_ ((by rw [hg]; exact (below_size (by repeat (first | (with_reducible first | exact HB.out | apply b0_ | apply b1_ | apply b2_) | exact HB.out))) : w.heap.size ≤ gb229)); clear HB; have HB := n0_; have BK229 := n1_; have GW229 := n2_; have GE229 := n3_; clear n0_ n1_ n2_ n3_; clear hb hbox hg))
 repeat (go_quiet (first | ((with_reducible refine gate_dst (N := 2) rfl ?_); refine box_event ?hg (N := 2) ?hd (cs := #[.int .i64 a0_0, .slice A0_1 l0_1.length c0_1, .slice A0_2 l0_2.length c0_2]) (t := 63) ?hr ?_; (case hd => rfl); (case hg => rfl); (case hr => first | (go_simp; done) | (go_simp; rfl)); intro gb229 hg w3 hbox hb; have n0_ := M_ (below_step (by repeat (first | (with_reducible first | exact HB.out | apply b0_ | apply b1_ | apply b2_) | exact HB.out)) hb); have n1_ := M_ (hbox); have n2_ := M_ ((by rw [hg]; exact (below_size (by repeat (first | (with_reducible first | exact HB.out | apply b0_ | apply b1_ | apply b2_) | exact HB.out))) : w.heap.size ≤ gb229)); have n3_ := M_ ((by rw [hg]; exact (below_size (by repeat (first | (with_reducible first | exact HB.out | apply b0_ | apply b1_ | apply b2_) | exact HB.out))) : w.heap.size ≤ gb229)); clear HB; have HB := n0_; have BK229 := n1_; have GW229 := n2_; have GE229 := n3_; clear n0_ n1_ n2_ n3_; clear hb hbox hg)); try go_wp2_with (first | ((with_reducible refine gate_dst (N := 2) rfl ?_); refine box_event ?hg (N := 2) ?hd (cs := #[.int .i64 a0_0, .slice A0_1 l0_1.length c0_1, .slice A0_2 l0_2.length c0_2]) (t := 63) ?hr ?_; (case hd => rfl); (case hg => rfl); (case hr => first | (go_simp; done) | (go_simp; rfl)); intro gb229 hg w3 hbox hb; have n0_ := M_ (below_step (by repeat (first | (with_reducible first | exact HB.out | apply b0_ | apply b1_ | apply b2_) | exact HB.out)) hb); have n1_ := M_ (hbox); have n2_ := M_ ((by rw [hg]; exact (below_size (by repeat (first | (with_reducible first | exact HB.out | apply b0_ | apply b1_ | apply b2_) | exact HB.out))) : w.heap.size ≤ gb229)); have n3_ := M_ ((by rw [hg]; exact (below_size (by repeat (first | (with_reducible first | exact HB.out | apply b0_ | apply b1_ | apply b2_) | exact HB.out))) : w.heap.size ≤ gb229)); clear HB; have HB := n0_; have BK229 := n1_; have GW229 := n2_; have GE229 := n3_; clear n0_ n1_ n2_ n3_; clear hb hbox hg)))
 go_loopg [5] k (fun kq v5 w' => ∃ (x5_1 : Int), v5 = .int .i64 x5_1 ∧ Aside0 (spiritlevelref14_Is.l0 kq a1 x5_1 a0_0 l0_1 l0_2 = some r) ∧ Aside0 (kq ≤ k) ∧ Aside0 (w'.heap[gb229]? = some (.cells #[.int .i64 a0_0, (.slice A0_1 l0_1.length c0_1), (.slice A0_2 l0_2.length c0_2)] 63 (0, 0))) ∧ Aside0 (Below w.heap.size w w'))
 case atStart => exact ⟨(0), (by first | rfl | (simp; done) | (simp [*]; done)), H', ⟨Nat.le_refl _⟩, ⟨by (with_reducible repeat (first | refine blk_drewN ?_ _ | refine blk_drew ?_ | refine blk_alloc ?_ _)); exact BK229.out⟩, ⟨by repeat (first | (with_reducible first | exact HB.out | apply b0_ | apply b1_ | apply b2_ | refine below_set ?_ GE229.out) | exact HB.out)⟩⟩
 case round =>
  clear H'
  try clear p2
  obtain ⟨x5_1, rfl, HA, HK1, BK229, HB⟩ := hrel
  cases gk with
  | zero => exact absurd HA.out (by simp [spiritlevelref14_Is.l0])
  | succ k1 =>
   have H := HA.out
   clear HA
   simp only [spiritlevelref14_Is.l0] at H
   by_cases c4 : x5_1 < (l0_1.length : Int)
   ·rw [if_pos c4] at H
    have c4b0 : decide (x5_1 < (l0_1.length : Int)) = true := decide_eq_true c4
    clear c4
    by_cases c5 : 0 ≤ x5_1
    ·rw [if_pos c5] at H
     have c5b0 : decide (0 ≤ x5_1) = true := decide_eq_true c5
     clear c5
     by_cases c6 : (rd l0_1 x5_1) = a1
     ·rw [if_pos c6] at H
      have c6b0 : ((rd l0_1 x5_1) == a1) = true := beq_iff_eq.mpr c6
      have c6b1 : ((rd l0_1 x5_1) != a1) = false := bne_eq_false_iff_eq.mpr c6
      clear c6
      obtain rfl := Option.some.inj H
      have hcz7_0 : wr.cell? ⟨gb229, 0, none⟩ = some (.int .i64 a0_0) := (blk_cell BK229.out 0).trans rfl
      have hcz7_1 : wr.cell? ⟨gb229, 1, none⟩ = some (.slice A0_1 l0_1.length c0_1) := (blk_cell BK229.out 1).trans rfl
      have hcz7_2 : wr.cell? ⟨gb229, 2, none⟩ = some (.slice A0_2 l0_2.length c0_2) := (blk_cell BK229.out 2).trans rfl
      have hfz7_0 := blk_frozen BK229.out 0
      have hfz7_1 := blk_frozen BK229.out 1
      have hfz7_2 := blk_frozen BK229.out 2
      have p230 : 0 ≤ (x5_1 : Int) := of_decide_eq_true (by first | (with_reducible assumption) | assumption)
      have q230 : x5_1 < (l0_1.length : Int) := of_decide_eq_true (by first | (with_reducible assumption) | assumption)
      obtain ⟨ad230, e230, hx230_0⟩ := Kd.at_int HR0_1.out x5_1 p230 q230
      cases e230
      replace hx230_0 := (HB.out.cell (World.block_lt_of_cell? w _ hx230_0)).trans hx230_0
      replace p230 := eq_true p230
      replace q230 := eq_true q230
      go_wp2
      repeat (go_quiet (fail); try go_wp2)
      go_ret
      exact ⟨by first | rfl | (simp [errW_none, errW_some] <;> rfl) | (simp [*, errW_none, errW_some] <;> rfl), by repeat (first | (with_reducible first | exact HB.out | apply b0_ | apply b1_ | apply b2_ | refine below_set ?_ GE229.out) | exact HB.out)⟩
     ·rw [if_neg c6] at H
      have c6b0 : ((rd l0_1 x5_1) == a1) = false := beq_eq_false_iff_ne.mpr c6
      have c6b1 : ((rd l0_1 x5_1) != a1) = true := bne_iff_ne.mpr c6
      replace H := Option.bind_eq_some_iff.mp H
      obtain ⟨t232, A80, H⟩ := H
      replace H : (if (rd l0_1 x5_1) = t232 then (some 0) else (spiritlevelref14_Is.l0 k1 a1 (wrap64 (x5_1 + 1)) a0_0 l0_1 l0_2)) = some r := H
      have A8 := M_ A80
      clear A80
      by_cases c9 : (rd l0_1 x5_1) = t232
      ·rw [if_pos c9] at H
       have c9b0 : ((rd l0_1 x5_1) == t232) = true := beq_iff_eq.mpr c9
       have c9b1 : ((rd l0_1 x5_1) != t232) = false := bne_eq_false_iff_eq.mpr c9
       clear c9
       obtain rfl := Option.some.inj H
       have hcz10_0 : wr.cell? ⟨gb229, 0, none⟩ = some (.int .i64 a0_0) := (blk_cell BK229.out 0).trans rfl
       have hcz10_1 : wr.cell? ⟨gb229, 1, none⟩ = some (.slice A0_1 l0_1.length c0_1) := (blk_cell BK229.out 1).trans rfl
       have hcz10_2 : wr.cell? ⟨gb229, 2, none⟩ = some (.slice A0_2 l0_2.length c0_2) := (blk_cell BK229.out 2).trans rfl
       have hfz10_0 := blk_frozen BK229.out 0
       have hfz10_1 := blk_frozen BK229.out 1
       have hfz10_2 := blk_frozen BK229.out 2
       have p230 : 0 ≤ (x5_1 : Int) := of_decide_eq_true (by first | (with_reducible assumption) | assumption)
       have q230 : x5_1 < (l0_1.length : Int) := of_decide_eq_true (by first | (with_reducible assumption) | assumption)
       obtain ⟨ad230, e230, hx230_0⟩ := Kd.at_int HR0_1.out x5_1 p230 q230
       cases e230
       replace hx230_0 := (HB.out.cell (World.block_lt_of_cell? w _ hx230_0)).trans hx230_0
       replace p230 := eq_true p230
       replace q230 := eq_true q230
       have p231 : 0 ≤ (x5_1 : Int) := of_decide_eq_true (by first | (with_reducible assumption) | assumption)
       have q231 : x5_1 < (l0_1.length : Int) := of_decide_eq_true (by first | (with_reducible assumption) | assumption)
       obtain ⟨ad231, e231, hx231_0⟩ := Kd.at_int HR0_1.out x5_1 p231 q231
       obtain rfl : ad230 = ad231 := (by injection e231)
       replace hx231_0 := (HB.out.cell (World.block_lt_of_cell? w _ hx231_0)).trans hx231_0
       replace p231 := eq_true p231
       replace q231 := eq_true q231
       go_wp2_with (first | (go_at_call 18; (with_reducible refine (spiritlevelref13_Not.calls a1 t232 _ A8.out).mono ?_); rintro e w' ⟨rfl, ⟨nd, rfl⟩⟩; (try first | exact ⟨rfl, _, World.drewN_drewN _ _ _⟩ | exact ⟨rfl, _, Eq.trans (World.drewN_drewN _ _ _) (congrArg (World.drewN _) (Nat.add_assoc _ _ _))⟩)))
       repeat (go_quiet (first | (go_at_call 18; (with_reducible refine (spiritlevelref13_Not.calls a1 t232 _ A8.out).mono ?_); rintro e w' ⟨rfl, ⟨nd, rfl⟩⟩; (try first | exact ⟨rfl, _, World.drewN_drewN _ _ _⟩ | exact ⟨rfl, _, Eq.trans (World.drewN_drewN _ _ _) (congrArg (World.drewN _) (Nat.add_assoc _ _ _))⟩))); try go_wp2_with (first | (go_at_call 18; (with_reducible refine (spiritlevelref13_Not.calls a1 t232 _ A8.out).mono ?_); rintro e w' ⟨rfl, ⟨nd, rfl⟩⟩; (try first | exact ⟨rfl, _, World.drewN_drewN _ _ _⟩ | exact ⟨rfl, _, Eq.trans (World.drewN_drewN _ _ _) (congrArg (World.drewN _) (Nat.add_assoc _ _ _))⟩))))
       go_ret
       exact ⟨by first | rfl | (simp [errW_none, errW_some] <;> rfl) | (simp [*, errW_none, errW_some] <;> rfl), by repeat (first | (with_reducible first | exact HB.out | apply b0_ | apply b1_ | apply b2_ | refine below_set ?_ GE229.out) | exact HB.out)⟩
      ·rw [if_neg c9] at H
       have c9b0 : ((rd l0_1 x5_1) == t232) = false := beq_eq_false_iff_ne.mpr c9
       have c9b1 : ((rd l0_1 x5_1) != t232) = true := bne_iff_ne.mpr c9
       have H' := M_ H
       clear H
       have hcz11_0 : wr.cell? ⟨gb229, 0, none⟩ = some (.int .i64 a0_0) := (blk_cell BK229.out 0).trans rfl
       have hcz11_1 : wr.cell? ⟨gb229, 1, none⟩ = some (.slice A0_1 l0_1.length c0_1) := (blk_cell BK229.out 1).trans rfl
       have hcz11_2 : wr.cell? ⟨gb229, 2, none⟩ = some (.slice A0_2 l0_2.length c0_2) := (blk_cell BK229.out 2).trans rfl
       have hfz11_0 := blk_frozen BK229.out 0
       have hfz11_1 := blk_frozen BK229.out 1
       have hfz11_2 := blk_frozen BK229.out 2
       have p230 : 0 ≤ (x5_1 : Int) := of_decide_eq_true (by first | (with_reducible assumption) | assumption)
       have q230 : x5_1 < (l0_1.length : Int) := of_decide_eq_true (by first | (with_reducible assumption) | assumption)
       obtain ⟨ad230, e230, hx230_0⟩ := Kd.at_int HR0_1.out x5_1 p230 q230
       cases e230
       replace hx230_0 := (HB.out.cell (World.block_lt_of_cell? w _ hx230_0)).trans hx230_0
       replace p230 := eq_true p230
       replace q230 := eq_true q230
       have p231 : 0 ≤ (x5_1 : Int) := of_decide_eq_true (by first | (with_reducible assumption) | assumption)
       have q231 : x5_1 < (l0_1.length : Int) := of_decide_eq_true (by first | (with_reducible assumption) | assumption)
       obtain ⟨ad231, e231, hx231_0⟩ := Kd.at_int HR0_1.out x5_1 p231 q231
       obtain rfl : ad230 = ad231 := (by injection e231)
       replace hx231_0 := (HB.out.cell (World.block_lt_of_cell? w _ hx231_0)).trans hx231_0
       replace p231 := eq_true p231
       replace q231 := eq_true q231
       go_wp2_with (first | (go_at_call 18; (with_reducible refine (spiritlevelref13_Not.calls a1 t232 _ A8.out).mono ?_); rintro e w' ⟨rfl, ⟨nd, rfl⟩⟩; (try first | exact ⟨rfl, _, World.drewN_drewN _ _ _⟩ | exact ⟨rfl, _, Eq.trans (World.drewN_drewN _ _ _) (congrArg (World.drewN _) (Nat.add_assoc _ _ _))⟩)))
       repeat (go_quiet (first | (go_at_call 18; (with_reducible refine (spiritlevelref13_Not.calls a1 t232 _ A8.out).mono ?_); rintro e w' ⟨rfl, ⟨nd, rfl⟩⟩; (try first | exact ⟨rfl, _, World.drewN_drewN _ _ _⟩ | exact ⟨rfl, _, Eq.trans (World.drewN_drewN _ _ _) (congrArg (World.drewN _) (Nat.add_assoc _ _ _))⟩))); try go_wp2_with (first | (go_at_call 18; (with_reducible refine (spiritlevelref13_Not.calls a1 t232 _ A8.out).mono ?_); rintro e w' ⟨rfl, ⟨nd, rfl⟩⟩; (try first | exact ⟨rfl, _, World.drewN_drewN _ _ _⟩ | exact ⟨rfl, _, Eq.trans (World.drewN_drewN _ _ _) (congrArg (World.drewN _) (Nat.add_assoc _ _ _))⟩))))
       go_roundg k1
       case measure => have := HK1.out; omega
       case rel => exact ⟨(wrap64 (x5_1 + 1)), (by first | rfl | (simp; done) | (simp [*]; done)), H', ⟨by have := HK1.out; omega⟩, ⟨by (with_reducible repeat (first | refine blk_drewN ?_ _ | refine blk_drew ?_ | refine blk_alloc ?_ _)); exact BK229.out⟩, ⟨by repeat (first | (with_reducible first | exact HB.out | apply b0_ | apply b1_ | apply b2_ | refine below_set ?_ GE229.out) | exact HB.out)⟩⟩
    ·rw [if_neg c5] at H
     exact absurd H (by simp)
   ·rw [if_neg c4] at H
    have c4b0 : decide (x5_1 < (l0_1.length : Int)) = false := decide_eq_false c4
    clear c4
    obtain rfl := Option.some.inj H
    have hcz12_0 : wr.cell? ⟨gb229, 0, none⟩ = some (.int .i64 a0_0) := (blk_cell BK229.out 0).trans rfl
    have hcz12_1 : wr.cell? ⟨gb229, 1, none⟩ = some (.slice A0_1 l0_1.length c0_1) := (blk_cell BK229.out 1).trans rfl
    have hcz12_2 : wr.cell? ⟨gb229, 2, none⟩ = some (.slice A0_2 l0_2.length c0_2) := (blk_cell BK229.out 2).trans rfl
    have hfz12_0 := blk_frozen BK229.out 0
    have hfz12_1 := blk_frozen BK229.out 1
    have hfz12_2 := blk_frozen BK229.out 2
    go_wp2
    repeat (go_quiet (fail); try go_wp2)
    go_ret
    exact ⟨by first | rfl | (simp [errW_none, errW_some] <;> rfl) | (simp [*, errW_none, errW_some] <;> rfl), by repeat (first | (with_reducible first | exact HB.out | apply b0_ | apply b1_ | apply b2_ | refine below_set ?_ GE229.out) | exact HB.out)⟩

end Go.Proofs.Ytcopolpepodceaa.QLearnFollows
