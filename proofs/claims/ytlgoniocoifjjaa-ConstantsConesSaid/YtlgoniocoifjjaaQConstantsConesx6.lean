-- Made by wip/myprint.sh (a patched print): a text of this session's own.
import Derived.Test.YtlgoniocoifjjaaQConstantsConesx0
import Derived.Test.YtlgoniocoifjjaaQConstantsConesx3
import Derived.Test.YtlgoniocoifjjaaQConstantsConesx4
import Derived.Test.YtlgoniocoifjjaaQConstantsConesx5
namespace Go.Proofs.Ytlgoniocoifjjaa.QConstantsCones
open Go.RowKit Go.Proofs.YtlgoniocoifjjaaW.PrintWords Go.Proofs.YtlgoniocoifjjaaW.PrintLast Go.Proofs.YtlgoniocoifjjaaW.PrintMore
attribute [local go_sem] max2_int min2_int max_two min_two max_three min_three max_four min_four   -- for this text's walks alone
set_option linter.unusedVariables false
set_option linter.unusedSimpArgs false

/-! ### bits_Mul32: function 101 -/
def bits_Mul32.f (a0 : Int) (a1 : Int) : Option (Int × Int) := some (((IntKind.u64.wrap ((IntKind.u64.wrap (a0)) * (IntKind.u64.wrap (a1)))) / 4294967296) % 4294967296, (IntKind.u64.wrap ((IntKind.u64.wrap (a0)) * (IntKind.u64.wrap (a1)))) % 4294967296)
set_option maxHeartbeats 8000000 in
set_option maxRecDepth 100000 in
theorem bits_Mul32.calls (a0 : Int) (a1 : Int) (r1 : Int) (r2 : Int) (w : World) (h : bits_Mul32.f a0 a1 = some (r1, r2)) :
  Calls Try.prog 101 #[.int .u32 a0, .int .u32 a1] w fun e w' => e = .returned (.tuple #[.int .u32 r1, .int .u32 r2]) ∧ Drawn0 w w' := by
 have H : (some (((IntKind.u64.wrap ((IntKind.u64.wrap (a0)) * (IntKind.u64.wrap (a1)))) / 4294967296) % 4294967296, (IntKind.u64.wrap ((IntKind.u64.wrap (a0)) * (IntKind.u64.wrap (a1)))) % 4294967296)) = some (r1, r2) := h
 clear h
 simp only [Option.some.injEq, Prod.mk.injEq] at H
 obtain ⟨rfl, rfl⟩ := H
 go_enter Try.func101, Try.ntmps101
 go_wp2
 go_ret2
 exact ⟨by first | rfl | (simp; done) | (simp [*]; done), by repeat (first | exact Drawn0.refl _ | apply Drawn0.step)⟩

/-! ### bits_Mul64: function 102 -/
def bits_Mul64.f (a0 : Int) (a1 : Int) : Option (Int × Int) := some (IntKind.u64.wrap ((IntKind.u64.wrap ((IntKind.u64.wrap ((a0 / 4294967296) * (a1 / 4294967296))) + ((IntKind.u64.wrap ((IntKind.u64.wrap ((a0 / 4294967296) * (Go.bits .and .u64 a1 4294967295))) + ((IntKind.u64.wrap ((Go.bits .and .u64 a0 4294967295) * (Go.bits .and .u64 a1 4294967295))) / 4294967296))) / 4294967296))) + ((IntKind.u64.wrap ((Go.bits .and .u64 (IntKind.u64.wrap ((IntKind.u64.wrap ((a0 / 4294967296) * (Go.bits .and .u64 a1 4294967295))) + ((IntKind.u64.wrap ((Go.bits .and .u64 a0 4294967295) * (Go.bits .and .u64 a1 4294967295))) / 4294967296))) 4294967295) + (IntKind.u64.wrap ((Go.bits .and .u64 a0 4294967295) * (a1 / 4294967296))))) / 4294967296)), IntKind.u64.wrap (a0 * a1))
set_option maxHeartbeats 8000000 in
set_option maxRecDepth 100000 in
theorem bits_Mul64.calls (a0 : Int) (a1 : Int) (r1 : Int) (r2 : Int) (w : World) (h : bits_Mul64.f a0 a1 = some (r1, r2)) :
  Calls Try.prog 102 #[.int .u64 a0, .int .u64 a1] w fun e w' => e = .returned (.tuple #[.int .u64 r1, .int .u64 r2]) ∧ Drawn0 w w' := by
 have H : (some (IntKind.u64.wrap ((IntKind.u64.wrap ((IntKind.u64.wrap ((a0 / 4294967296) * (a1 / 4294967296))) + ((IntKind.u64.wrap ((IntKind.u64.wrap ((a0 / 4294967296) * (Go.bits .and .u64 a1 4294967295))) + ((IntKind.u64.wrap ((Go.bits .and .u64 a0 4294967295) * (Go.bits .and .u64 a1 4294967295))) / 4294967296))) / 4294967296))) + ((IntKind.u64.wrap ((Go.bits .and .u64 (IntKind.u64.wrap ((IntKind.u64.wrap ((a0 / 4294967296) * (Go.bits .and .u64 a1 4294967295))) + ((IntKind.u64.wrap ((Go.bits .and .u64 a0 4294967295) * (Go.bits .and .u64 a1 4294967295))) / 4294967296))) 4294967295) + (IntKind.u64.wrap ((Go.bits .and .u64 a0 4294967295) * (a1 / 4294967296))))) / 4294967296)), IntKind.u64.wrap (a0 * a1))) = some (r1, r2) := h
 clear h
 simp only [Option.some.injEq, Prod.mk.injEq] at H
 obtain ⟨rfl, rfl⟩ := H
 go_enter Try.func102, Try.ntmps102
 go_wp2
 go_ret2
 exact ⟨by first | rfl | (simp; done) | (simp [*]; done), by repeat (first | exact Drawn0.refl _ | apply Drawn0.step)⟩

/-! ### bits_Mul: function 84 -/
def bits_Mul.f (a0 : Int) (a1 : Int) : Option (Int × Int) := (bits_Mul64.f a0 a1).bind fun bt101 => (some (bt101.1, bt101.2))
set_option maxHeartbeats 8000000 in
set_option maxRecDepth 100000 in
theorem bits_Mul.calls (a0 : Int) (a1 : Int) (r1 : Int) (r2 : Int) (w : World) (h : bits_Mul.f a0 a1 = some (r1, r2)) :
  Calls Try.prog 84 #[.int .u64 a0, .int .u64 a1] w fun e w' => e = .returned (.tuple #[.int .u64 r1, .int .u64 r2]) ∧ Drawn0 w w' := by
 have H : ((bits_Mul64.f a0 a1).bind fun bt101 => (some (bt101.1, bt101.2))) = some (r1, r2) := h
 clear h
 replace H := Option.bind_eq_some_iff.mp H
 obtain ⟨⟨t101, t102⟩, A30, H⟩ := H
 replace H : (some (t101, t102)) = some (r1, r2) := H
 have A3 := M_ A30
 clear A30
 simp only [Option.some.injEq, Prod.mk.injEq] at H
 obtain ⟨rfl, rfl⟩ := H
 go_enter Try.func84, Try.ntmps84
 go_wp2_with (first | ((with_reducible refine gate_callee (f := 102) rfl ?_); refine goesL_ (some 25) rfl rfl Try.func102 (by kernel_rfl) rfl #[.int .u64 a0, .int .u64 a1] rfl (by (try simp only [List.map_toArray, List.map_cons, List.map_nil]); first | done | rfl | (simp only [List.length_drop, List.length_take]; rfl)) ?_; (with_reducible refine (bits_Mul64.calls a0 a1 t101 t102 _ A3.out).mono ?_); rintro e w' ⟨rfl, ⟨nd, rfl⟩⟩; refine ⟨_, rfl, ?_⟩))
 go_ret2
 exact ⟨by first | rfl | (simp; done) | (simp [*]; done), by repeat (first | exact Drawn0.refl _ | apply Drawn0.step)⟩

/-! ### slices_Repeat_int_int: function 64, by hand -/
-- bits_Mul.f bits_Mul64.f
theorem mul1 (a : Int) (h0 : 0 ≤ a) (h1 : a ≤ 60000) : bits_Mul.f 1 a = some (0, a) := by
 have hk : ∀ n : Int, 0 ≤ n → n < 2 ^ 32 → IntKind.u64.wrap n = n := fun n h0 h1 => by rw [IntKind.wrap_u64]; omega
 have m0 : ∀ x : Int, 0 ≤ x → x < 2 ^ 32 → Go.bits .and .u64 x 4294967295 = x := fun x h0 h1 => by
  have := bits_mask .u64 32 (by decide) hk 32 (by decide) x h0 h1
  rw [show (2 : Int) ^ 32 - 1 = 4294967295 from rfl] at this
  rw [this]; omega
 have d0 : a / 4294967296 = 0 := by omega
 have d1 : (1 : Int) / 4294967296 = 0 := by decide
 unfold bits_Mul.f bits_Mul64.f
 rw [m0 1 (by decide) (by decide), m0 a h0 (by omega), d0, d1]
 simp only [Int.zero_mul, Int.mul_zero, Int.one_mul, Int.zero_add, Int.add_zero]
 rw [hk 0 (by decide) (by decide), hk a h0 (by omega), d0]
 simp only [Int.add_zero, Int.zero_add]
 rw [hk 0 (by decide) (by decide), m0 0 (by decide) (by decide)]
 simp only [Option.bind_some]
 rfl
theorem madeI (n : Nat) : madeCells #[Value.int .i64 0] n = (encs (Value.int .i64) (List.replicate n 0)).toArray := by
 apply Array.ext
 ·simp [madeCells, encs]
 ·intro i h1 h2
  simp only [madeCells, encs, Array.getElem_map, List.getElem_toArray, List.getElem_map, List.getElem_replicate]
  simp [Nat.mod_one]
theorem encsI_one (X : List Int) : ∀ v ∈ encs (Value.int .i64) X, v.oneCell' = true := by
 intro v hv
 simp only [encs, List.mem_map] at hv
 obtain ⟨x, _, rfl⟩ := hv
 rfl
theorem rep_splice (x : Int) (N k m : Nat) (h : k + m ≤ N) : splice (encs (Value.int .i64) (List.replicate k x ++ List.replicate (N - k) 0)) k (encs (Value.int .i64) (List.replicate m x)) = encs (Value.int .i64) (List.replicate (k + m) x ++ List.replicate (N - (k + m)) 0) := by
 unfold splice encs
 simp only [List.map_append, List.map_replicate, List.length_replicate]
 rw [List.take_append_of_le_length (by simp), List.take_of_length_le (by simp), List.drop_append, List.drop_of_length_le (by simp), List.drop_replicate, List.length_replicate, List.nil_append, ← List.append_assoc, List.replicate_append_replicate]
 congr 2
 omega
theorem rep_src {W : World} {g N k : Nat} {x : Int} (h : W.heap[g]? = some (.cells (encs (Value.int .i64) (List.replicate k x ++ List.replicate (N - k) 0)).toArray 3 (0, 0))) (m : Nat) (hm : m ≤ k) : ∀ j v, (encs (Value.int .i64) (List.replicate m x))[j]? = some v → W.cell? ((⟨g, 0, none⟩ : Addr).add j) = some v := by
 intro j v hv
 have hj : j < m := by
  obtain ⟨h1, _⟩ := List.getElem?_eq_some_iff.1 hv
  simpa [encs] using h1
 have e : v = .int .i64 x := by
  obtain ⟨h1, e⟩ := List.getElem?_eq_some_iff.1 hv
  rw [← e]
  simp [encs]
 have := blk_cell h j
 have e2 : (⟨g, 0, none⟩ : Addr).add j = ⟨g, j, none⟩ := by simp [Addr.add]; omega
 rw [e2, this, e]
 have h3 : j < k := by omega
 simp only [encs, List.map_append, List.map_replicate, List.getElem?_toArray]
 rw [List.getElem?_append_left (by simpa using h3), List.getElem?_replicate, if_pos h3]
theorem row_own {w : World} {g base : Nat} {cur : List Int} (h : w.heap[g]? = some (.cells (encs (Value.int .i64) cur).toArray 3 (0, 0))) (hb : base ≤ g) (hl : cur.length ≤ 2000000) : Kd.R (Kd.int .i64) 3 w base (fun _ => True) (.slice (some ⟨g, 0, none⟩) cur.length cur.length) cur := by
 refine Kd.R_of_own (h1 := fun _ => rfl) ?_ (fun _ _ => trivial)
 refine ⟨by simp [encs], Or.inr ⟨g, cur.length, _, rfl, hb, h, Nat.le_refl _, by unfold maxLen; omega, by simp [encs], ?_⟩⟩
 simp only [encs, Nat.mul_one]
 exact List.take_of_length_le (by simp)
theorem infoR : (Try.prog.info? 3).map (fun i => (i.zero, i.size, i.bytes)) = some (some (.int .i64 0), 1, 8) := by kernel_rfl
theorem cutA (g N k : Nat) (h : k < N) (W : World) : (Instr.slice 24 (.slice (some ⟨g, 0, none⟩) N N) (some (.int .i64 (k : Int))) none none).run Try.prog W = .ok (.slice (some ⟨g, k, none⟩) (N - k) (N - k)) W := by
 obtain ⟨i0, hi, hzz⟩ := Option.map_eq_some_iff.1 infoR
 simp only [Prod.mk.injEq] at hzz
 have hel : Try.prog.elem 24 = 3 := by simp [Program.elem, Try.underlying24]
 have hu : Try.prog.underlying 24 = some (.slice (Try.prog.elem 24)) := by rw [hel]; exact Try.underlying24
 rw [run_slice_l W 24 _ _ _ hu .i64 _ (by omega) (by omega), hel]
 simp [sizeOf, typeInfo, hi, hzz.2.1, sliced, Result.andThen, Addr.add]
 rw [if_neg (by omega)]
 split <;> simp_all
theorem cutB (g N k : Nat) (h0 : 0 < N) (h : k ≤ N) (W : World) : (Instr.slice 24 (.slice (some ⟨g, 0, none⟩) N N) none (some (.int .i64 (k : Int))) none).run Try.prog W = .ok (.slice (some ⟨g, 0, none⟩) k N) W := by
 obtain ⟨i0, hi, hzz⟩ := Option.map_eq_some_iff.1 infoR
 simp only [Prod.mk.injEq] at hzz
 have hel : Try.prog.elem 24 = 3 := by simp [Program.elem, Try.underlying24]
 have hu : Try.prog.underlying 24 = some (.slice (Try.prog.elem 24)) := by rw [hel]; exact Try.underlying24
 rw [run_slice_h W 24 _ _ _ hu .i64 _ (by omega) (by omega), hel]
 simp [sizeOf, typeInfo, hi, hzz.2.1, sliced, Result.andThen, Addr.add]
def slices_Repeat_int_int.f (l0 : List Int) (a1 : Int) : Option (List Int) := if l0.length = 1 ∧ 1 ≤ a1 ∧ a1 ≤ 60000 then some (List.replicate a1.toNat (rd l0 0)) else none
set_option maxHeartbeats 8000000 in
set_option maxRecDepth 100000 in
theorem slices_Repeat_int_int.calls (A0 : Option Addr) (c0 : Nat) (l0 : List Int) (a1 : Int) (r : List Int) (w : World) (hr0 : Kd.C (Kd.int .i64) w A0 l0.length l0) (hc0 : l0.length ≤ c0) (h : slices_Repeat_int_int.f l0 a1 = some r) :
  Calls Try.prog 64 #[.slice A0 l0.length c0, .int .i64 a1] w fun e w' => ∃ v0_ : Value, e = .returned (v0_) ∧ Kd.R (Kd.int .i64) 3 w' w.heap.size (fun _ => True) v0_ r ∧ Below w.heap.size w w' := by
 have hu24 := Try.underlying24
 have hsI : (Try.prog.info? 3).map (·.size) = some 1 := by kernel_rfl
 unfold slices_Repeat_int_int.f at h
 split at h
 case isFalse => simp at h
 case isTrue hb =>
 obtain ⟨h1, h2, h3⟩ := hb
 obtain rfl := Option.some.inj h
 obtain ⟨N, rfl⟩ : ∃ N : Nat, a1 = (N : Int) := ⟨a1.toNat, by omega⟩
 obtain ⟨ad, rfl, hx⟩ := Kd.at_int hr0 0 (by omega) (by omega)
 obtain ⟨x, hx'⟩ : ∃ x, x = rd l0 0 := ⟨_, rfl⟩
 rw [← hx'] at hx ⊢
 rw [h1]
 have HX := M_ hx
 have HN := M_ (show 1 ≤ N ∧ N ≤ 60000 by omega)
 have HM := M_ (mul1 (N : Int) (by omega) (by omega))
 have q1 : IntKind.u64.wrap (N : Int) = (N : Int) := by rw [IntKind.wrap_u64]; omega
 have q2 : wrap64 (N : Int) = (N : Int) := by unfold wrap64; omega
 have b0 : decide ((N : Int) < 0) = false := decide_eq_false (by omega)
 have b1 : decide (9223372036854775807 < (N : Int)) = false := decide_eq_false (by omega)
 have hmk := run_make_row' (P := Try.prog) 24 3 (.int .i64 0) 8 hu24 infoR rfl .i64 .i64 N (by omega) (by omega)
 clear hr0 h1 h2 h3 hx hx' h
 go_enter Try.func64, Try.ntmps64
 have HA := M_ (show Aside0 True from ⟨trivial⟩)
 have e0 : ∀ n : Nat, (encs (Value.int .i64) (List.replicate n (0 : Int))).length = n := by simp [encs]
 have HE := M_ e0
 clear e0
 go_wp2_with (first
  | (go_at_call 84; (with_reducible refine (bits_Mul.calls 1 (N : Int) 0 (N : Int) _ HM.out).mono ?_); rintro e w1 ⟨rfl, hd⟩; have HB := M_ hd.below; clear hd)
  | ((with_reducible refine gate_builtin (b := .copy) (xs := #[.tmp 31, .tmp 32]) rfl ?_); (refine wpList_copy_splice rfl (.tmp 31) (.tmp 32) 24 24 rfl 3 hu24 hsI _ _ _ _ _ _ rfl rfl w1.heap.size 0 (encs (Value.int .i64) (List.replicate 0 x ++ List.replicate (N - 0) 0)) 3 ?g1 (encs (Value.int .i64) (List.replicate 1 x)) ?g2 ?g3 ?g4 (encsI_one _) w1.heap.size w1 ?g5 (Nat.le_refl _) ?_; (case g1 => rw [List.replicate_zero, List.nil_append, Nat.sub_zero, ← madeI]; exact blk_new _ _); (case g2 => have := HN.out; have hm1 : Nat.min 1 N = 1 := Nat.min_eq_left this.1; simp [encs, hm1]); (case g3 => intro _; refine ⟨rfl, ad, rfl, fun j v hv => ?_⟩; have hj : j = 0 := (by obtain ⟨h1, _⟩ := List.getElem?_eq_some_iff.1 hv; simpa [encs] using h1); subst hj; have hv2 : v = .int .i64 x := (by simpa [encs] using hv.symm); rw [hv2]; exact pw_cell_below (below_alloc HB.out _) HX.out); (case g4 => have := HN.out; simp [encs]; omega); (case g5 => exact below_alloc (Below.refl _ _) _); intro w2 hG2 hB2; have HB2 := M_ (below_step HB.out hB2); have HG2 := M_ ((congrArg (fun l_ => w2.heap[w1.heap.size]? = some (.cells (List.toArray l_) 3 (0, 0))) (rep_splice x N 0 1 (by have := HN.out; omega))).mp hG2.out); have HGE := M_ (HB.out.size); clear hB2 hG2)))
 go_loopg [8] N (fun kq v8 w' => ∃ (k : Nat), v8 = .int .i64 (k : Int) ∧ Aside0 (1 ≤ k ∧ k ≤ N ∧ N ≤ kq + k) ∧ Aside0 (w'.heap[w1.heap.size]? = some (.cells (encs (Value.int .i64) (List.replicate k x ++ List.replicate (N - k) 0)).toArray 3 (0, 0))) ∧ Aside0 (Below w.heap.size w w'))
 case atStart => exact ⟨1, rfl, ⟨by have := HN.out; omega⟩, HG2, HB2⟩
 case round =>
  clear HG2 HB2
  obtain ⟨k, rfl, HI, HG, HBK⟩ := hrel
  by_cases c : k < N
  ·have cb : decide (k < N) = true := decide_eq_true c
   have hA := cutA w1.heap.size N k c
   have hB := cutB w1.heap.size N k (by omega) (by omega)
   obtain ⟨m, hm⟩ : ∃ m, m = (if k ≤ N - k then k else N - k) := ⟨_, rfl⟩
   have HMI := M_ (show Nat.min k (N - k) = m ∧ 1 ≤ m ∧ m ≤ k ∧ k + m ≤ N by
    have h1 := HI.out
    refine ⟨hm ▸ Nat.min_def, ?_, ?_, ?_⟩ <;> (rw [hm]; split <;> omega))
   have HL := M_ (show (encs (Value.int .i64) (List.replicate m x)).length = m ∧ (encs (Value.int .i64) (List.replicate k x ++ List.replicate (N - k) (0 : Int))).length = N by
    have := HI.out
    simp [encs]; omega)
   clear hm c
   go_upto_region 9 with fail
   have HGd := M_ (blk_drew HG.out)
   go_region_law (go_loud (refine step_copy_splice rfl (.tmp 41) (.tmp 44) 24 24 rfl 3 hu24 hsI (some ⟨w1.heap.size, k, none⟩) (some ⟨w1.heap.size, 0, none⟩) (N - k) (N - k) k N ?d1 ?d2 w1.heap.size k (encs (Value.int .i64) (List.replicate k x ++ List.replicate (N - k) 0)) 3 HGd.out (encs (Value.int .i64) (List.replicate m x)) ?g2 ?g3 ?g4 ?g7 w.heap.size w ?g5 ?g6 ?_; (case d1 => first | (go_simp; done) | (go_simp; rfl)); (case d2 => first | (go_simp; done) | (go_simp; rfl)); (case g2 => rw [HL.out.1, HMI.out.1]); (case g3 => intro _; exact ⟨rfl, ⟨w1.heap.size, 0, none⟩, rfl, rep_src HGd.out m HMI.out.2.2.1⟩); (case g4 => rw [HL.out.1, HL.out.2]; exact HMI.out.2.2.2); (case g5 => exact below_step HBK.out (below_drew (Below.refl _ _))); (case g6 => exact HGE.out); (case g7 => exact encsI_one _); intro w3 hg3 hb3; have HB3 := M_ hb3; have HG3 := M_ ((congrArg (fun l_ => w3.heap[w1.heap.size]? = some (.cells (List.toArray l_) 3 (0, 0))) (rep_splice x N k m HMI.out.2.2.2)).mp hg3.out); clear hg3 hb3))
   go_wp2
   go_roundg (gk - 1)
   case rel => exact ⟨k + m, congrArg (Value.int .i64) (show IntKind.i64.wrap ((k : Int) + ((encs (Value.int .i64) (List.replicate m x)).length : Int)) = ((k + m : Nat) : Int) by have h1 := HL.out.1; have h2 := HMI.out; have h3 := HN.out; rw [h1, IntKind.wrap_i64]; omega), ⟨by have h2 := HMI.out; have h1 := HI.out; omega⟩, HG3, ⟨HB3.out⟩⟩
   case measure => have h2 := HMI.out; have h1 := HI.out; omega
  ·have cb : decide (k < N) = false := decide_eq_false c
   have hk : k = N := by have := HI.out; omega
   have HRR := M_ (show Kd.R (Kd.int .i64) 3 wr w.heap.size (fun _ => True) (.slice (some ⟨w1.heap.size, 0, none⟩) N N) (List.replicate N x) by
    have h1 := HG.out
    rw [hk, Nat.sub_self, List.replicate_zero, List.append_nil] at h1
    have h2 := row_own h1 HGE.out (by have := HN.out; rw [List.length_replicate]; omega)
    rw [List.length_replicate] at h2
    exact h2)
   clear hk
   go_wp2
   go_ret
   exact ⟨_, rfl, HRR.out, HBK.out⟩

/-! ### constants_find: function 35, by hand -/
-- hash_begin.dep
theorem encs_mapD {α : Type} (enc : α → Value) (l : List α) : encs enc l = l.map enc := by simp [encs]
set_option maxHeartbeats 2000000 in
theorem find1_calls (i : Int) {L C : List S45} {AL AC : Option Addr} {cL cC : Nat} {x0 x2 x3 x4 c0 c2 c3 c4 : Value} {bx bc : Nat} {W : World}
  (hx : W.heap[bx]? = some (.cells #[x0, .slice AL L.length cL, x2, x3, x4] 26 (0, 0))) (hc : W.heap[bc]? = some (.cells #[c0, .slice AC C.length cC, c2, c3, c4] 26 (0, 0)))
  (hL : Kd.C k45 W AL L.length L) (hC : Kd.C k45 W AC C.length C) (h0 : 0 ≤ i) (h1 : i < L.length) (h2 : i < C.length) :
  Calls Try.prog 66 #[.int .i64 i, .pointer (some ⟨bx, 0, none⟩), .pointer (some ⟨bc, 0, none⟩)] W fun e w' => e = .returned (.bool ((rd_T45 L i).f0 != (rd_T45 C i).f1)) ∧ ∃ q, w' = W.drewN q := by
 obtain ⟨ad, rfl, u0, u1⟩ := at_T45 hL i h0 h1
 obtain ⟨ae, rfl, v0, v1⟩ := at_T45 hC i h0 h2
 have y1 := (blk_cell hx 1).trans (show _ = some (.slice (some ad) L.length cL) from rfl)
 have z1 := (blk_cell hc 1).trans (show _ = some (.slice (some ae) C.length cC) from rfl)
 replace h0 := eq_true h0
 replace h1 := eq_true h1
 replace h2 := eq_true h2
 clear hx hc hL hC u1 v0
 go_enter Try.func66, Try.ntmps66
 go_wp2
 go_region
 go_wp2
 go_ret
 first | exact ⟨rfl, 0, rfl⟩ | exact ⟨rfl, 1, rfl⟩ | exact ⟨rfl, _, rfl⟩
theorem grown_put {α : Type} [Inhabited α] (enc : α → Value) {w : World} {g n : Nat} {os : Array Obj} (d : Array α) : w.grownBy (Sort.grow (Sort.putRow enc (Sort.ahead w n) g 0 d) os) (some g) := by
 refine ⟨rfl, rfl, rfl, by simp, fun k hk hne => ?_⟩
 rw [Sort.heap_grow_old _ _ (by simpa using hk)]
 have : g ≠ k := fun e => hne (by rw [e])
 simp [Sort.putRow, Sort.mapBlock, Sort.ahead, Array.getElem?_modify, this]
/-- An index of n things. -/
abbrev Ix (n : Nat) : Type := {x : Int // 0 ≤ x ∧ x < (n : Int)}
theorem ix_of {n : Nat} : ∀ {S : List Int}, (∀ x ∈ S, 0 ≤ x ∧ x < (n : Int)) → ∃ D : List (Ix n), D.map (fun x => x.1) = S
 | [], _ => ⟨[], rfl⟩
 | x :: S, h => by
  obtain ⟨D, hD⟩ := ix_of (S := S) (fun y hy => h y (List.mem_cons_of_mem _ hy))
  exact ⟨⟨x, h x (List.mem_cons_self ..)⟩ :: D, by rw [List.map_cons, hD]⟩
theorem put_ix {n : Nat} [Inhabited (Ix n)] (w : World) (g : Nat) (d : List (Ix n)) : Sort.putRow (fun x : Ix n => Value.int .i64 x.1) w g 0 d.toArray = Sort.putRow (Value.int .i64) w g 0 (d.map (fun x => x.1)).toArray := by
 unfold Sort.putRow
 congr 1
 funext c
 unfold Sort.putCells
 congr 1
 funext k x
 rw [show (d.map (fun x : Ix n => x.1)).toArray.size = d.toArray.size by simp]
 by_cases h : 0 ≤ k ∧ k < 0 + d.toArray.size
 ·rw [if_pos h, if_pos h]
  have hk : k < d.length := by have := h.2; simpa using this
  simp [getElem!_pos, hk]
 ·rw [if_neg h, if_neg h]
/-- The latches that still have their resets as next states. -/
def stayP (L C : List S45) (S : List Int) : List Int := S.filter fun x => !((rd_T45 L x).f0 != (rd_T45 C x).f1)
theorem deleteC_calls {P0 PL : Nat → Prop} {u : Value} {S : List Int} {L C : List S45} {AL AC : Option Addr} {cL cC : Nat} {x0 x2 x3 x4 c0 c2 c3 c4 : Value} {bx bc B : Nat} {w0 w : World} (hB : Below w0.heap.size w0 w) (ho : Kd.R (Kd.int .i64) 3 w w0.heap.size P0 u S) (hS : ∀ x ∈ S, 0 ≤ x ∧ x < (L.length : Int)) (hLC : L.length = C.length) (hne : S ≠ []) (hl : S.length ≤ 1000000000)
  (hx : w.heap[bx]? = some (.cells #[x0, .slice AL L.length cL, x2, x3, x4] 26 (0, 0))) (hc : w.heap[bc]? = some (.cells #[c0, .slice AC C.length cC, c2, c3, c4] 26 (0, 0)))
  (hL : Kd.R k45 45 w B PL (.slice AL L.length cL) L) (hC : Kd.C k45 w0 AC C.length C) :
  Calls Try.prog 65 #[u, .func (.func 66) #[] #[.pointer (some ⟨bx, 0, none⟩), .pointer (some ⟨bc, 0, none⟩)]] w fun e w' => ∃ v0_ : Value, e = .returned v0_ ∧ Kd.R (Kd.int .i64) 3 w' w0.heap.size P0 v0_ (stayP L C S) ∧ w.grownBy w' u.ownBlock ∧ v0_.ownBlock = u.ownBlock := by
 have hn : 0 < L.length := by
  cases S with
  | nil => exact absurd rfl hne
  | cons x S => have := hS x (List.mem_cons_self ..); omega
 obtain ⟨D, hD⟩ := ix_of hS
 haveI : Inhabited (Ix L.length) := ⟨⟨0, by omega, by omega⟩⟩
 have hP0 := ho.1
 have hR := Kd.own_of_R ho
 rw [encs_mapD] at hR
 rcases hR.2 with ⟨rfl, hz⟩ | ⟨g, cap, cur, rfl, hg, hh, h1, h2, h3, h4⟩
 ·exact absurd (List.eq_nil_of_length_eq_zero hz) hne
 ·have hlt2 : g < w.heap.size := (Array.getElem?_eq_some_iff.1 hh).1
  have hPg : P0 g := hP0 g rfl
  have hxg : some bx ≠ some g := Kd.R_ne ho hx (by decide)
  have hcg : some bc ≠ some g := Kd.R_ne ho hc (by decide)
  rw [Nat.mul_one] at h4
  have eg : ∀ args w, (callFunc 66 args).run Try.prog w = .ok (.enter 66 args) w := enters_of Try.func66 (by kernel_rfl) rfl
  have hLw : Kd.C k45 w AL L.length L := (Kd.R_reads' hL).2.2
  have hp : PredAt Try.prog 66 #[.pointer (some ⟨bx, 0, none⟩), .pointer (some ⟨bc, 0, none⟩)] (fun x : Ix L.length => Value.int .i64 x.1) (fun x => (rd_T45 L x.1).f0 != (rd_T45 C x.1).f1) w :=
   fun W x hb' => find1_calls x.1 (blk_below hx hb') (blk_below hc hb') (Kd.C_below hLw hb') (Kd.C_below (Kd.C_below hC hB) hb') x.2.1 x.2.2 (by have := x.2.2; omega)
  have hpo : PredOver Try.prog 66 #[.pointer (some ⟨bx, 0, none⟩), .pointer (some ⟨bc, 0, none⟩)] (fun x : Ix L.length => Value.int .i64 x.1) (fun x => (rd_T45 L x.1).f0 != (rd_T45 C x.1).f1) g 0 D.toArray.size w :=
   fun n os dk x _ => by
    have hgr := grown_put (fun x : Ix L.length => Value.int .i64 x.1) (w := w) (g := g) (n := n) (os := os) dk
    unfold sortWorld
    exact find1_calls x.1 (blk_grown hx hgr hxg) (blk_grown hc hgr hcg) (Kd.R_reads' (Kd.R_over hL ho (by decide) hgr)).2.2 (Kd.C_below hC (pw_below_grown hB (some g) hB.size hgr (fun k e => by cases e; exact hg))) x.2.1 x.2.2 (by have := x.2.2; omega)
  have hsz : D.toArray.size = S.length := by rw [← hD]; simp
  have hH : Sort.Holds (fun x : Ix L.length => Value.int .i64 x.1) w g 0 D.toArray := fun j hj => by
   have := holds_of_blockI hh h4 j (by have hj2 := hj; rw [hsz] at hj2; simpa using hj2)
   refine ⟨?_, this.2⟩
   rw [this.1]
   have hj' : j < D.length := by simpa using hj
   subst hD
   simp [getElem!_pos, hj']
  have hmain := Try.slices_DeleteFunc (fun x : Ix L.length => Value.int .i64 x.1) (fun _ => rfl) (fun x => (rd_T45 L x.1).f0 != (rd_T45 C x.1).f1) 66 #[.pointer (some ⟨bx, 0, none⟩), .pointer (some ⟨bc, 0, none⟩)] eg ⟨0, by omega, by omega⟩ Try.zeroValue3 g 0 cap D.toArray w hp hpo hH (by omega) (by rw [hsz]; simpa using h1)
  rw [hsz] at hmain
  have hf : (D.filter fun x : Ix L.length => !((rd_T45 L x.1).f0 != (rd_T45 C x.1).f1)).map (fun x => x.1) = stayP L C S := by
   unfold stayP
   rw [← hD, List.filter_map]; rfl
  have hfl : (D.filter fun x : Ix L.length => !((rd_T45 L x.1).f0 != (rd_T45 C x.1).f1)).length = (stayP L C S).length := by rw [← hf, List.length_map]
  have hk : (stayP L C S).length ≤ S.length := List.length_filter_le _ _
  refine hmain.mono ?_
  rintro e w' ⟨rfl, q, rfl⟩
  rw [put_ix, List.map_append, List.map_replicate, hf, hfl]
  have hy : (stayP L C S ++ List.replicate (S.length - (stayP L C S).length) (0 : Int)).length = S.length := by rw [List.length_append, List.length_replicate]; omega
  have hw := Lib.ownsRow_putRow (q := q) hR hy hk
  rw [List.take_left' rfl] at hw
  have hgr := grownBy_sortedI (w := w) (g := g) (n := q) (os := #[]) (stayP L C S ++ List.replicate (S.length - (stayP L C S).length) (0 : Int)).toArray
  rw [Sort.grow_empty] at hgr
  exact ⟨_, rfl, Kd.R_of_own (by rw [encs_mapD]; exact hw) (fun k e => by cases e; exact hPg), hgr, rfl⟩
theorem indexE_calls (A : Option Addr) (cap : Nat) (fv : Value) (w : World) :
  Calls Try.prog 85 #[.slice A 0 cap, fv] w fun e w' => e = .returned (.int .i64 (-1)) ∧ w' = w := by
 go_enter Try.func85, Try.ntmps85
 go_wp2
 go_loopg [8] 1 (fun kq v8 w' => v8 = .int .i64 0 ∧ w' = w)
 case atStart => exact ⟨rfl, rfl⟩
 case round =>
  obtain ⟨rfl, rfl⟩ := hrel
  go_wp2
  go_ret
  exact ⟨rfl, rfl⟩
theorem deleteE_calls (A : Option Addr) (cap : Nat) (fv : Value) (w : World) :
  Calls Try.prog 65 #[.slice A 0 cap, fv] w fun e w' => e = .returned (.slice A 0 cap) ∧ w' = w := by
 go_enter Try.func65, Try.ntmps65
 go_wp2_with (go_at_call 85; (with_reducible refine (indexE_calls A cap fv _).mono ?_); rintro e w1 ⟨rfl, rfl⟩)
 go_ret
 exact ⟨rfl, rfl⟩
/-- What is given: the resets of some latches. -/
def gvnP (a : Int) (l1 : List S45) (N : Nat) (S : List Int) : List Int := S.foldl (fun g x => g.set (a + 1 + x).toNat (rd_T45 l1 x).f1) (List.replicate N (-1))
/-- The latches with a reset. -/
def initP (l1 : List S45) (n : Nat) : List Int := ((List.range n).filter fun j : Nat => (rd_T45 l1 (j : Int)).f1 != 2).map fun j : Nat => (j : Int)
theorem initP_in (l1 : List S45) (n : Nat) : ∀ x ∈ initP l1 n, 0 ≤ x ∧ x < (n : Int) := fun x hx => by
 obtain ⟨j, hj, rfl⟩ := List.mem_map.1 hx
 have := List.mem_range.1 (List.mem_filter.1 hj).1
 omega
theorem initP_len (l1 : List S45) (n : Nat) : (initP l1 n).length ≤ n := by
 unfold initP
 rw [List.length_map]
 exact Nat.le_trans (List.length_filter_le _ _) (by simp)
theorem initP_yes (l1 : List S45) (n : Nat) (h : ((rd_T45 l1 (n : Int)).f1 != 2) = true) : initP l1 (n + 1) = initP l1 n ++ [(n : Int)] := by
 unfold initP
 rw [List.range_succ, List.filter_append, List.filter_cons, if_pos h, List.map_append]
 rfl
theorem initP_no (l1 : List S45) (n : Nat) (h : ((rd_T45 l1 (n : Int)).f1 != 2) = false) : initP l1 (n + 1) = initP l1 n := by
 unfold initP
 rw [List.range_succ, List.filter_append, List.filter_cons, if_neg (by rw [h]; decide), List.map_append]
 simp
theorem stayP_in {L C : List S45} {S : List Int} {n : Nat} (h : ∀ x ∈ S, 0 ≤ x ∧ x < (n : Int)) : ∀ x ∈ stayP L C S, 0 ≤ x ∧ x < (n : Int) := fun x hx => h x (List.mem_filter.1 hx).1
theorem stayP_len (L C : List S45) (S : List Int) : (stayP L C S).length ≤ S.length := List.length_filter_le _ _
theorem gvn_step (a : Int) (l1 : List S45) (g : List Int) (S : List Int) (j : Nat) (h : j < S.length) : (S.take (j + 1)).foldl (fun g x => g.set (a + 1 + x).toNat (rd_T45 l1 x).f1) g = ((S.take j).foldl (fun g x => g.set (a + 1 + x).toNat (rd_T45 l1 x).f1) g).set (a + 1 + S[j]).toNat (rd_T45 l1 S[j]).f1 := by
 rw [List.take_succ_eq_append_getElem h, List.foldl_append]; rfl
theorem gvn_len (a : Int) (l1 : List S45) (S g : List Int) : (S.foldl (fun g x => g.set (a + 1 + x).toNat (rd_T45 l1 x).f1) g).length = g.length := by
 induction S generalizing g with
 | nil => rfl
 | cons x S ih => rw [List.foldl_cons, ih, List.length_set]
/-- The latches that stay, and the circuit that was built last. -/
def findL (a : Int) (l1 : List S45) (l2 : List S55) (l3 l4 : List Int) (N : Nat) : Nat → List Int → Option (List Int × Int × List S45 × List S55 × List Int × List Int)
 | 0, _ => none
 | k + 1, S => (hash_Build.f a l1 l2 l3 l4 (gvnP a l1 N S)).bind fun x => if x.2.1.length = l1.length then (if (stayP x.2.1 l1 S).length = S.length then some (stayP x.2.1 l1 S, x.1, x.2.1, x.2.2.1, x.2.2.2.1, x.2.2.2.2.1) else findL a l1 l2 l3 l4 N k (stayP x.2.1 l1 S)) else none
theorem findL_mono (a : Int) (l1 : List S45) (l2 : List S55) (l3 l4 : List Int) (N : Nat) : ∀ k S, LeO (findL a l1 l2 l3 l4 N k S) (findL a l1 l2 l3 l4 N (k + 1) S)
 | 0, S => fun r h => by simp [findL] at h
 | k + 1, S => by
  unfold findL
  refine LeO.bind (LeO.refl _) (fun x => ?_)
  refine LeO.ite (LeO.ite (LeO.refl _) (findL_mono a l1 l2 l3 l4 N k _)) (LeO.refl _)
def constants_find.f (k : Nat) (a0_0 : Int) (l0_1 : List (S45)) (l0_2 : List (S55)) (l0_3 : List Int) (l0_4 : List Int) : Option (List Int × Int × (List (S45)) × (List (S55)) × List Int × List Int × Int) :=
 (gates_Vars.f a0_0 l0_1 l0_2 l0_3 l0_4).bind fun p => if p.2 = 0 then
  (if okH a0_0 l0_1 l0_2 l0_3 l0_4 = true ∧ p.1 = a0_0 + (l0_1.length : Int) + (l0_2.length : Int) then
   (findL a0_0 l0_1 l0_2 l0_3 l0_4 (p.1 + 1).toNat k (initP l0_1 l0_1.length)).bind fun x => some (x.1, x.2.1, x.2.2.1, x.2.2.2.1, x.2.2.2.2.1, x.2.2.2.2.2, 0) else none)
  else some ([], 0, [], [], [], [], p.2)
theorem constants_find.mono : ∀ a0 a1 a2 a3 a4 k, LeO (constants_find.f k a0 a1 a2 a3 a4) (constants_find.f (k + 1) a0 a1 a2 a3 a4) := by
 intro a0 a1 a2 a3 a4 k
 unfold constants_find.f
 refine LeO.bind (LeO.refl _) (fun p => ?_)
 exact LeO.ite (LeO.ite (LeO.bind (findL_mono _ _ _ _ _ _ _ _) (fun _ => LeO.refl _)) (LeO.refl _)) (LeO.refl _)
theorem lit1_C (W : World) (x : Int) : Kd.C (Kd.int .i64) (W.alloc (.cells #[.int .i64 x] 3)) (some ⟨W.heap.size, 0, none⟩) ([x] : List Int).length [x] := by
 refine ⟨rfl, by simp, fun _ => ⟨_, rfl, ?_⟩⟩
 intro j p hj
 rcases j with _ | j
 ·simp at hj
  subst hj
  refine ⟨[.int .i64 x], rfl, rfl, fun i u hu => ?_⟩
  rcases i with _ | i
  ·simp at hu
   subst hu
   exact (blk_cell (heap_alloc_new W _) 0).trans rfl
  ·simp at hu
 ·simp at hj
/-- Deletion, of an empty list too. -/
theorem deleteX_calls {P0 PL : Nat → Prop} {u : Value} {S : List Int} {L C : List S45} {AL AC : Option Addr} {cL cC : Nat} {x0 x2 x3 x4 c0 c2 c3 c4 : Value} {bx bc B : Nat} {w0 w : World} (hB : Below w0.heap.size w0 w) (ho : Kd.R (Kd.int .i64) 3 w w0.heap.size P0 u S) (hS : ∀ x ∈ S, 0 ≤ x ∧ x < (L.length : Int)) (hLC : L.length = C.length) (hl : S.length ≤ 1000000000)
  (hx : w.heap[bx]? = some (.cells #[x0, .slice AL L.length cL, x2, x3, x4] 26 (0, 0))) (hc : w.heap[bc]? = some (.cells #[c0, .slice AC C.length cC, c2, c3, c4] 26 (0, 0)))
  (hL : Kd.R k45 45 w B PL (.slice AL L.length cL) L) (hC : Kd.C k45 w0 AC C.length C) :
  Calls Try.prog 65 #[u, .func (.func 66) #[] #[.pointer (some ⟨bx, 0, none⟩), .pointer (some ⟨bc, 0, none⟩)]] w fun e w' => ∃ v0_ : Value, e = .returned v0_ ∧ Kd.R (Kd.int .i64) 3 w' w0.heap.size P0 v0_ (stayP L C S) ∧ w.grownBy w' u.ownBlock ∧ v0_.ownBlock = u.ownBlock := by
 by_cases hne : S = []
 ·subst hne
  obtain ⟨A, c, rfl⟩ := Kd.R_slice ho
  refine (deleteE_calls A c _ w).mono ?_
  rintro e w' ⟨rfl, rfl⟩
  exact ⟨_, rfl, ho, World.grownBy.refl _ _, rfl⟩
 ·exact deleteC_calls hB ho hS hLC hne hl hx hc hL hC
theorem rep1_calls (W : World) (N : Nat) (h1 : 1 ≤ N) (h2 : N ≤ 60000) :
  Calls Try.prog 64 #[.slice (some ⟨W.heap.size, 0, none⟩) 1 1, .int .i64 (N : Int)] (W.alloc (.cells #[.int .i64 (-1)] 3)) fun e w' => ∃ (gg cg : Nat), e = .returned (.slice (some ⟨gg, 0, none⟩) N cg) ∧ Kd.R (Kd.int .i64) 3 w' W.heap.size (fun _ => True) (.slice (some ⟨gg, 0, none⟩) N cg) (List.replicate N (-1)) ∧ W.heap.size ≤ gg ∧ Below W.heap.size W w' := by
 have hr : slices_Repeat_int_int.f [-1] (N : Int) = some (List.replicate N (-1)) := by
  unfold slices_Repeat_int_int.f
  rw [if_pos ⟨rfl, by omega, by omega⟩, Int.toNat_natCast]; rfl
 refine (slices_Repeat_int_int.calls (some ⟨W.heap.size, 0, none⟩) 1 [-1] (N : Int) (List.replicate N (-1)) _ (lit1_C W (-1)) (Nat.le_refl _) hr).mono ?_
 rintro e w2 ⟨v10, rfl, ho, hb⟩
 obtain ⟨gg, cg, hv, hge, -, -⟩ := Kd.R_form ho (by rw [List.length_replicate]; omega)
 rw [List.length_replicate] at hv
 subst hv
 have hs : W.heap.size ≤ (W.alloc (.cells #[.int .i64 (-1)] 3)).heap.size := by rw [World.size_alloc]; exact Nat.le_succ _
 exact ⟨gg, cg, rfl, Kd.R_lower ho hs, Nat.le_trans hs hge, below_step (below_alloc (Below.refl _ _) _) hb⟩
/-- All along: the circuit's box, and the result's. -/
structure FB (w W : World) (CC : Array Value) : Prop where
 hb : Below w.heap.size w W
 hc : W.heap[w.heap.size]? = some (.cells CC 26 (0, 0))
 hz : W.heap[w.heap.size + 1]? = some (.cells #[.int .i64 0, .slice none 0 0, .slice none 0 0, .slice none 0 0, .slice none 0 0] 26 (0, 0))
theorem FB.below {w W W' : World} {CC : Array Value} (h : FB w W CC) (hb : Below W.heap.size W W') : FB w W' CC := ⟨below_step h.hb hb, blk_below h.hc hb, blk_below h.hz hb⟩
theorem FB.over {w W W' : World} {CC : Array Value} {P : Nat → Prop} {v : Value} {xs : List Int} (h : FB w W CC) (ho : Kd.R (Kd.int .i64) 3 W w.heap.size P v xs) (hg : W.grownBy W' v.ownBlock) : FB w W' CC :=
 ⟨pw_below_grown h.hb _ h.hb.size hg (Kd.R_base ho), blk_grown h.hc hg (Kd.R_ne ho h.hc (by decide)), blk_grown h.hz hg (Kd.R_ne ho h.hz (by decide))⟩
set_option maxHeartbeats 8000000 in
set_option maxRecDepth 100000 in
theorem find_err (a0_0 : Int) (A0_1 : Option Addr) (c0_1 : Nat) (l0_1 : List S45) (A0_2 : Option Addr) (c0_2 : Nat) (l0_2 : List S55) (A0_3 : Option Addr) (c0_3 : Nat) (l0_3 : List Int) (A0_4 : Option Addr) (c0_4 : Nat) (l0_4 : List Int) (n e0 : Int) (w : World) (hr0_1 : Kd.C k45 w A0_1 l0_1.length l0_1) (hc0_1 : l0_1.length ≤ c0_1) (hr0_2 : Kd.C k55 w A0_2 l0_2.length l0_2) (hc0_2 : l0_2.length ≤ c0_2) (hr0_3 : Kd.C (Kd.int .i64) w A0_3 l0_3.length l0_3) (hc0_3 : l0_3.length ≤ c0_3) (hr0_4 : Kd.C (Kd.int .i64) w A0_4 l0_4.length l0_4) (hc0_4 : l0_4.length ≤ c0_4)
  (hv : gates_Vars.f a0_0 l0_1 l0_2 l0_3 l0_4 = some (n, e0)) (hne : e0 ≠ 0) :
  Calls Try.prog 35 #[.agg #[.int .i64 a0_0, .slice A0_1 l0_1.length c0_1, .slice A0_2 l0_2.length c0_2, .slice A0_3 l0_3.length c0_3, .slice A0_4 l0_4.length c0_4]] w fun e w' => ∃ v0_ v2_ v3_ v4_ v5_ : Value, e = .returned (.tuple #[v0_, .agg #[.int .i64 0, v2_, v3_, v4_, v5_], .int .i64 e0]) ∧ Kd.R (Kd.int .i64) 3 w' w.heap.size (fun k_ => some k_ ≠ (v4_ : Value).ownBlock ∧ some k_ ≠ (v5_ : Value).ownBlock) v0_ [] ∧ Kd.R k45 45 w' w.heap.size (fun _ => True) v2_ [] ∧ Kd.R k55 55 w' w.heap.size (fun _ => True) v3_ [] ∧ Kd.R (Kd.int .i64) 3 w' w.heap.size (fun k_ => some k_ ≠ (v0_ : Value).ownBlock ∧ some k_ ≠ (v5_ : Value).ownBlock) v4_ [] ∧ Kd.R (Kd.int .i64) 3 w' w.heap.size (fun k_ => some k_ ≠ (v0_ : Value).ownBlock ∧ some k_ ≠ (v4_ : Value).ownBlock) v5_ [] ∧ Below w.heap.size w w' := by
 have hu26 := Try.underlying26
 have HR0_1 := M_ hr0_1
 have HC0_1 := M_ hc0_1
 have HR0_2 := M_ hr0_2
 have HC0_2 := M_ hc0_2
 have HR0_3 := M_ hr0_3
 have HC0_3 := M_ hc0_3
 have HR0_4 := M_ hr0_4
 have HC0_4 := M_ hc0_4
 have HV := M_ hv
 have HB0 := M_ (below_alloc (below_alloc (Below.refl w.heap.size w) (.cells #[.int .i64 a0_0, .slice A0_1 l0_1.length c0_1, .slice A0_2 l0_2.length c0_2, .slice A0_3 l0_3.length c0_3, .slice A0_4 l0_4.length c0_4] 26)) (.cells #[.int .i64 0, .slice none 0 0, .slice none 0 0, .slice none 0 0, .slice none 0 0] 26))
 have HF0 := M_ (FB.mk HB0.out (blk_alloc (heap_alloc_new w (.cells #[.int .i64 a0_0, .slice A0_1 l0_1.length c0_1, .slice A0_2 l0_2.length c0_2, .slice A0_3 l0_3.length c0_3, .slice A0_4 l0_4.length c0_4] 26)) (.cells #[.int .i64 0, .slice none 0 0, .slice none 0 0, .slice none 0 0, .slice none 0 0] 26)) (zbox w #[.int .i64 a0_0, .slice A0_1 l0_1.length c0_1, .slice A0_2 l0_2.length c0_2, .slice A0_3 l0_3.length c0_3, .slice A0_4 l0_4.length c0_4]))
 have b2 : (e0 != 0) = true := bne_iff_ne.mpr hne
 clear hr0_1 hr0_2 hr0_3 hr0_4 hc0_1 hc0_2 hc0_3 hc0_4 hv hne
 go_enter Try.func35, Try.ntmps35
 go_wp2_with (go_at_call 40; (with_reducible refine (gates_Vars.calls a0_0 A0_1 c0_1 l0_1 A0_2 c0_2 l0_2 A0_3 c0_3 l0_3 A0_4 c0_4 l0_4 _ _ _ (Kd.C_below HR0_1.out HB0.out) HC0_1.out (Kd.C_below HR0_2.out HB0.out) HC0_2.out (Kd.C_below HR0_3.out HB0.out) HC0_3.out (Kd.C_below HR0_4.out HB0.out) HC0_4.out HV.out).mono ?_); rintro e w1 ⟨rfl, hb⟩; have HF := M_ (HF0.out.below hb); clear hb; have rb0 := (blk_cell HF.out.hz 0).trans (show _ = some (.int .i64 0) from rfl); have frb0 := blk_frozen HF.out.hz 0; have rb1 := (blk_cell HF.out.hz 1).trans (show _ = some (.slice none 0 0) from rfl); have frb1 := blk_frozen HF.out.hz 1; have rb2 := (blk_cell HF.out.hz 2).trans (show _ = some (.slice none 0 0) from rfl); have frb2 := blk_frozen HF.out.hz 2; have rb3 := (blk_cell HF.out.hz 3).trans (show _ = some (.slice none 0 0) from rfl); have frb3 := blk_frozen HF.out.hz 3; have rb4 := (blk_cell HF.out.hz 4).trans (show _ = some (.slice none 0 0) from rfl); have frb4 := blk_frozen HF.out.hz 4)
 (try simp only [Exit.inBlock, Exit.then]); refine bodyPost_ret (results_list (rs := [.tmp 2, .cell 3 26, .tmp 4]) rfl (by simp) (.tmp (.cell (w.heap.size + 1) 26 #[.int .i64 0, .slice none 0 0, .slice none 0 0, .slice none 0 0, .slice none 0 0] (0, 0) _ rfl (put5_blk _ _ _ _ _ HF.out.hz) Try.underlying26 rfl (by kernel_rfl) (.tmp .nil)))) rfl ?_
 exact ⟨_, _, _, _, _, rfl, Kd.R_nil _ _ _ _ _, Kd.R_nil _ _ _ _ _, Kd.R_nil _ _ _ _ _, Kd.R_nil _ _ _ _ _, Kd.R_nil _ _ _ _ _, put5_below _ _ _ _ _ HF.out.hb (Nat.le_succ _)⟩
set_option maxHeartbeats 8000000 in
set_option maxRecDepth 100000 in
theorem find_main (k : Nat) (a0_0 : Int) (A0_1 : Option Addr) (c0_1 : Nat) (l0_1 : List S45) (A0_2 : Option Addr) (c0_2 : Nat) (l0_2 : List S55) (A0_3 : Option Addr) (c0_3 : Nat) (l0_3 : List Int) (A0_4 : Option Addr) (c0_4 : Nat) (l0_4 : List Int) (r1 : List Int) (r2 : Int) (r3 : List S45) (r4 : List S55) (r5 r6 : List Int) (N : Nat) (w : World) (hr0_1 : Kd.C k45 w A0_1 l0_1.length l0_1) (hc0_1 : l0_1.length ≤ c0_1) (hr0_2 : Kd.C k55 w A0_2 l0_2.length l0_2) (hc0_2 : l0_2.length ≤ c0_2) (hr0_3 : Kd.C (Kd.int .i64) w A0_3 l0_3.length l0_3) (hc0_3 : l0_3.length ≤ c0_3) (hr0_4 : Kd.C (Kd.int .i64) w A0_4 l0_4.length l0_4) (hc0_4 : l0_4.length ≤ c0_4)
  (hv : gates_Vars.f a0_0 l0_1 l0_2 l0_3 l0_4 = some (a0_0 + (l0_1.length : Int) + (l0_2.length : Int), 0)) (hok : okH a0_0 l0_1 l0_2 l0_3 l0_4 = true) (hN : (N : Int) = a0_0 + (l0_1.length : Int) + (l0_2.length : Int) + 1) (hf : findL a0_0 l0_1 l0_2 l0_3 l0_4 N k (initP l0_1 l0_1.length) = some (r1, r2, r3, r4, r5, r6)) :
  Calls Try.prog 35 #[.agg #[.int .i64 a0_0, .slice A0_1 l0_1.length c0_1, .slice A0_2 l0_2.length c0_2, .slice A0_3 l0_3.length c0_3, .slice A0_4 l0_4.length c0_4]] w fun e w' => ∃ v0_ v2_ v3_ v4_ v5_ : Value, e = .returned (.tuple #[v0_, .agg #[.int .i64 r2, v2_, v3_, v4_, v5_], .int .i64 0]) ∧ Kd.R (Kd.int .i64) 3 w' w.heap.size (fun k_ => some k_ ≠ (v4_ : Value).ownBlock ∧ some k_ ≠ (v5_ : Value).ownBlock) v0_ r1 ∧ Kd.R k45 45 w' w.heap.size (fun _ => True) v2_ r3 ∧ Kd.R k55 55 w' w.heap.size (fun _ => True) v3_ r4 ∧ Kd.R (Kd.int .i64) 3 w' w.heap.size (fun k_ => some k_ ≠ (v0_ : Value).ownBlock ∧ some k_ ≠ (v5_ : Value).ownBlock) v4_ r5 ∧ Kd.R (Kd.int .i64) 3 w' w.heap.size (fun k_ => some k_ ≠ (v0_ : Value).ownBlock ∧ some k_ ≠ (v4_ : Value).ownBlock) v5_ r6 ∧ Below w.heap.size w w' := by
 unfold okH at hok
 simp only [Bool.and_eq_true, decide_eq_true_eq, List.all_eq_true] at hok
 obtain ⟨⟨k0, k1, k2, k3, k4, k5⟩, kg⟩ := hok
 have hu26 := Try.underlying26
 have HR0_1 := M_ hr0_1
 have HC0_1 := M_ hc0_1
 have HR0_2 := M_ hr0_2
 have HC0_2 := M_ hc0_2
 have HR0_3 := M_ hr0_3
 have HC0_3 := M_ hc0_3
 have HR0_4 := M_ hr0_4
 have HC0_4 := M_ hc0_4
 have HV := M_ hv
 have HB0 := M_ (below_alloc (below_alloc (Below.refl w.heap.size w) (.cells #[.int .i64 a0_0, .slice A0_1 l0_1.length c0_1, .slice A0_2 l0_2.length c0_2, .slice A0_3 l0_3.length c0_3, .slice A0_4 l0_4.length c0_4] 26)) (.cells #[.int .i64 0, .slice none 0 0, .slice none 0 0, .slice none 0 0, .slice none 0 0] 26))
 have HF0 := M_ (FB.mk HB0.out (blk_alloc (heap_alloc_new w (.cells #[.int .i64 a0_0, .slice A0_1 l0_1.length c0_1, .slice A0_2 l0_2.length c0_2, .slice A0_3 l0_3.length c0_3, .slice A0_4 l0_4.length c0_4] 26)) (.cells #[.int .i64 0, .slice none 0 0, .slice none 0 0, .slice none 0 0, .slice none 0 0] 26)) (zbox w #[.int .i64 a0_0, .slice A0_1 l0_1.length c0_1, .slice A0_2 l0_2.length c0_2, .slice A0_3 l0_3.length c0_3, .slice A0_4 l0_4.length c0_4]))
 have HS := M_ (show 0 ≤ a0_0 ∧ a0_0 ≤ 10000 ∧ l0_1.length ≤ 10000 ∧ l0_2.length ≤ 10000 from ⟨k0, k1, k2, k3⟩)
 have HN := M_ hN
 have HFL := M_ hf
 clear hr0_1 hr0_2 hr0_3 hr0_4 hc0_1 hc0_2 hc0_3 hc0_4 hv kg hf hN
 clear k0 k1 k2 k3 k4 k5
 go_enter Try.func35, Try.ntmps35
 go_upto_region 5 with (go_at_call 40; (with_reducible refine (gates_Vars.calls a0_0 A0_1 c0_1 l0_1 A0_2 c0_2 l0_2 A0_3 c0_3 l0_3 A0_4 c0_4 l0_4 _ _ _ (Kd.C_below HR0_1.out HB0.out) HC0_1.out (Kd.C_below HR0_2.out HB0.out) HC0_2.out (Kd.C_below HR0_3.out HB0.out) HC0_3.out (Kd.C_below HR0_4.out HB0.out) HC0_4.out HV.out).mono ?_); rintro e w1 ⟨rfl, hb⟩; have HF := M_ (HF0.out.below hb); clear hb)
 have y1 := (blk_cell HF.out.hc 1).trans (show _ = some (.slice A0_1 l0_1.length c0_1) from rfl)
 go_upto_block 0 with fail
 clear HF0 HB0 HV y1
 go_cut [7] (fun v7 wx => Aside0 (FB w wx #[.int .i64 a0_0, .slice A0_1 l0_1.length c0_1, .slice A0_2 l0_2.length c0_2, .slice A0_3 l0_3.length c0_3, .slice A0_4 l0_4.length c0_4]) ∧ Aside0 (Kd.R (Kd.int .i64) 3 wx w.heap.size (fun _ => True) v7 (initP l0_1 l0_1.length)))
 case first =>
  go_wp2
  go_loopg [7, 29] (l0_1.length + 1) (fun kq v7 v29 w' => ∃ (i : Nat), v29 = .int .i64 (i : Int) ∧ Aside0 (i ≤ l0_1.length ∧ kq + i = l0_1.length + 1) ∧ Aside0 (FB w w' #[.int .i64 a0_0, .slice A0_1 l0_1.length c0_1, .slice A0_2 l0_2.length c0_2, .slice A0_3 l0_3.length c0_3, .slice A0_4 l0_4.length c0_4]) ∧ Aside0 (Kd.R (Kd.int .i64) 3 w' w.heap.size (fun _ => True) v7 (initP l0_1 i)))
  case atStart => exact ⟨0, by simp, ⟨by omega, by omega⟩, HF, ⟨Kd.R_nil _ _ _ _ _⟩⟩
  case round =>
   clear HF
   obtain ⟨i, rfl, HI, HF, HO⟩ := hrel
   by_cases c : i < l0_1.length
   ·have cb : decide (i < l0_1.length) = true := decide_eq_true c
    have HC := M_ c
    have p0 : (0 : Int) ≤ (i : Int) := by omega
    have p1 : (i : Int) < (l0_1.length : Int) := by omega
    obtain ⟨ad, rfl, hx0, hx1⟩ := at_T45 (Kd.C_below HR0_1.out HF.out.hb) (i : Int) p0 p1
    rw [Int.toNat_natCast] at hx0 hx1
    have HIN := M_ (And.intro (initP_yes l0_1 i) (initP_no l0_1 i))
    have HLE := M_ (initP_len l0_1 i)
    have ew : wrap64 ((i : Int) + 1) = ((i + 1 : Nat) : Int) := by have h1 := HS.out; unfold wrap64; omega
    have EW := M_ ew
    clear ew
    generalize (rd_T45 l0_1 (i : Int)).f0 = p at hx0 hx1 HIN
    generalize (rd_T45 l0_1 (i : Int)).f1 = q at hx0 hx1 HIN
    have HF2 := M_ (HF.out.below (below_alloc (Below.refl wr.heap.size wr) (.cells #[.int .i64 p, .int .i64 q] 45)))
    have HO2 := M_ (Kd.R_below HO.out (below_alloc (Below.refl wr.heap.size wr) (.cells #[.int .i64 p, .int .i64 q] 45)))
    clear HF HO
    cases b2 : (q != 2) with
    | false =>
     have e := HIN.out.2 b2
     go_wp2
     go_roundg (gk - 1)
     case rel => exact ⟨i + 1, congrArg (Value.int .i64) EW.out, ⟨by have := HC.out; omega, by have := HI.out; have := HC.out; omega⟩, HF2, ⟨by rw [e]; exact HO2.out⟩⟩
     case measure => have := HI.out; have := HC.out; omega
    | true =>
     have HE := M_ (HIN.out.1 b2)
     go_wp2_with (first
      | ((with_reducible refine gate_builtin (b := .append) (xs := #[.tmp 37, .tmp 39]) rfl ?_); at_builtin; refine Kd.R_append (Kd.int .i64) (w0 := w) w.heap.size rfl (.tmp 37) (.tmp 39) 24 3 (.int .i64 0) 8 rfl Try.underlying24 info3 rfl (by decide) (by omega) u7 (initP l0_1 i) (i : Int) [.int .i64 (i : Int)] (fun _ => True) (fun _ => False) rfl ?aX ?aP (fun _ hk => hk.elim) ?aF ?aO ?aB ?aS ?aL ?_; (case aX => exact (show _ = Value.slice (some ⟨wr.heap.size + 1, 0, none⟩) 1 1 from rfl).trans (by rw [World.size_alloc])); (case aP => exact rfl); (case aB => exact HF2.out.hb); (case aF => exact (fun _ _ => trivial)); (case aO => exact HO2.out); (case aS => exact below_size HF2.out.hb); (case aL => have h1 := HLE.out; have h2 := HI.out; have h3 := HS.out; omega); intro v2 w2 ho hb hg hat; rw [← HE.out] at ho; have HO3 := M_ ho; have HF3 := M_ (HF2.out.over HO2.out hg); (try clear ho); (try clear hb); (try clear hg); (try clear hat)))
     go_roundg (gk - 1)
     case rel => exact ⟨i + 1, congrArg (Value.int .i64) EW.out, ⟨by have := HC.out; omega, by have := HI.out; have := HC.out; omega⟩, HF3, HO3⟩
     case measure => have := HI.out; have := HC.out; omega
   ·have cb : decide (i < l0_1.length) = false := decide_eq_false c
    have ei : i = l0_1.length := by have := HI.out; omega
    subst ei
    go_wp2
    go_meet
    exact ⟨HF, HO⟩
 case rest =>
  obtain ⟨HF1, HO⟩ := hcut
  clear HF
  have HF := HF1
  clear HF1
  go_wp2
  go_loopg [7] k (fun kq v7 w' => ∃ (S : List Int), Aside0 (findL a0_0 l0_1 l0_2 l0_3 l0_4 N kq S = some (r1, r2, r3, r4, r5, r6)) ∧ Aside0 (kq ≤ k) ∧ Aside0 (∀ x ∈ S, 0 ≤ x ∧ x < (l0_1.length : Int)) ∧ Aside0 (S.length ≤ l0_1.length) ∧ Aside0 (FB w w' #[.int .i64 a0_0, .slice A0_1 l0_1.length c0_1, .slice A0_2 l0_2.length c0_2, .slice A0_3 l0_3.length c0_3, .slice A0_4 l0_4.length c0_4]) ∧ Aside0 (Kd.R (Kd.int .i64) 3 w' w.heap.size (fun _ => True) v7 S))
  case atStart => exact ⟨initP l0_1 l0_1.length, HFL, ⟨Nat.le_refl _⟩, ⟨initP_in _ _⟩, ⟨initP_len _ _⟩, HF, HO⟩
  case round =>
   clear HF HO HFL
   obtain ⟨S, HFK, HK, HSI, HSL, HF, HO⟩ := hrel
   cases gk with
   | zero => exact absurd HFK.out (by simp [findL])
   | succ k1 =>
   have hfk := HFK.out
   simp only [findL] at hfk
   obtain ⟨⟨x1, XL, XG, XB, XD, T, eb⟩, hb, hfk⟩ := Option.bind_eq_some_iff.mp hfk
   dsimp only at hfk
   by_cases cl : XL.length = l0_1.length
   case neg => rw [if_neg cl] at hfk; exact absurd hfk (by simp)
   rw [if_pos cl] at hfk
   have HBU := M_ hb
   have HCL := M_ cl
   have HFK2 := M_ hfk
   clear hb cl hfk HFK
   have e1 : wrap64 (a0_0 + (l0_1.length : Int) + (l0_2.length : Int) + 1) = (N : Int) := by have h1 := HS.out; have h2 := HN.out; unfold wrap64; omega
   have hNb : 1 ≤ N ∧ N ≤ 60000 := by have h1 := HS.out; have h2 := HN.out; omega
   have HNB := M_ hNb
   clear hNb
   go_upto_region 12 with (go_at_call 64; (with_reducible refine (rep1_calls wr N HNB.out.1 HNB.out.2).mono ?_); rintro e w2 ⟨gg, cg, rfl, ho, hge, hb⟩; have HF2 := M_ (HF.out.below hb); have HG := M_ (Kd.R_lower ho HF.out.hb.size); have HO2 := M_ (Kd.R_mono (Kd.R_below (Kd.R_elderB HO.out gg hge) hb) (fun k hk => hk.2)); clear ho hb hge)
   clear HF HO e1
   obtain ⟨A7, c7, rfl⟩ := Kd.R_slice HO2.out
   go_upto_block 4 with fail
   go_cut [] (fun wx => Aside0 (FB w wx #[.int .i64 a0_0, .slice A0_1 l0_1.length c0_1, .slice A0_2 l0_2.length c0_2, .slice A0_3 l0_3.length c0_3, .slice A0_4 l0_4.length c0_4]) ∧ Aside0 (Kd.R (Kd.int .i64) 3 wx w.heap.size (fun k => k ≠ gg) (.slice A7 S.length c7) S) ∧ Aside0 (Kd.R (Kd.int .i64) 3 wx w.heap.size (fun _ => True) (.slice (some ⟨gg, 0, none⟩) N cg) (gvnP a0_0 l0_1 N S)))
   case first =>
    go_wp2
    go_loopg [48] (S.length + 1) (fun kq v48 w' => ∃ (j : Nat), v48 = .int .i64 (j : Int) ∧ Aside0 (j ≤ S.length ∧ kq + j = S.length + 1) ∧ Aside0 (FB w w' #[.int .i64 a0_0, .slice A0_1 l0_1.length c0_1, .slice A0_2 l0_2.length c0_2, .slice A0_3 l0_3.length c0_3, .slice A0_4 l0_4.length c0_4]) ∧ Aside0 (Kd.R (Kd.int .i64) 3 w' w.heap.size (fun k => k ≠ gg) (.slice A7 S.length c7) S) ∧ Aside0 (Kd.R (Kd.int .i64) 3 w' w.heap.size (fun _ => True) (.slice (some ⟨gg, 0, none⟩) N cg) ((S.take j).foldl (fun g x => g.set (a0_0 + 1 + x).toNat (rd_T45 l0_1 x).f1) (List.replicate N (-1)))))
    case atStart => exact ⟨0, by simp, ⟨by omega, by omega⟩, HF2, HO2, HG⟩
    case round =>
     clear HF2 HO2 HG
     obtain ⟨j, rfl, HI, HF, HO, HG⟩ := hrel
     by_cases c : j < S.length
     ·have cb : decide (j < S.length) = true := decide_eq_true c
      have HC := M_ c
      have p0 : (0 : Int) ≤ (j : Int) := by omega
      have p1 : (j : Int) < (S.length : Int) := by omega
      obtain ⟨ad, e7, hx0⟩ := Kd.at_int (Kd.R_reads' HO.out).2.2 (j : Int) p0 p1
      have er : rd S (j : Int) = S[j] := by simp [rd, List.getD, c]
      rw [Int.toNat_natCast, er] at hx0
      have hsx := HSI.out S[j] (List.getElem_mem c)
      have hst := gvn_step a0_0 l0_1 (List.replicate N (-1)) S j c
      generalize S[j] = x at hx0 hsx hst
      have HSX := M_ hsx
      have HST := M_ hst
      obtain ⟨ae, ea, hy0, hy1⟩ := at_T45 (Kd.C_below HR0_1.out HF.out.hb) x hsx.1 hsx.2
      subst e7
      subst ea
      have q0 := eq_true hsx.1
      have q1 := eq_true hsx.2
      clear hsx hst er hy0
      have z0 := (blk_cell HF.out.hc 0).trans (show _ = some (.int .i64 a0_0) from rfl)
      have z1 := (blk_cell HF.out.hc 1).trans (show _ = some (.slice (some ae) l0_1.length c0_1) from rfl)
      have u1 : wrap64 (a0_0 + 1) = a0_0 + 1 := by have h1 := HS.out; unfold wrap64; omega
      have u2 : wrap64 (a0_0 + 1 + x) = a0_0 + 1 + x := by have h1 := HS.out; have h2 := HSX.out; unfold wrap64; omega
      have u3 : (0 : Int) ≤ a0_0 + 1 + x := by have h1 := HS.out; have h2 := HSX.out; omega
      have u4 : a0_0 + 1 + x < (N : Int) := by have h1 := HS.out; have h2 := HSX.out; have h3 := HN.out; omega
      have u5 : wrap64 ((j : Int) + 1) = ((j + 1 : Nat) : Int) := by have h1 := HS.out; have h2 := HSL.out; have h3 := HC.out; unfold wrap64; omega
      have hcell := Kd.R_celln (0 : Int) HG.out (a0_0 + 1 + x) u3 (by rw [show ((N : Nat) : Int) = (N : Int) from rfl]; exact u4)
      have hq1 := hcell.1
      have hq2 := hcell.2
      have U5 := M_ u5
      replace u3 := eq_true u3
      replace u4 := eq_true u4
      clear hcell u5
      generalize (rd_T45 l0_1 x).f1 = y at hy1 HST
      have HG2 := M_ (fun W (hW : Below wr.heap.size wr W) => Kd.R_putg (Kd.R_below HG.out hW) (a0_0 + 1 + x) y)
      go_upto_region 15 with fail

      go_region
      all_goals (
       go_wp2
       go_roundg (gk - 1)
       case measure => have := HI.out; have := HC.out; omega
       case rel => exact ⟨j + 1, congrArg (Value.int .i64) U5.out, ⟨by have := HC.out; omega, by have := HI.out; have := HC.out; omega⟩, ⟨(HF.out.over HG.out (HG2.out wr (Below.refl _ _)).2).below (below_drew (Below.refl _ _))⟩, ⟨Kd.R_drew (Kd.R_far HO.out (fun k hk => hk) _)⟩, ⟨by rw [HST.out]; exact Kd.R_drew (HG2.out wr (Below.refl _ _)).1⟩⟩)
     ·have cb : decide (j < S.length) = false := decide_eq_false c
      have ej : j = S.length := by have := HI.out; omega
      subst ej
      go_wp2
      go_meet
      exact ⟨HF, HO, ⟨by have := HG.out; rw [List.take_length] at this; exact this⟩⟩
   case rest =>
    obtain ⟨HF, HO, HG⟩ := hcut
    clear HF2 HO2
    have hlen : (gvnP a0_0 l0_1 N S).length = N := by unfold gvnP; rw [gvn_len, List.length_replicate]
    have HGV := HG
    generalize gvnP a0_0 l0_1 N S = GV at HG HGV HBU hlen
    subst hlen

    have y0 := (blk_cell HF.out.hc 0).trans (show _ = some (.int .i64 a0_0) from rfl)
    have y1 := (blk_cell HF.out.hc 1).trans (show _ = some (.slice A0_1 l0_1.length c0_1) from rfl)
    have y2 := (blk_cell HF.out.hc 2).trans (show _ = some (.slice A0_2 l0_2.length c0_2) from rfl)
    have y3 := (blk_cell HF.out.hc 3).trans (show _ = some (.slice A0_3 l0_3.length c0_3) from rfl)
    have y4 := (blk_cell HF.out.hc 4).trans (show _ = some (.slice A0_4 l0_4.length c0_4) from rfl)
    go_upto_region 18 with (go_at_call 24; (with_reducible refine (hash_Build.calls a0_0 A0_1 c0_1 l0_1 A0_2 c0_2 l0_2 A0_3 c0_3 l0_3 A0_4 c0_4 l0_4 (some ⟨gg, 0, none⟩) cg GV x1 XL XG XB XD T eb _ (Kd.C_below HR0_1.out HF.out.hb) HC0_1.out (Kd.C_below HR0_2.out HF.out.hb) HC0_2.out (Kd.C_below HR0_3.out HF.out.hb) HC0_3.out (Kd.C_below HR0_4.out HF.out.hb) HC0_4.out (Kd.R_reads' HG.out).2.2 (Kd.R_reads' HG.out).2.1 HBU.out).mono ?_); rintro e w5 ⟨v1, v2, v3, v4, v5, rfl, ho1, ho2, ho3, ho4, ho5, hb⟩; obtain ⟨AX, cX, rfl⟩ := Kd.R_slice ho1; obtain ⟨AG, cG, rfl⟩ := Kd.R_slice ho2; obtain ⟨AB, cB, rfl⟩ := Kd.R_slice ho3; obtain ⟨AD, cD, rfl⟩ := Kd.R_slice ho4; obtain ⟨AT, cT, rfl⟩ := Kd.R_slice ho5; have HF2 := M_ (HF.out.below hb); have h3 := M_ (Kd.R_mono (Kd.R_new' ho3 (Kd.R_lt HO.out)) (fun k hk => (⟨hk.2, hk.1.1⟩ : some k ≠ (Value.slice A7 S.length c7).ownBlock ∧ some k ≠ (Value.slice AD XD.length cD).ownBlock))); have h4 := M_ (Kd.R_mono (Kd.R_new' ho4 (Kd.R_lt HO.out)) (fun k hk => (⟨hk.2, hk.1.1⟩ : some k ≠ (Value.slice A7 S.length c7).ownBlock ∧ some k ≠ (Value.slice AB XB.length cB).ownBlock))); have h7 := M_ (Kd.R_mono (Kd.R_below (Kd.R_bound HO.out) hb) (fun k hk => (⟨fun e => by have := Kd.R_base ho3 k e.symm; have := hk.2.2.1; omega, fun e => by have := Kd.R_base ho4 k e.symm; have := hk.2.2.1; omega⟩ : some k ≠ (Value.slice AB XB.length cB).ownBlock ∧ some k ≠ (Value.slice AD XD.length cD).ownBlock))); have h1 := M_ ho1; have h2 := M_ ho2; clear ho1 ho2 ho3 ho4 ho5 hb)
    clear y0 y1 y2 y3 y4 HG HGV HBU
    have hx := heap_alloc_new w5 (.cells #[.int .i64 x1, .slice AX XL.length cX, .slice AG XG.length cG, .slice AB XB.length cB, .slice AD XD.length cD] 26)
    have HL := M_ (Kd.R_alloc h1.out (.cells #[.int .i64 x1, .slice AX XL.length cX, .slice AG XG.length cG, .slice AB XB.length cB, .slice AD XD.length cD] 26))
    have HXG := M_ (Kd.R_alloc h2.out (.cells #[.int .i64 x1, .slice AX XL.length cX, .slice AG XG.length cG, .slice AB XB.length cB, .slice AD XD.length cD] 26))
    have HXB := M_ (Kd.R_alloc h3.out (.cells #[.int .i64 x1, .slice AX XL.length cX, .slice AG XG.length cG, .slice AB XB.length cB, .slice AD XD.length cD] 26))
    have HXD := M_ (Kd.R_alloc h4.out (.cells #[.int .i64 x1, .slice AX XL.length cX, .slice AG XG.length cG, .slice AB XB.length cB, .slice AD XD.length cD] 26))
    have HO6 := M_ (Kd.R_alloc h7.out (.cells #[.int .i64 x1, .slice AX XL.length cX, .slice AG XG.length cG, .slice AB XB.length cB, .slice AD XD.length cD] 26))
    have HF6 := M_ (HF2.out.below (below_alloc (Below.refl _ w5) (.cells #[.int .i64 x1, .slice AX XL.length cX, .slice AG XG.length cG, .slice AB XB.length cB, .slice AD XD.length cD] 26)))
    have HWC := M_ HF.out.hb.size
    clear HF HO h1 h2 h3 h4 h7 HF2
    generalize w5.heap.size = bx at hx ⊢
    generalize w5.alloc (.cells #[.int .i64 x1, .slice AX XL.length cX, .slice AG XG.length cG, .slice AB XB.length cB, .slice AD XD.length cD] 26) = w6 at hx HL HXG HXB HXD HO6 HF6 ⊢
    have HX := M_ hx
    clear hx
    go_upto_region 20 with (go_at_call 65; (with_reducible refine (deleteX_calls HF6.out.hb HO6.out (by rw [HCL.out]; exact HSI.out) HCL.out (by have h1 := HSL.out; have h2 := HS.out; omega) HX.out HF6.out.hc HL.out HR0_1.out).mono ?_); rintro e w7 ⟨v7, rfl, ho, hg, he⟩; obtain ⟨A8, c8, rfl⟩ := Kd.R_slice ho; have HF7 := M_ (HF6.out.over HO6.out hg); have HX7 := M_ (blk_grown HX.out hg (Kd.R_ne HO6.out HX.out (by decide))); have HL7 := M_ (Kd.R_over HL.out HO6.out (by decide) hg); have HG7 := M_ (Kd.R_over HXG.out HO6.out (by decide) hg); have HB7 := M_ (Kd.R_grown HXB.out hg (fun k hk => hk.1)); have HD7 := M_ (Kd.R_grown HXD.out hg (fun k hk => hk.1)); have HO7 := M_ ho; have HE7 := M_ he; clear ho hg he)
    clear HL HXG HXB HXD HO6 HF6 HX
    have hsi := stayP_in (L := XL) (C := l0_1) HSI.out
    have hsl := stayP_len XL l0_1 S
    have hfk := HFK2.out
    clear HFK2
    generalize stayP XL l0_1 S = S2 at HO7 HE7 hfk hsi hsl ⊢
    by_cases cq : S2.length = S.length
    ·rw [if_pos cq] at hfk
     simp only [Option.some.injEq, Prod.mk.injEq] at hfk
     obtain ⟨rfl, rfl, rfl, rfl, rfl, rfl⟩ := hfk
     have c1 : ((S2.length : Int) == (S.length : Int)) = true := beq_iff_eq.mpr (by omega)
     have c2 : (S2.length == S.length) = true := beq_iff_eq.mpr cq
     have c3 : decide (S2.length = S.length) = true := decide_eq_true cq
     clear cq hsi hsl
     have y0 := (blk_cell HX7.out 0).trans (show _ = some (.int .i64 x1) from rfl)
     have y1 := (blk_cell HX7.out 1).trans (show _ = some (.slice AX XL.length cX) from rfl)
     have y2 := (blk_cell HX7.out 2).trans (show _ = some (.slice AG XG.length cG) from rfl)
     have y3 := (blk_cell HX7.out 3).trans (show _ = some (.slice AB XB.length cB) from rfl)
     have y4 := (blk_cell HX7.out 4).trans (show _ = some (.slice AD XD.length cD) from rfl)
     have z0 := (blk_cell HF7.out.hz 0).trans (show _ = some (.int .i64 0) from rfl)
     have z1 := (blk_cell HF7.out.hz 1).trans (show _ = some (.slice none 0 0) from rfl)
     have z2 := (blk_cell HF7.out.hz 2).trans (show _ = some (.slice none 0 0) from rfl)
     have z3 := (blk_cell HF7.out.hz 3).trans (show _ = some (.slice none 0 0) from rfl)
     have z4 := (blk_cell HF7.out.hz 4).trans (show _ = some (.slice none 0 0) from rfl)
     have frb0 := blk_frozen HF7.out.hz 0
     have frb1 := blk_frozen HF7.out.hz 1
     have frb2 := blk_frozen HF7.out.hz 2
     have frb3 := blk_frozen HF7.out.hz 3
     have frb4 := blk_frozen HF7.out.hz 4
     go_wp2
     go_region
     all_goals (
      go_wp2
      (try simp only [Exit.inBlock, Exit.then]); refine bodyPost_ret (results_list (rs := [.tmp 2, .cell 3 26, .tmp 4]) rfl (by simp) (.tmp (.cell (w.heap.size + 1) 26 #[.int .i64 x1, .slice AX XL.length cX, .slice AG XG.length cG, .slice AB XB.length cB, .slice AD XD.length cD] (0, 0) _ rfl (blk_drew (put5_blk _ _ _ _ _ HF7.out.hz)) Try.underlying26 rfl (by kernel_rfl) (.tmp .nil)))) rfl ?_
      exact ⟨_, _, _, _, _, rfl, Kd.R_drew (put5_R _ _ _ _ _ HF7.out.hz HO7.out (by decide)), Kd.R_drew (Kd.R_mono (Kd.R_lower (put5_R _ _ _ _ _ HF7.out.hz HL7.out (by decide)) HWC.out) (fun _ h => h)), Kd.R_drew (Kd.R_lower (put5_R _ _ _ _ _ HF7.out.hz HG7.out (by decide)) HWC.out), Kd.R_drew (Kd.R_mono (Kd.R_lower (put5_R _ _ _ _ _ HF7.out.hz HB7.out (by decide)) HWC.out) (fun k hk => ⟨fun e_ => hk.1 (e_.trans HE7.out), hk.2⟩)), Kd.R_drew (Kd.R_mono (Kd.R_lower (put5_R _ _ _ _ _ HF7.out.hz HD7.out (by decide)) HWC.out) (fun k hk => ⟨fun e_ => hk.1 (e_.trans HE7.out), hk.2⟩)), below_drew (put5_below _ _ _ _ _ HF7.out.hb (Nat.le_succ _))⟩)
    ·rw [if_neg cq] at hfk
     have c1 : ((S2.length : Int) == (S.length : Int)) = false := beq_eq_false_iff_ne.mpr (by omega)
     have c2 : (S2.length == S.length) = false := beq_eq_false_iff_ne.mpr cq
     have c3 : decide (S2.length = S.length) = false := decide_eq_false cq
     have HFK3 := M_ hfk
     have HSI2 := M_ hsi
     have HSL2 := M_ hsl
     clear cq hsi hsl hfk
     go_wp2
     go_roundg k1
     case measure => have := HK.out; omega
     case rel => exact ⟨S2, HFK3, ⟨by have := HK.out; omega⟩, HSI2, ⟨Nat.le_trans HSL2.out HSL.out⟩, HF7, ⟨Kd.R_mono HO7.out (fun _ _ => trivial)⟩⟩
theorem constants_find.calls (k : Nat) (a0_0 : Int) (A0_1 : Option Addr) (c0_1 : Nat) (l0_1 : List (S45)) (A0_2 : Option Addr) (c0_2 : Nat) (l0_2 : List (S55)) (A0_3 : Option Addr) (c0_3 : Nat) (l0_3 : List Int) (A0_4 : Option Addr) (c0_4 : Nat) (l0_4 : List Int) (r1 : List Int) (r2 : Int) (r3 : List (S45)) (r4 : List (S55)) (r5 : List Int) (r6 : List Int) (r7 : Int) (w : World) (hr0_1 : Kd.C k45 w A0_1 l0_1.length l0_1) (hc0_1 : l0_1.length ≤ c0_1) (hr0_2 : Kd.C k55 w A0_2 l0_2.length l0_2) (hc0_2 : l0_2.length ≤ c0_2) (hr0_3 : Kd.C (Kd.int .i64) w A0_3 l0_3.length l0_3) (hc0_3 : l0_3.length ≤ c0_3) (hr0_4 : Kd.C (Kd.int .i64) w A0_4 l0_4.length l0_4) (hc0_4 : l0_4.length ≤ c0_4) (h : constants_find.f k a0_0 l0_1 l0_2 l0_3 l0_4 = some (r1, r2, r3, r4, r5, r6, r7)) :
  Calls Try.prog 35 #[.agg #[.int .i64 a0_0, .slice A0_1 l0_1.length c0_1, .slice A0_2 l0_2.length c0_2, .slice A0_3 l0_3.length c0_3, .slice A0_4 l0_4.length c0_4]] w fun e w' => ∃ v0_ v2_ v3_ v4_ v5_ : Value, e = .returned (.tuple #[v0_, .agg #[.int .i64 r2, v2_, v3_, v4_, v5_], .int .i64 r7]) ∧ Kd.R (Kd.int .i64) 3 w' w.heap.size (fun k_ => some k_ ≠ (v4_ : Value).ownBlock ∧ some k_ ≠ (v5_ : Value).ownBlock) v0_ r1 ∧ Kd.R k45 45 w' w.heap.size (fun _ => True) v2_ r3 ∧ Kd.R k55 55 w' w.heap.size (fun _ => True) v3_ r4 ∧ Kd.R (Kd.int .i64) 3 w' w.heap.size (fun k_ => some k_ ≠ (v0_ : Value).ownBlock ∧ some k_ ≠ (v5_ : Value).ownBlock) v4_ r5 ∧ Kd.R (Kd.int .i64) 3 w' w.heap.size (fun k_ => some k_ ≠ (v0_ : Value).ownBlock ∧ some k_ ≠ (v4_ : Value).ownBlock) v5_ r6 ∧ Below w.heap.size w w' := by
 unfold constants_find.f at h
 obtain ⟨⟨n, e0⟩, hv, h⟩ := Option.bind_eq_some_iff.mp h
 dsimp only at h
 by_cases c : e0 = 0
 ·rw [if_pos c] at h
  subst c
  by_cases c2 : okH a0_0 l0_1 l0_2 l0_3 l0_4 = true ∧ n = a0_0 + (l0_1.length : Int) + (l0_2.length : Int)
  ·rw [if_pos c2] at h
   obtain ⟨ok, rfl⟩ := c2
   obtain ⟨⟨x1, x2, x3, x4, x5, x6⟩, hx, h⟩ := Option.bind_eq_some_iff.mp h
   simp only [Option.some.injEq, Prod.mk.injEq] at h
   obtain ⟨rfl, rfl, rfl, rfl, rfl, rfl, rfl⟩ := h
   have ok2 := ok
   unfold okH at ok2
   simp only [Bool.and_eq_true, decide_eq_true_eq, List.all_eq_true] at ok2
   exact find_main k a0_0 A0_1 c0_1 l0_1 A0_2 c0_2 l0_2 A0_3 c0_3 l0_3 A0_4 c0_4 l0_4 _ _ _ _ _ _ _ w hr0_1 hc0_1 hr0_2 hc0_2 hr0_3 hc0_3 hr0_4 hc0_4 hv ok (by have := ok2.1.1; omega) hx
  ·rw [if_neg c2] at h
   exact absurd h (by simp)
 ·rw [if_neg c] at h
  simp only [Option.some.injEq, Prod.mk.injEq] at h
  obtain ⟨rfl, rfl, rfl, rfl, rfl, rfl, rfl⟩ := h
  exact find_err a0_0 A0_1 c0_1 l0_1 A0_2 c0_2 l0_2 A0_3 c0_3 l0_3 A0_4 c0_4 l0_4 n _ w hr0_1 hc0_1 hr0_2 hc0_2 hr0_3 hc0_3 hr0_4 hc0_4 hv c

/-! ### constants_Stay: function 11 -/
def constants_Stay.f (k : Nat) (a0_0 : Int) (l0_1 : List (S45)) (l0_2 : List (S55)) (l0_3 : List Int) (l0_4 : List Int) : Option (List Int × Int) := (constants_find.f k a0_0 l0_1 l0_2 l0_3 l0_4).bind fun bt104 => (some (bt104.1, bt104.2.2.2.2.2.2))
theorem constants_Stay.mono : ∀ a0 a1 a2 a3 a4 k, LeO (constants_Stay.f k a0 a1 a2 a3 a4) (constants_Stay.f (k + 1) a0 a1 a2 a3 a4) := by
 intro a0 a1 a2 a3 a4 k
 unfold constants_Stay.f
 repeat' first
   | (with_reducible exact constants_find.mono _ _ _ _ _ _)
   | (with_reducible exact LeO.refl _)
   | (with_reducible exact LeO.none _)
   | (with_reducible refine LeO.ite ?_ ?_)
   | (with_reducible refine LeO.bind ?_ (fun _ => ?_))
   | exact constants_find.mono _ _ _ _ _ _
   | exact LeO.none _
   | refine LeO.ite ?_ ?_
   | refine LeO.bind ?_ (fun _ => ?_)
set_option maxHeartbeats 8000000 in
set_option maxRecDepth 100000 in
theorem constants_Stay.calls (k : Nat) (a0_0 : Int) (A0_1 : Option Addr) (c0_1 : Nat) (l0_1 : List (S45)) (A0_2 : Option Addr) (c0_2 : Nat) (l0_2 : List (S55)) (A0_3 : Option Addr) (c0_3 : Nat) (l0_3 : List Int) (A0_4 : Option Addr) (c0_4 : Nat) (l0_4 : List Int) (r1 : List Int) (r2 : Int) (w : World) (hr0_1 : Kd.C k45 w A0_1 l0_1.length l0_1) (hc0_1 : l0_1.length ≤ c0_1) (hr0_2 : Kd.C k55 w A0_2 l0_2.length l0_2) (hc0_2 : l0_2.length ≤ c0_2) (hr0_3 : Kd.C (Kd.int .i64) w A0_3 l0_3.length l0_3) (hc0_3 : l0_3.length ≤ c0_3) (hr0_4 : Kd.C (Kd.int .i64) w A0_4 l0_4.length l0_4) (hc0_4 : l0_4.length ≤ c0_4) (h : constants_Stay.f k a0_0 l0_1 l0_2 l0_3 l0_4 = some (r1, r2)) :
  Calls Try.prog 11 #[.agg #[.int .i64 a0_0, .slice A0_1 l0_1.length c0_1, .slice A0_2 l0_2.length c0_2, .slice A0_3 l0_3.length c0_3, .slice A0_4 l0_4.length c0_4]] w fun e w' => ∃ v0_ : Value, e = .returned (.tuple #[v0_, .int .i64 r2]) ∧ Kd.R (Kd.int .i64) 3 w' w.heap.size (fun _ => True) v0_ r1 ∧ Below w.heap.size w w' := by
 have hu26 := Try.underlying26
 have HR0_1 := M_ hr0_1
 have HC0_1 := M_ hc0_1
 clear hr0_1 hc0_1
 have HR0_2 := M_ hr0_2
 have HC0_2 := M_ hc0_2
 clear hr0_2 hc0_2
 have HR0_3 := M_ hr0_3
 have HC0_3 := M_ hc0_3
 clear hr0_3 hc0_3
 have HR0_4 := M_ hr0_4
 have HC0_4 := M_ hc0_4
 clear hr0_4 hc0_4
 have HB := M_ (Below.refl w.heap.size w)
 have H : ((constants_find.f k a0_0 l0_1 l0_2 l0_3 l0_4).bind fun bt104 => (some (bt104.1, bt104.2.2.2.2.2.2))) = some (r1, r2) := h
 clear h
 replace H := Option.bind_eq_some_iff.mp H
 obtain ⟨⟨t104, t107, t108, t111, t114, t117, t120⟩, A20, H⟩ := H
 replace H : (some (t104, t120)) = some (r1, r2) := H
 have A2 := M_ A20
 clear A20
 simp only [Option.some.injEq, Prod.mk.injEq] at H
 obtain ⟨rfl, rfl⟩ := H
 go_enter Try.func11, Try.ntmps11
 go_wp2_with (first | ((with_reducible refine gate_dst (N := 1) rfl ?_); refine box_event ?hg (N := 1) ?hd (cs := #[.int .i64 a0_0, .slice A0_1 l0_1.length c0_1, .slice A0_2 l0_2.length c0_2, .slice A0_3 l0_3.length c0_3, .slice A0_4 l0_4.length c0_4]) (t := 26) ?hr ?_; (case hd => rfl); (case hg => rfl); (case hr => first | (go_simp; done) | (go_simp; rfl)); intro gb103 hg w3 hbox hb; have n0_ := M_ (below_step (by repeat (first | (with_reducible first | exact HB.out | apply b0_ | apply b1_ | apply b2_) | exact HB.out)) hb); have n1_ := M_ (hbox); have n2_ := M_ ((by rw [hg]; exact (below_size (by repeat (first | (with_reducible first | exact HB.out | apply b0_ | apply b1_ | apply b2_) | exact HB.out))) : w.heap.size ≤ gb103)); have n3_ := M_ ((by rw [hg]; exact (below_size (by repeat (first | (with_reducible first | exact HB.out | apply b0_ | apply b1_ | apply b2_) | exact HB.out))) : w.heap.size ≤ gb103)); clear HB; have HB := n0_; have BK103 := n1_; have GW103 := n2_; have GE103 := n3_; clear n0_ n1_ n2_ n3_; clear hb hbox hg; have hcz4_0 : w3.cell? ⟨gb103, 0, none⟩ = some (.int .i64 a0_0) := (blk_cell BK103.out 0).trans rfl; have hcz4_1 : w3.cell? ⟨gb103, 1, none⟩ = some (.slice A0_1 l0_1.length c0_1) := (blk_cell BK103.out 1).trans rfl; have hcz4_2 : w3.cell? ⟨gb103, 2, none⟩ = some (.slice A0_2 l0_2.length c0_2) := (blk_cell BK103.out 2).trans rfl; have hcz4_3 : w3.cell? ⟨gb103, 3, none⟩ = some (.slice A0_3 l0_3.length c0_3) := (blk_cell BK103.out 3).trans rfl; have hcz4_4 : w3.cell? ⟨gb103, 4, none⟩ = some (.slice A0_4 l0_4.length c0_4) := (blk_cell BK103.out 4).trans rfl; have hfz4_0 := blk_frozen BK103.out 0; have hfz4_1 := blk_frozen BK103.out 1; have hfz4_2 := blk_frozen BK103.out 2; have hfz4_3 := blk_frozen BK103.out 3; have hfz4_4 := blk_frozen BK103.out 4) | ((with_reducible refine gate_callee (f := 35) rfl ?_); refine goesL_ (some 9) rfl rfl Try.func35 (by kernel_rfl) rfl #[.agg #[.int .i64 a0_0, .slice A0_1 l0_1.length c0_1, .slice A0_2 l0_2.length c0_2, .slice A0_3 l0_3.length c0_3, .slice A0_4 l0_4.length c0_4]] rfl (by (try simp only [List.map_toArray, List.map_cons, List.map_nil]); first | done | rfl | (simp only [List.length_drop, List.length_take]; rfl)) ?_; (with_reducible refine (constants_find.calls k a0_0 _ _ l0_1 _ _ l0_2 _ _ l0_3 _ _ l0_4 t104 t107 t108 t111 t114 t117 t120 _ ?side1 ?side2 ?side3 ?side4 ?side5 ?side6 ?side7 ?side8 A2.out).mono ?_); (case side1 => repeat (first | exact (Kd.C_below HR0_1.out HB.out) | (with_reducible refine c0_ ?_ _) | (with_reducible refine c1_ ?_ _) | (with_reducible refine c2_ ?_))); (case side2 => exact HC0_1.out); (case side3 => repeat (first | exact (Kd.C_below HR0_2.out HB.out) | (with_reducible refine c0_ ?_ _) | (with_reducible refine c1_ ?_ _) | (with_reducible refine c2_ ?_))); (case side4 => exact HC0_2.out); (case side5 => repeat (first | exact (Kd.C_below HR0_3.out HB.out) | (with_reducible refine c0_ ?_ _) | (with_reducible refine c1_ ?_ _) | (with_reducible refine c2_ ?_))); (case side6 => exact HC0_3.out); (case side7 => repeat (first | exact (Kd.C_below HR0_4.out HB.out) | (with_reducible refine c0_ ?_ _) | (with_reducible refine c1_ ?_ _) | (with_reducible refine c2_ ?_))); (case side8 => exact HC0_4.out); rintro e w5 ⟨v105, v109, v112, v115, v118, rfl, ho0, ho1, ho2, ho3, ho4, hb⟩; refine ⟨_, rfl, ?_⟩; have n0_ := M_ (Kd.R_lower ho0 (below_size (by repeat (first | (with_reducible first | exact HB.out | apply b0_ | apply b1_ | apply b2_ | refine below_set ?_ GE103.out) | exact HB.out)))); have n1_ := M_ (Kd.R_lower ho1 (below_size (by repeat (first | (with_reducible first | exact HB.out | apply b0_ | apply b1_ | apply b2_ | refine below_set ?_ GE103.out) | exact HB.out)))); have n2_ := M_ (Kd.R_lower ho2 (below_size (by repeat (first | (with_reducible first | exact HB.out | apply b0_ | apply b1_ | apply b2_ | refine below_set ?_ GE103.out) | exact HB.out)))); have n3_ := M_ (Kd.R_lower ho3 (below_size (by repeat (first | (with_reducible first | exact HB.out | apply b0_ | apply b1_ | apply b2_ | refine below_set ?_ GE103.out) | exact HB.out)))); have n4_ := M_ (Kd.R_lower ho4 (below_size (by repeat (first | (with_reducible first | exact HB.out | apply b0_ | apply b1_ | apply b2_ | refine below_set ?_ GE103.out) | exact HB.out)))); have n5_ := M_ (blk_below (g := gb103) (o := .cells #[.int .i64 a0_0, .slice A0_1 l0_1.length c0_1, .slice A0_2 l0_2.length c0_2, .slice A0_3 l0_3.length c0_3, .slice A0_4 l0_4.length c0_4] 26 (0, 0)) (by (with_reducible repeat (first | refine blk_drewN ?_ _ | refine blk_drew ?_ | refine blk_alloc ?_ _)); exact BK103.out) hb); have n6_ := M_ (below_step (by repeat (first | (with_reducible first | exact HB.out | apply b0_ | apply b1_ | apply b2_ | refine below_set ?_ GE103.out) | exact HB.out)) hb); clear BK103; clear HB; have HO106 := n0_; have HO110 := n1_; have HO113 := n2_; have HO116 := n3_; have HO119 := n4_; have BK103 := n5_; have HB := n6_; clear n0_ n1_ n2_ n3_ n4_ n5_ n6_; (try clear hb); (try clear hb2); (try clear hk); (try clear hi); (try clear ho0); (try clear ho1); (try clear ho2); (try clear ho3); (try clear ho4)) | ((with_reducible refine gate_dst (N := 5) rfl ?_); refine box_event ?hg (N := 5) ?hd (cs := #[.int .i64 0, .slice none 0 0, .slice none 0 0, .slice none 0 0, .slice none 0 0]) (t := 26) ?hr ?_; (case hd => rfl); (case hg => rfl); (case hr => first | (go_simp; done) | (go_simp; rfl)); intro gb121 hg w6 hbox hb; have n0_ := M_ (Kd.R_below (by (with_reducible repeat (first | apply a0_ | apply a1_ | apply a2_)); exact HO106.out) hb); have n1_ := M_ (Kd.R_below (by (with_reducible repeat (first | apply a0_ | apply a1_ | apply a2_)); exact HO110.out) hb); have n2_ := M_ (Kd.R_below (by (with_reducible repeat (first | apply a0_ | apply a1_ | apply a2_)); exact HO113.out) hb); have n3_ := M_ (Kd.R_below (by (with_reducible repeat (first | apply a0_ | apply a1_ | apply a2_)); exact HO116.out) hb); have n4_ := M_ (Kd.R_below (by (with_reducible repeat (first | apply a0_ | apply a1_ | apply a2_)); exact HO119.out) hb); have n5_ := M_ (blk_below (g := gb103) (o := .cells #[.int .i64 a0_0, .slice A0_1 l0_1.length c0_1, .slice A0_2 l0_2.length c0_2, .slice A0_3 l0_3.length c0_3, .slice A0_4 l0_4.length c0_4] 26 (0, 0)) (by (with_reducible repeat (first | refine blk_drewN ?_ _ | refine blk_drew ?_ | refine blk_alloc ?_ _)); exact BK103.out) hb); have n6_ := M_ (below_step (by repeat (first | (with_reducible first | exact HB.out | apply b0_ | apply b1_ | apply b2_ | refine below_set ?_ GE103.out) | exact HB.out)) hb); have n7_ := M_ (hbox); have n8_ := M_ ((by rw [hg]; exact (below_size (by repeat (first | (with_reducible first | exact HB.out | apply b0_ | apply b1_ | apply b2_ | refine below_set ?_ GE103.out) | exact HB.out))) : w.heap.size ≤ gb121)); have n9_ := M_ ((by rw [hg]; exact (below_size (by repeat (first | (with_reducible first | exact HB.out | apply b0_ | apply b1_ | apply b2_ | refine below_set ?_ GE103.out) | exact HB.out))) : w.heap.size ≤ gb121)); have n10_ := M_ ((by rw [hg]; exact Nat.ne_of_lt (blk_lt (g := gb103) (o := .cells #[.int .i64 a0_0, .slice A0_1 l0_1.length c0_1, .slice A0_2 l0_2.length c0_2, .slice A0_3 l0_3.length c0_3, .slice A0_4 l0_4.length c0_4] 26 (0, 0)) (by (with_reducible repeat (first | refine blk_drewN ?_ _ | refine blk_drew ?_ | refine blk_alloc ?_ _)); exact BK103.out)) : gb103 ≠ gb121)); have n11_ := M_ ((by rw [hg]; exact Nat.ne_of_gt (blk_lt (g := gb103) (o := .cells #[.int .i64 a0_0, .slice A0_1 l0_1.length c0_1, .slice A0_2 l0_2.length c0_2, .slice A0_3 l0_3.length c0_3, .slice A0_4 l0_4.length c0_4] 26 (0, 0)) (by (with_reducible repeat (first | refine blk_drewN ?_ _ | refine blk_drew ?_ | refine blk_alloc ?_ _)); exact BK103.out)) : gb121 ≠ gb103)); clear HO106; clear HO110; clear HO113; clear HO116; clear HO119; clear BK103; clear HB; have HO106 := n0_; have HO110 := n1_; have HO113 := n2_; have HO116 := n3_; have HO119 := n4_; have BK103 := n5_; have HB := n6_; have BK121 := n7_; have GW121 := n8_; have GE121 := n9_; have NB103_121 := n10_; have NB121_103 := n11_; clear n0_ n1_ n2_ n3_ n4_ n5_ n6_ n7_ n8_ n9_ n10_ n11_; clear hb hbox hg; have hnb7 := NB121_103.out; have hnc7 := NB103_121.out; have hcz8_0 : w6.cell? ⟨gb121, 0, none⟩ = some (.int .i64 0) := (blk_cell BK121.out 0).trans rfl; have hcz8_1 : w6.cell? ⟨gb121, 1, none⟩ = some (.slice none 0 0) := (blk_cell BK121.out 1).trans rfl; have hcz8_2 : w6.cell? ⟨gb121, 2, none⟩ = some (.slice none 0 0) := (blk_cell BK121.out 2).trans rfl; have hcz8_3 : w6.cell? ⟨gb121, 3, none⟩ = some (.slice none 0 0) := (blk_cell BK121.out 3).trans rfl; have hcz8_4 : w6.cell? ⟨gb121, 4, none⟩ = some (.slice none 0 0) := (blk_cell BK121.out 4).trans rfl; have hfz8_0 := blk_frozen BK121.out 0; have hfz8_1 := blk_frozen BK121.out 1; have hfz8_2 := blk_frozen BK121.out 2; have hfz8_3 := blk_frozen BK121.out 3; have hfz8_4 := blk_frozen BK121.out 4; obtain ⟨Ao9, co9, eo9⟩ := Kd.R_slice HO110.out; subst eo9; obtain ⟨Ao10, co10, eo10⟩ := Kd.R_slice HO113.out; subst eo10; obtain ⟨Ao11, co11, eo11⟩ := Kd.R_slice HO116.out; subst eo11; obtain ⟨Ao12, co12, eo12⟩ := Kd.R_slice HO119.out; subst eo12))
 go_ret2
 exact ⟨_, by first | rfl | (simp [errW_none, errW_some] <;> rfl) | (simp [*, errW_none, errW_some] <;> rfl), by (with_reducible repeat (first | apply a0_ | apply a1_ | apply a2_)); exact Kd.R_mono (Kd.R_far (p := ⟨gb121, 4, none⟩) (Kd.R_far (p := ⟨gb121, 3, none⟩) (Kd.R_far (p := ⟨gb121, 2, none⟩) (Kd.R_far (p := ⟨gb121, 1, none⟩) (Kd.R_far (p := ⟨gb121, 0, none⟩) (Kd.R_types HO106.out BK121.out (by decide)) (fun _ hk => hk.2) (.int .i64 t107)) (fun _ hk => hk.2) (.slice Ao9 t108.length co9)) (fun _ hk => hk.2) (.slice Ao10 t111.length co10)) (fun _ hk => hk.2) (.slice Ao11 t114.length co11)) (fun _ hk => hk.2) (.slice Ao12 t117.length co12)) (fun _ hk => trivial), by repeat (first | (with_reducible first | exact HB.out | apply b0_ | apply b1_ | apply b2_ | refine below_set ?_ GE103.out | refine below_set ?_ GE121.out) | exact HB.out)⟩

end Go.Proofs.Ytlgoniocoifjjaa.QConstantsCones
