-- Made by wip/myprint.sh (a patched print): a text of this session's own.
import Derived.Test.YtnbccfecmpocaaaQHashValuesx0
import Derived.Test.YtnbccfecmpocaaaQHashValuesx2
namespace Go.Proofs.Ytnbccfecmpocaaa.QHashValues
open Go.RowKit Go.Proofs.YtnbccfecmpocaaaW.PrintWords Go.Proofs.YtnbccfecmpocaaaW.PrintLast Go.Proofs.YtnbccfecmpocaaaW.PrintMore
attribute [local go_sem] max2_int min2_int max_two min_two max_three min_three max_four min_four
set_option linter.unusedVariables false
set_option linter.unusedSimpArgs false

def bits_Mul32.f (a0 : Int) (a1 : Int) : Option (Int × Int) := some (((IntKind.u64.wrap ((IntKind.u64.wrap (a0)) * (IntKind.u64.wrap (a1)))) / 4294967296) % 4294967296, (IntKind.u64.wrap ((IntKind.u64.wrap (a0)) * (IntKind.u64.wrap (a1)))) % 4294967296)
set_option maxHeartbeats 8000000 in
set_option maxRecDepth 100000 in
theorem bits_Mul32.calls (a0 : Int) (a1 : Int) (r1 : Int) (r2 : Int) (w : World) (h : bits_Mul32.f a0 a1 = some (r1, r2)) :
  Calls Try.prog 74 #[.int .u32 a0, .int .u32 a1] w fun e w' => e = .returned (.tuple #[.int .u32 r1, .int .u32 r2]) ∧ Drawn0 w w' := by
 have H : (some (((IntKind.u64.wrap ((IntKind.u64.wrap (a0)) * (IntKind.u64.wrap (a1)))) / 4294967296) % 4294967296, (IntKind.u64.wrap ((IntKind.u64.wrap (a0)) * (IntKind.u64.wrap (a1)))) % 4294967296)) = some (r1, r2) := h
 clear h
 simp only [Option.some.injEq, Prod.mk.injEq] at H
 obtain ⟨rfl, rfl⟩ := H
 go_enter Try.func74, Try.ntmps74
 go_wp2
 go_ret2
 exact ⟨by first | rfl | (simp; done) | (simp [*]; done), by repeat (first | exact Drawn0.refl _ | apply Drawn0.step)⟩

def bits_Mul64.f (a0 : Int) (a1 : Int) : Option (Int × Int) := some (IntKind.u64.wrap ((IntKind.u64.wrap ((IntKind.u64.wrap ((a0 / 4294967296) * (a1 / 4294967296))) + ((IntKind.u64.wrap ((IntKind.u64.wrap ((a0 / 4294967296) * (Go.bits .and .u64 a1 4294967295))) + ((IntKind.u64.wrap ((Go.bits .and .u64 a0 4294967295) * (Go.bits .and .u64 a1 4294967295))) / 4294967296))) / 4294967296))) + ((IntKind.u64.wrap ((Go.bits .and .u64 (IntKind.u64.wrap ((IntKind.u64.wrap ((a0 / 4294967296) * (Go.bits .and .u64 a1 4294967295))) + ((IntKind.u64.wrap ((Go.bits .and .u64 a0 4294967295) * (Go.bits .and .u64 a1 4294967295))) / 4294967296))) 4294967295) + (IntKind.u64.wrap ((Go.bits .and .u64 a0 4294967295) * (a1 / 4294967296))))) / 4294967296)), IntKind.u64.wrap (a0 * a1))
set_option maxHeartbeats 8000000 in
set_option maxRecDepth 100000 in
theorem bits_Mul64.calls (a0 : Int) (a1 : Int) (r1 : Int) (r2 : Int) (w : World) (h : bits_Mul64.f a0 a1 = some (r1, r2)) :
  Calls Try.prog 75 #[.int .u64 a0, .int .u64 a1] w fun e w' => e = .returned (.tuple #[.int .u64 r1, .int .u64 r2]) ∧ Drawn0 w w' := by
 have H : (some (IntKind.u64.wrap ((IntKind.u64.wrap ((IntKind.u64.wrap ((a0 / 4294967296) * (a1 / 4294967296))) + ((IntKind.u64.wrap ((IntKind.u64.wrap ((a0 / 4294967296) * (Go.bits .and .u64 a1 4294967295))) + ((IntKind.u64.wrap ((Go.bits .and .u64 a0 4294967295) * (Go.bits .and .u64 a1 4294967295))) / 4294967296))) / 4294967296))) + ((IntKind.u64.wrap ((Go.bits .and .u64 (IntKind.u64.wrap ((IntKind.u64.wrap ((a0 / 4294967296) * (Go.bits .and .u64 a1 4294967295))) + ((IntKind.u64.wrap ((Go.bits .and .u64 a0 4294967295) * (Go.bits .and .u64 a1 4294967295))) / 4294967296))) 4294967295) + (IntKind.u64.wrap ((Go.bits .and .u64 a0 4294967295) * (a1 / 4294967296))))) / 4294967296)), IntKind.u64.wrap (a0 * a1))) = some (r1, r2) := h
 clear h
 simp only [Option.some.injEq, Prod.mk.injEq] at H
 obtain ⟨rfl, rfl⟩ := H
 go_enter Try.func75, Try.ntmps75
 go_wp2
 go_ret2
 exact ⟨by first | rfl | (simp; done) | (simp [*]; done), by repeat (first | exact Drawn0.refl _ | apply Drawn0.step)⟩

def bits_Mul.f (a0 : Int) (a1 : Int) : Option (Int × Int) := (bits_Mul64.f a0 a1).bind fun bt176 => (some (bt176.1, bt176.2))
set_option maxHeartbeats 8000000 in
set_option maxRecDepth 100000 in
theorem bits_Mul.calls (a0 : Int) (a1 : Int) (r1 : Int) (r2 : Int) (w : World) (h : bits_Mul.f a0 a1 = some (r1, r2)) :
  Calls Try.prog 64 #[.int .u64 a0, .int .u64 a1] w fun e w' => e = .returned (.tuple #[.int .u64 r1, .int .u64 r2]) ∧ Drawn0 w w' := by
 have H : ((bits_Mul64.f a0 a1).bind fun bt176 => (some (bt176.1, bt176.2))) = some (r1, r2) := h
 clear h
 replace H := Option.bind_eq_some_iff.mp H
 obtain ⟨⟨t176, t177⟩, A30, H⟩ := H
 replace H : (some (t176, t177)) = some (r1, r2) := H
 have A3 := M_ A30
 clear A30
 simp only [Option.some.injEq, Prod.mk.injEq] at H
 obtain ⟨rfl, rfl⟩ := H
 go_enter Try.func64, Try.ntmps64
 go_wp2_with (first | ((with_reducible refine gate_callee (f := 75) rfl ?_); refine goesL_ (some 25) rfl rfl Try.func75 (by kernel_rfl) rfl #[.int .u64 a0, .int .u64 a1] rfl (by (try simp only [List.map_toArray, List.map_cons, List.map_nil]); first | done | rfl) ?_; (with_reducible refine (bits_Mul64.calls a0 a1 t176 t177 _ A3.out).mono ?_); rintro e w' ⟨rfl, ⟨nd, rfl⟩⟩; refine ⟨_, rfl, ?_⟩))
 go_ret2
 exact ⟨by first | rfl | (simp; done) | (simp [*]; done), by repeat (first | exact Drawn0.refl _ | apply Drawn0.step)⟩

-- bits_Mul.f bits_Mul64.f
theorem mul1 (a : Int) (h0 : 0 ≤ a) (h1 : a ≤ 60000) : bits_Mul.f 1 a = some (0, a) := by
 have hk : ∀ n : Int, 0 ≤ n → n < 2 ^ 32 → IntKind.u64.wrap n = n := fun n h0 h1 => by rw [IntKind.wrap_u64]; omega
 have m0 : ∀ x : Int, 0 ≤ x → x < 2 ^ 32 → Go.bits .and .u64 x 4294967295 = x := fun x h0 h1 => by
  have := bits_mask .u64 32 (by decide) hk 32 (by decide) x h0 h1
  rw [show (2 : Int) ^ 32 - 1 = 4294967295 from rfl] at this
  rw [this]; omega
 have d0 : a / 4294967296 = 0 := by omega
 have d1 : (1 : Int) / 4294967296 = 0 := by decide
 unfold bits_Mul.f bits_Mul64.f
 rw [m0 1 (by decide) (by decide), m0 a h0 (by omega), d0, d1]
 simp only [Int.zero_mul, Int.mul_zero, Int.one_mul, Int.zero_add, Int.add_zero]
 rw [hk 0 (by decide) (by decide), hk a h0 (by omega), d0]
 simp only [Int.add_zero, Int.zero_add]
 rw [hk 0 (by decide) (by decide), m0 0 (by decide) (by decide)]
 simp only [Option.bind_some]
 rfl
theorem madeI (n : Nat) : madeCells #[Value.int .i64 0] n = (encs (Value.int .i64) (List.replicate n 0)).toArray := by
 apply Array.ext
 ·simp [madeCells, encs]
 ·intro i h1 h2
  simp only [madeCells, encs, Array.getElem_map, List.getElem_toArray, List.getElem_map, List.getElem_replicate]
  simp [Nat.mod_one]
theorem encsI_one (X : List Int) : ∀ v ∈ encs (Value.int .i64) X, v.oneCell' = true := by
 intro v hv
 simp only [encs, List.mem_map] at hv
 obtain ⟨x, _, rfl⟩ := hv
 rfl
theorem rep_splice (x : Int) (N k m : Nat) (h : k + m ≤ N) : splice (encs (Value.int .i64) (List.replicate k x ++ List.replicate (N - k) 0)) k (encs (Value.int .i64) (List.replicate m x)) = encs (Value.int .i64) (List.replicate (k + m) x ++ List.replicate (N - (k + m)) 0) := by
 unfold splice encs
 simp only [List.map_append, List.map_replicate, List.length_replicate]
 rw [List.take_append_of_le_length (by simp), List.take_of_length_le (by simp), List.drop_append, List.drop_of_length_le (by simp), List.drop_replicate, List.length_replicate, List.nil_append, ← List.append_assoc, List.replicate_append_replicate]
 congr 2
 omega
theorem rep_src {W : World} {g N k : Nat} {x : Int} (h : W.heap[g]? = some (.cells (encs (Value.int .i64) (List.replicate k x ++ List.replicate (N - k) 0)).toArray 3 (0, 0))) (m : Nat) (hm : m ≤ k) : ∀ j v, (encs (Value.int .i64) (List.replicate m x))[j]? = some v → W.cell? ((⟨g, 0, none⟩ : Addr).add j) = some v := by
 intro j v hv
 have hj : j < m := by
  obtain ⟨h1, _⟩ := List.getElem?_eq_some_iff.1 hv
  simpa [encs] using h1
 have e : v = .int .i64 x := by
  obtain ⟨h1, e⟩ := List.getElem?_eq_some_iff.1 hv
  rw [← e]
  simp [encs]
 have := blk_cell h j
 have e2 : (⟨g, 0, none⟩ : Addr).add j = ⟨g, j, none⟩ := by simp [Addr.add]; omega
 rw [e2, this, e]
 have h3 : j < k := by omega
 simp only [encs, List.map_append, List.map_replicate, List.getElem?_toArray]
 rw [List.getElem?_append_left (by simpa using h3), List.getElem?_replicate, if_pos h3]
theorem row_own {w : World} {g base : Nat} {cur : List Int} (h : w.heap[g]? = some (.cells (encs (Value.int .i64) cur).toArray 3 (0, 0))) (hb : base ≤ g) (hl : cur.length ≤ 2000000) : Kd.R (Kd.int .i64) 3 w base (fun _ => True) (.slice (some ⟨g, 0, none⟩) cur.length cur.length) cur := by
 refine Kd.R_of_own (h1 := fun _ => rfl) ?_ (fun _ _ => trivial)
 refine ⟨by simp [encs], Or.inr ⟨g, cur.length, _, rfl, hb, h, Nat.le_refl _, by unfold maxLen; omega, by simp [encs], ?_⟩⟩
 simp only [encs, Nat.mul_one]
 exact List.take_of_length_le (by simp)
theorem infoR : (Try.prog.info? 3).map (fun i => (i.zero, i.size, i.bytes)) = some (some (.int .i64 0), 1, 8) := by kernel_rfl
theorem cutA (g N k : Nat) (h : k < N) (W : World) : (Instr.slice 24 (.slice (some ⟨g, 0, none⟩) N N) (some (.int .i64 (k : Int))) none none).run Try.prog W = .ok (.slice (some ⟨g, k, none⟩) (N - k) (N - k)) W := by
 obtain ⟨i0, hi, hzz⟩ := Option.map_eq_some_iff.1 infoR
 simp only [Prod.mk.injEq] at hzz
 have hel : Try.prog.elem 24 = 3 := by simp [Program.elem, Try.underlying24]
 have hu : Try.prog.underlying 24 = some (.slice (Try.prog.elem 24)) := by rw [hel]; exact Try.underlying24
 rw [run_slice_l W 24 _ _ _ hu .i64 _ (by omega) (by omega), hel]
 simp [sizeOf, typeInfo, hi, hzz.2.1, sliced, Result.andThen, Addr.add]
 rw [if_neg (by omega)]
 split <;> simp_all
theorem cutB (g N k : Nat) (h0 : 0 < N) (h : k ≤ N) (W : World) : (Instr.slice 24 (.slice (some ⟨g, 0, none⟩) N N) none (some (.int .i64 (k : Int))) none).run Try.prog W = .ok (.slice (some ⟨g, 0, none⟩) k N) W := by
 obtain ⟨i0, hi, hzz⟩ := Option.map_eq_some_iff.1 infoR
 simp only [Prod.mk.injEq] at hzz
 have hel : Try.prog.elem 24 = 3 := by simp [Program.elem, Try.underlying24]
 have hu : Try.prog.underlying 24 = some (.slice (Try.prog.elem 24)) := by rw [hel]; exact Try.underlying24
 rw [run_slice_h W 24 _ _ _ hu .i64 _ (by omega) (by omega), hel]
 simp [sizeOf, typeInfo, hi, hzz.2.1, sliced, Result.andThen, Addr.add]
def slices_Repeat_int_int.f (l0 : List Int) (a1 : Int) : Option (List Int) := if l0.length = 1 ∧ 1 ≤ a1 ∧ a1 ≤ 60000 then some (List.replicate a1.toNat (rd l0 0)) else none
set_option maxHeartbeats 8000000 in
set_option maxRecDepth 100000 in
theorem slices_Repeat_int_int.calls (A0 : Option Addr) (c0 : Nat) (l0 : List Int) (a1 : Int) (r : List Int) (w : World) (hr0 : Kd.C (Kd.int .i64) w A0 l0.length l0) (hc0 : l0.length ≤ c0) (h : slices_Repeat_int_int.f l0 a1 = some r) :
  Calls Try.prog 40 #[.slice A0 l0.length c0, .int .i64 a1] w fun e w' => ∃ v0_ : Value, e = .returned (v0_) ∧ Kd.R (Kd.int .i64) 3 w' w.heap.size (fun _ => True) v0_ r ∧ Below w.heap.size w w' := by
 have hu24 := Try.underlying24
 have hsI : (Try.prog.info? 3).map (·.size) = some 1 := by kernel_rfl
 unfold slices_Repeat_int_int.f at h
 split at h
 case isFalse => simp at h
 case isTrue hb =>
 obtain ⟨h1, h2, h3⟩ := hb
 obtain rfl := Option.some.inj h
 obtain ⟨N, rfl⟩ : ∃ N : Nat, a1 = (N : Int) := ⟨a1.toNat, by omega⟩
 obtain ⟨ad, rfl, hx⟩ := Kd.at_int hr0 0 (by omega) (by omega)
 obtain ⟨x, hx'⟩ : ∃ x, x = rd l0 0 := ⟨_, rfl⟩
 rw [← hx'] at hx ⊢
 rw [h1]
 have HX := M_ hx
 have HN := M_ (show 1 ≤ N ∧ N ≤ 60000 by omega)
 have HM := M_ (mul1 (N : Int) (by omega) (by omega))
 have q1 : IntKind.u64.wrap (N : Int) = (N : Int) := by rw [IntKind.wrap_u64]; omega
 have q2 : wrap64 (N : Int) = (N : Int) := by unfold wrap64; omega
 have b0 : decide ((N : Int) < 0) = false := decide_eq_false (by omega)
 have b1 : decide (9223372036854775807 < (N : Int)) = false := decide_eq_false (by omega)
 have hmk := run_make_row' (P := Try.prog) 24 3 (.int .i64 0) 8 hu24 infoR rfl .i64 .i64 N (by omega) (by omega)
 clear hr0 h1 h2 h3 hx hx' h
 go_enter Try.func40, Try.ntmps40
 have HA := M_ (show Aside0 True from ⟨trivial⟩)
 have e0 : ∀ n : Nat, (encs (Value.int .i64) (List.replicate n (0 : Int))).length = n := by simp [encs]
 have HE := M_ e0
 clear e0
 go_wp2_with (first
  | (go_at_call 64; (with_reducible refine (bits_Mul.calls 1 (N : Int) 0 (N : Int) _ HM.out).mono ?_); rintro e w1 ⟨rfl, hd⟩; have HB := M_ hd.below; clear hd)
  | ((with_reducible refine gate_builtin (b := .copy) (xs := #[.tmp 31, .tmp 32]) rfl ?_); (refine wpList_copy_splice rfl (.tmp 31) (.tmp 32) 24 24 rfl 3 hu24 hsI _ _ _ _ _ _ rfl rfl w1.heap.size 0 (encs (Value.int .i64) (List.replicate 0 x ++ List.replicate (N - 0) 0)) 3 ?g1 (encs (Value.int .i64) (List.replicate 1 x)) ?g2 ?g3 ?g4 (encsI_one _) w1.heap.size w1 ?g5 (Nat.le_refl _) ?_; (case g1 => rw [List.replicate_zero, List.nil_append, Nat.sub_zero, ← madeI]; exact blk_new _ _); (case g2 => have := HN.out; have hm1 : Nat.min 1 N = 1 := Nat.min_eq_left this.1; simp [encs, hm1]); (case g3 => intro _; refine ⟨rfl, ad, rfl, fun j v hv => ?_⟩; have hj : j = 0 := (by obtain ⟨h1, _⟩ := List.getElem?_eq_some_iff.1 hv; simpa [encs] using h1); subst hj; have hv2 : v = .int .i64 x := (by simpa [encs] using hv.symm); rw [hv2]; exact pw_cell_below (below_alloc HB.out _) HX.out); (case g4 => have := HN.out; simp [encs]; omega); (case g5 => exact below_alloc (Below.refl _ _) _); intro w2 hG2 hB2; have HB2 := M_ (below_step HB.out hB2); have HG2 := M_ ((congrArg (fun l_ => w2.heap[w1.heap.size]? = some (.cells (List.toArray l_) 3 (0, 0))) (rep_splice x N 0 1 (by have := HN.out; omega))).mp hG2.out); have HGE := M_ (HB.out.size); clear hB2 hG2)))
 go_loopg [8] N (fun kq v8 w' => ∃ (k : Nat), v8 = .int .i64 (k : Int) ∧ Aside0 (1 ≤ k ∧ k ≤ N ∧ N ≤ kq + k) ∧ Aside0 (w'.heap[w1.heap.size]? = some (.cells (encs (Value.int .i64) (List.replicate k x ++ List.replicate (N - k) 0)).toArray 3 (0, 0))) ∧ Aside0 (Below w.heap.size w w'))
 case atStart => exact ⟨1, rfl, ⟨by have := HN.out; omega⟩, HG2, HB2⟩
 case round =>
  clear HG2 HB2
  obtain ⟨k, rfl, HI, HG, HBK⟩ := hrel
  by_cases c : k < N
  ·have cb : decide (k < N) = true := decide_eq_true c
   have hA := cutA w1.heap.size N k c
   have hB := cutB w1.heap.size N k (by omega) (by omega)
   obtain ⟨m, hm⟩ : ∃ m, m = (if k ≤ N - k then k else N - k) := ⟨_, rfl⟩
   have HMI := M_ (show Nat.min k (N - k) = m ∧ 1 ≤ m ∧ m ≤ k ∧ k + m ≤ N by
    have h1 := HI.out
    refine ⟨hm ▸ Nat.min_def, ?_, ?_, ?_⟩ <;> (rw [hm]; split <;> omega))
   have HL := M_ (show (encs (Value.int .i64) (List.replicate m x)).length = m ∧ (encs (Value.int .i64) (List.replicate k x ++ List.replicate (N - k) (0 : Int))).length = N by
    have := HI.out
    simp [encs]; omega)
   clear hm c
   go_upto_region 9 with fail
   have HGd := M_ (blk_drew HG.out)
   go_region_law (go_loud (refine step_copy_splice rfl (.tmp 41) (.tmp 44) 24 24 rfl 3 hu24 hsI (some ⟨w1.heap.size, k, none⟩) (some ⟨w1.heap.size, 0, none⟩) (N - k) (N - k) k N ?d1 ?d2 w1.heap.size k (encs (Value.int .i64) (List.replicate k x ++ List.replicate (N - k) 0)) 3 HGd.out (encs (Value.int .i64) (List.replicate m x)) ?g2 ?g3 ?g4 ?g7 w.heap.size w ?g5 ?g6 ?_; (case d1 => first | (go_simp; done) | (go_simp; rfl)); (case d2 => first | (go_simp; done) | (go_simp; rfl)); (case g2 => rw [HL.out.1, HMI.out.1]); (case g3 => intro _; exact ⟨rfl, ⟨w1.heap.size, 0, none⟩, rfl, rep_src HGd.out m HMI.out.2.2.1⟩); (case g4 => rw [HL.out.1, HL.out.2]; exact HMI.out.2.2.2); (case g5 => exact below_step HBK.out (below_drew (Below.refl _ _))); (case g6 => exact HGE.out); (case g7 => exact encsI_one _); intro w3 hg3 hb3; have HB3 := M_ hb3; have HG3 := M_ ((congrArg (fun l_ => w3.heap[w1.heap.size]? = some (.cells (List.toArray l_) 3 (0, 0))) (rep_splice x N k m HMI.out.2.2.2)).mp hg3.out); clear hg3 hb3))
   go_wp2
   go_roundg (gk - 1)
   case rel => exact ⟨k + m, congrArg (Value.int .i64) (show IntKind.i64.wrap ((k : Int) + ((encs (Value.int .i64) (List.replicate m x)).length : Int)) = ((k + m : Nat) : Int) by have h1 := HL.out.1; have h2 := HMI.out; have h3 := HN.out; rw [h1, IntKind.wrap_i64]; omega), ⟨by have h2 := HMI.out; have h1 := HI.out; omega⟩, HG3, ⟨HB3.out⟩⟩
   case measure => have h2 := HMI.out; have h1 := HI.out; omega
  ·have cb : decide (k < N) = false := decide_eq_false c
   have hk : k = N := by have := HI.out; omega
   have HRR := M_ (show Kd.R (Kd.int .i64) 3 wr w.heap.size (fun _ => True) (.slice (some ⟨w1.heap.size, 0, none⟩) N N) (List.replicate N x) by
    have h1 := HG.out
    rw [hk, Nat.sub_self, List.replicate_zero, List.append_nil] at h1
    have h2 := row_own h1 HGE.out (by have := HN.out; rw [List.length_replicate]; omega)
    rw [List.length_replicate] at h2
    exact h2)
   clear hk
   go_wp2
   go_ret
   exact ⟨_, rfl, HRR.out, HBK.out⟩

mutual
def lift_Identity.l0 : Nat → Int → Int → List (S86) → List (S67) → List Int → List Int → Int → Int → List (List Int) → Int → Option (Int × Int × List Int × (List (List Int)) × List Int × (List (S67)) × Int × Int)
 | 0, _, _, _, _, _, _, _, _, _, _ => none
 | k + 1, x6, x179000, x179001, x179002, x179003, x179004, x185000, x185001, x185003, x185006 => if x6 ≤ x179000 then (if 0 < (x185003.length : Int) then (if (rd_L4 x185003 0).length < 17592186044416 then (lift_Identity.l0 k (wrap64 (x6 + 1)) x179000 x179001 x179002 x179003 x179004 x185000 x185001 (x185003.set (0 : Int).toNat ((rd_L4 x185003 0) ++ [wrap64 (2 * x6)])) x185006) else (none)) else (none)) else (lift_Identity.l1 k (x179001.length : Int) 0 x179000 x179001 x179002 x179003 x179004 x185000 x185001 ([] : List Int) x185003 x185006)
def lift_Identity.l1 : Nat → Int → Int → Int → List (S86) → List (S67) → List Int → List Int → Int → Int → List Int → List (List Int) → Int → Option (Int × Int × List Int × (List (List Int)) × List Int × (List (S67)) × Int × Int)
 | 0, _, _, _, _, _, _, _, _, _, _, _, _ => none
 | k + 1, x36, x37, x179000, x179001, x179002, x179003, x179004, x185000, x185001, x185002, x185003, x185006 => if x37 < x36 then (if x185002.length < 17592186044416 then (lift_Identity.l1 k x36 (wrap64 (x37 + 1)) x179000 x179001 x179002 x179003 x179004 x185000 x185001 (x185002 ++ [wrap64 (2 * (wrap64 ((wrap64 (x179000 + 1)) + x37)))]) x185003 x185006) else (none)) else ((slices_Clone_int_int.f x185002).bind fun t193 => (some (x185000, x185001, x185002, x185003, t193, ([] : List (S67)), x185006, 0)))
end
def lift_Identity.f (k : Nat) (a0_0 : Int) (l0_1 : List (S86)) (l0_2 : List (S67)) (l0_3 : List Int) (l0_4 : List Int) : Option (Int × Int × List Int × (List (List Int)) × List Int × (List (S67)) × Int × Int) := (gates_Check.f a0_0 l0_1 l0_2 l0_3 l0_4).bind fun t180 => (if t180 = 0 then (if 1 ≤ 11728124029610 then (lift_Identity.l0 k 1 a0_0 l0_1 l0_2 l0_3 l0_4 0 1 (List.replicate 1 []) 1) else (none)) else (some (0, 0, ([] : List Int), ([] : List (List Int)), ([] : List Int), ([] : List (S67)), 0, t180)))
theorem lift_Identity.mono_l : ∀ k, (∀ y0 y1 y2 y3 y4 y5 y6 y7 y8 y9, LeO (lift_Identity.l0 k y0 y1 y2 y3 y4 y5 y6 y7 y8 y9) (lift_Identity.l0 (k + 1) y0 y1 y2 y3 y4 y5 y6 y7 y8 y9)) ∧ (∀ y0 y1 y2 y3 y4 y5 y6 y7 y8 y9 y10 y11, LeO (lift_Identity.l1 k y0 y1 y2 y3 y4 y5 y6 y7 y8 y9 y10 y11) (lift_Identity.l1 (k + 1) y0 y1 y2 y3 y4 y5 y6 y7 y8 y9 y10 y11))
 | 0 => ⟨fun _ _ _ _ _ _ _ _ _ _ r h => by simp [lift_Identity.l0] at h, fun _ _ _ _ _ _ _ _ _ _ _ _ r h => by simp [lift_Identity.l1] at h⟩
 | k + 1 => by
  obtain ⟨ih0, ih1⟩ := lift_Identity.mono_l k
  refine ⟨?_, ?_⟩
  ·intro y0 y1 y2 y3 y4 y5 y6 y7 y8 y9
   unfold lift_Identity.l0
   repeat' first
   | (with_reducible exact ih0 _ _ _ _ _ _ _ _ _ _)
   | (with_reducible exact ih1 _ _ _ _ _ _ _ _ _ _ _ _)
   | (with_reducible exact LeO.refl _)
   | (with_reducible exact LeO.none _)
   | (with_reducible refine LeO.ite ?_ ?_)
   | (with_reducible refine LeO.bind ?_ (fun _ => ?_))
   | exact ih0 _ _ _ _ _ _ _ _ _ _
   | exact ih1 _ _ _ _ _ _ _ _ _ _ _ _
   | exact LeO.none _
   | refine LeO.ite ?_ ?_
   | refine LeO.bind ?_ (fun _ => ?_)
  ·intro y0 y1 y2 y3 y4 y5 y6 y7 y8 y9 y10 y11
   unfold lift_Identity.l1
   repeat' first
   | (with_reducible exact ih0 _ _ _ _ _ _ _ _ _ _)
   | (with_reducible exact ih1 _ _ _ _ _ _ _ _ _ _ _ _)
   | (with_reducible exact LeO.refl _)
   | (with_reducible exact LeO.none _)
   | (with_reducible refine LeO.ite ?_ ?_)
   | (with_reducible refine LeO.bind ?_ (fun _ => ?_))
   | exact ih0 _ _ _ _ _ _ _ _ _ _
   | exact ih1 _ _ _ _ _ _ _ _ _ _ _ _
   | exact LeO.none _
   | refine LeO.ite ?_ ?_
   | refine LeO.bind ?_ (fun _ => ?_)
theorem lift_Identity.mono : ∀ a0 a1 a2 a3 a4 k, LeO (lift_Identity.f k a0 a1 a2 a3 a4) (lift_Identity.f (k + 1) a0 a1 a2 a3 a4) := by
 intro a0 a1 a2 a3 a4 k
 obtain ⟨ih0, ih1⟩ := lift_Identity.mono_l k
 unfold lift_Identity.f
 repeat' first
   | (with_reducible exact ih0 _ _ _ _ _ _ _ _ _ _)
   | (with_reducible exact ih1 _ _ _ _ _ _ _ _ _ _ _ _)
   | (with_reducible exact LeO.refl _)
   | (with_reducible exact LeO.none _)
   | (with_reducible refine LeO.ite ?_ ?_)
   | (with_reducible refine LeO.bind ?_ (fun _ => ?_))
   | exact ih0 _ _ _ _ _ _ _ _ _ _
   | exact ih1 _ _ _ _ _ _ _ _ _ _ _ _
   | exact LeO.none _
   | refine LeO.ite ?_ ?_
   | refine LeO.bind ?_ (fun _ => ?_)
def lift_Identity.T8 : Bool × List (List Nat × List Nat) := (true, [([], []), ([0], [0]), ([], []), ([2], [2]), ([3], [3]), ([4], [4]), ([], []), ([6], [6]), ([7], [7]), ([5, 8], [5, 8]), ([1, 0, 1, 2, 3, 4, 5, 6, 7, 8, 9], [1]), ([10, 9, 9, 0, 1, 2, 3, 4, 5, 6, 7, 8, 9], [9, 10])])
def lift_Identity.B8 : List Nat := [0, 1, 0, 4, 12, 28, 0, 64, 192, 508, 1023, 2047]
theorem lift_Identity.tab8 : rtab .any (opsOf Try.f41 8) = lift_Identity.T8 := by kernel_rfl
theorem lift_Identity.bits8 : waitsOk lift_Identity.T8.2 lift_Identity.B8 = true := by kernel_rfl
set_option maxHeartbeats 8000000 in
set_option maxRecDepth 100000 in
theorem lift_Identity.calls (k : Nat) (a0_0 : Int) (A0_1 : Option Addr) (c0_1 : Nat) (l0_1 : List (S86)) (A0_2 : Option Addr) (c0_2 : Nat) (l0_2 : List (S67)) (A0_3 : Option Addr) (c0_3 : Nat) (l0_3 : List Int) (A0_4 : Option Addr) (c0_4 : Nat) (l0_4 : List Int) (r1 : Int) (r2 : Int) (r3 : List Int) (r4 : List (List Int)) (r5 : List Int) (r6 : List (S67)) (r7 : Int) (r8 : Int) (w : World) (hr0_1 : Kd.C k86 w A0_1 l0_1.length l0_1) (hc0_1 : l0_1.length ≤ c0_1) (hr0_2 : Kd.C k67 w A0_2 l0_2.length l0_2) (hc0_2 : l0_2.length ≤ c0_2) (hr0_3 : Kd.C (Kd.int .i64) w A0_3 l0_3.length l0_3) (hc0_3 : l0_3.length ≤ c0_3) (hr0_4 : Kd.C (Kd.int .i64) w A0_4 l0_4.length l0_4) (hc0_4 : l0_4.length ≤ c0_4) (h : lift_Identity.f k a0_0 l0_1 l0_2 l0_3 l0_4 = some (r1, r2, r3, r4, r5, r6, r7, r8)) :
  Calls Try.prog 41 #[.agg #[.int .i64 a0_0, .slice A0_1 l0_1.length c0_1, .slice A0_2 l0_2.length c0_2, .slice A0_3 l0_3.length c0_3, .slice A0_4 l0_4.length c0_4]] w fun e w' => ∃ v2_ v3_ v4_ v5_ : Value, e = .returned (.tuple #[.agg #[.int .i64 r1, .int .i64 r2, v2_, v3_, v4_, v5_, .int .i64 r7], .int .i64 r8]) ∧ Kd.R (Kd.int .i64) 3 w' w.heap.size (fun k_ => some k_ ≠ (v4_ : Value).ownBlock) v2_ r3 ∧ Kd.S (Kd.slice 3 (Kd.int .i64)) 24 w' w.heap.size (fun k_ => some k_ ≠ (v2_ : Value).ownBlock ∧ some k_ ≠ (v4_ : Value).ownBlock) v3_ r4 ∧ Kd.R (Kd.int .i64) 3 w' w.heap.size (fun k_ => some k_ ≠ (v2_ : Value).ownBlock) v4_ r5 ∧ Kd.R k67 67 w' w.heap.size (fun _ => True) v5_ r6 ∧ Below w.heap.size w w' := by
 have hu26 := Try.underlying26
 have hu53 := Try.underlying53
 have hu51 := Try.underlying51
 have HR0_1 := M_ hr0_1
 have HC0_1 := M_ hc0_1
 clear hr0_1 hc0_1
 have HR0_2 := M_ hr0_2
 have HC0_2 := M_ hc0_2
 clear hr0_2 hc0_2
 have HR0_3 := M_ hr0_3
 have HC0_3 := M_ hc0_3
 clear hr0_3 hc0_3
 have HR0_4 := M_ hr0_4
 have HC0_4 := M_ hc0_4
 clear hr0_4 hc0_4
 have HB := M_ (Below.refl w.heap.size w)
 have H : ((gates_Check.f a0_0 l0_1 l0_2 l0_3 l0_4).bind fun t180 => (if t180 = 0 then (if 1 ≤ 11728124029610 then (lift_Identity.l0 k 1 a0_0 l0_1 l0_2 l0_3 l0_4 0 1 (List.replicate 1 []) 1) else (none)) else (some (0, 0, ([] : List Int), ([] : List (List Int)), ([] : List Int), ([] : List (S67)), 0, t180)))) = some (r1, r2, r3, r4, r5, r6, r7, r8) := h
 clear h
 replace H := Option.bind_eq_some_iff.mp H
 obtain ⟨t180, A20, H⟩ := H
 replace H : (if t180 = 0 then (if 1 ≤ 11728124029610 then (lift_Identity.l0 k 1 a0_0 l0_1 l0_2 l0_3 l0_4 0 1 (List.replicate 1 []) 1) else (none)) else (some (0, 0, ([] : List Int), ([] : List (List Int)), ([] : List Int), ([] : List (S67)), 0, t180))) = some (r1, r2, r3, r4, r5, r6, r7, r8) := H
 have A2 := M_ A20
 clear A20
 by_cases c3 : t180 = 0
 ·rw [if_pos c3] at H
  have c3b0 : (t180 == 0) = true := beq_iff_eq.mpr c3
  have c3b1 : (t180 != 0) = false := bne_eq_false_iff_eq.mpr c3
  clear c3
  by_cases c4 : 1 ≤ 11728124029610
  ·rw [if_pos c4] at H
   have c4b0 := eq_true c4
   have c4b1 : decide (1 ≤ 11728124029610) = true := decide_eq_true c4
   clear c4
   obtain ⟨y181, hy181⟩ : ∃ y_ : List (List Int), y_ = (List.replicate 1 []) := ⟨_, rfl⟩
   replace H : (lift_Identity.l0 k 1 a0_0 l0_1 l0_2 l0_3 l0_4 0 1 y181 1) = some (r1, r2, r3, r4, r5, r6, r7, r8) := by first | (rw [hy181]; with_reducible exact H) | (have H2_ := (Option.bind_some _ _).symm.trans H; rw [hy181]; with_reducible exact H2_) | (have H2_ := (Option.bind_some _ _).symm.trans H; with_reducible exact H2_) | with_reducible exact H | (rw [hy181]; exact H) | exact H
   have Ny181 := M_ hy181
   clear hy181
   have H' := M_ H
   clear H
   go_enter Try.func41, Try.ntmps41
   go_wp2_with (first | ((with_reducible refine gate_dst (N := 1) rfl ?_); refine box_event ?hg (N := 1) ?hd (cs := #[.int .i64 a0_0, .slice A0_1 l0_1.length c0_1, .slice A0_2 l0_2.length c0_2, .slice A0_3 l0_3.length c0_3, .slice A0_4 l0_4.length c0_4]) (t := 26) ?hr ?_; (case hd => rfl); (case hg => rfl); (case hr => first | (go_simp; done) | (go_simp; rfl)); intro gb178 hg w5 hbox hb; have n0_ := M_ (below_step (by repeat (first | (with_reducible first | exact HB.out | apply b0_ | apply b1_ | apply b2_) | exact HB.out)) hb); have n1_ := M_ (hbox); have n2_ := M_ ((by rw [hg]; exact (below_size (by repeat (first | (with_reducible first | exact HB.out | apply b0_ | apply b1_ | apply b2_) | exact HB.out))) : w.heap.size ≤ gb178)); have n3_ := M_ ((by rw [hg]; exact (below_size (by repeat (first | (with_reducible first | exact HB.out | apply b0_ | apply b1_ | apply b2_) | exact HB.out))) : w.heap.size ≤ gb178)); clear HB; have HB := n0_; have BK178 := n1_; have GW178 := n2_; have GE178 := n3_; clear n0_ n1_ n2_ n3_; clear hb hbox hg) | ((with_reducible refine gate_dst (N := 2) rfl ?_); refine box_event ?hg (N := 2) ?hd (cs := #[.int .i64 0, .int .i64 0, .slice none 0 0, .slice none 0 0, .slice none 0 0, .slice none 0 0, .int .i64 0]) (t := 53) ?hr ?_; (case hd => rfl); (case hg => rfl); (case hr => first | (go_simp; done) | (go_simp; rfl)); intro gb179 hg w6 hbox hb; have n0_ := M_ (blk_below (g := gb178) (o := .cells #[.int .i64 a0_0, .slice A0_1 l0_1.length c0_1, .slice A0_2 l0_2.length c0_2, .slice A0_3 l0_3.length c0_3, .slice A0_4 l0_4.length c0_4] 26 (0, 0)) (by (with_reducible repeat (first | refine k0_ ?_ _ | refine k1_ ?_ | refine k2_ ?_ _)); exact BK178.out) hb); have n1_ := M_ (below_step (by repeat (first | (with_reducible first | exact HB.out | apply b0_ | apply b1_ | apply b2_ | refine below_set ?_ GE178.out) | exact HB.out)) hb); have n2_ := M_ (hbox); have n3_ := M_ ((by rw [hg]; exact (below_size (by repeat (first | (with_reducible first | exact HB.out | apply b0_ | apply b1_ | apply b2_ | refine below_set ?_ GE178.out) | exact HB.out))) : w.heap.size ≤ gb179)); have n4_ := M_ ((by rw [hg]; exact (below_size (by repeat (first | (with_reducible first | exact HB.out | apply b0_ | apply b1_ | apply b2_ | refine below_set ?_ GE178.out) | exact HB.out))) : w.heap.size ≤ gb179)); have n5_ := M_ ((by rw [hg]; exact Nat.ne_of_lt (blk_lt (g := gb178) (o := .cells #[.int .i64 a0_0, .slice A0_1 l0_1.length c0_1, .slice A0_2 l0_2.length c0_2, .slice A0_3 l0_3.length c0_3, .slice A0_4 l0_4.length c0_4] 26 (0, 0)) (by (with_reducible repeat (first | refine k0_ ?_ _ | refine k1_ ?_ | refine k2_ ?_ _)); exact BK178.out)) : gb178 ≠ gb179)); have n6_ := M_ ((by rw [hg]; exact Nat.ne_of_gt (blk_lt (g := gb178) (o := .cells #[.int .i64 a0_0, .slice A0_1 l0_1.length c0_1, .slice A0_2 l0_2.length c0_2, .slice A0_3 l0_3.length c0_3, .slice A0_4 l0_4.length c0_4] 26 (0, 0)) (by (with_reducible repeat (first | refine k0_ ?_ _ | refine k1_ ?_ | refine k2_ ?_ _)); exact BK178.out)) : gb179 ≠ gb178)); clear BK178; clear HB; have BK178 := n0_; have HB := n1_; have BK179 := n2_; have GW179 := n3_; have GE179 := n4_; have NB178_179 := n5_; have NB179_178 := n6_; clear n0_ n1_ n2_ n3_ n4_ n5_ n6_; clear hb hbox hg; have hnb7 := NB178_179.out; have hnc7 := NB179_178.out; have hcz8_0 : w6.cell? ⟨gb178, 0, none⟩ = some (.int .i64 a0_0) := (blk_cell BK178.out 0).trans rfl; have hcz8_1 : w6.cell? ⟨gb178, 1, none⟩ = some (.slice A0_1 l0_1.length c0_1) := (blk_cell BK178.out 1).trans rfl; have hcz8_2 : w6.cell? ⟨gb178, 2, none⟩ = some (.slice A0_2 l0_2.length c0_2) := (blk_cell BK178.out 2).trans rfl; have hcz8_3 : w6.cell? ⟨gb178, 3, none⟩ = some (.slice A0_3 l0_3.length c0_3) := (blk_cell BK178.out 3).trans rfl; have hcz8_4 : w6.cell? ⟨gb178, 4, none⟩ = some (.slice A0_4 l0_4.length c0_4) := (blk_cell BK178.out 4).trans rfl; have hfz8_0 := blk_frozen BK178.out 0; have hfz8_1 := blk_frozen BK178.out 1; have hfz8_2 := blk_frozen BK178.out 2; have hfz8_3 := blk_frozen BK178.out 3; have hfz8_4 := blk_frozen BK178.out 4) | ((with_reducible refine gate_callee (f := 24) rfl ?_); refine goesL_ (some 9) rfl rfl Try.func24 (by kernel_rfl) rfl #[.agg #[.int .i64 a0_0, .slice A0_1 l0_1.length c0_1, .slice A0_2 l0_2.length c0_2, .slice A0_3 l0_3.length c0_3, .slice A0_4 l0_4.length c0_4]] rfl (by (try simp only [List.map_toArray, List.map_cons, List.map_nil]); first | done | rfl) ?_; (with_reducible refine (gates_Check.calls a0_0 _ _ l0_1 _ _ l0_2 _ _ l0_3 _ _ l0_4 t180 _ ?side1 ?side2 ?side3 ?side4 ?side5 ?side6 ?side7 ?side8 A2.out).mono ?_); (case side1 => repeat (first | exact (Kd.C_below HR0_1.out HB.out) | (with_reducible refine c0_ ?_ _) | (with_reducible refine c1_ ?_ _) | (with_reducible refine c2_ ?_))); (case side2 => exact HC0_1.out); (case side3 => repeat (first | exact (Kd.C_below HR0_2.out HB.out) | (with_reducible refine c0_ ?_ _) | (with_reducible refine c1_ ?_ _) | (with_reducible refine c2_ ?_))); (case side4 => exact HC0_2.out); (case side5 => repeat (first | exact (Kd.C_below HR0_3.out HB.out) | (with_reducible refine c0_ ?_ _) | (with_reducible refine c1_ ?_ _) | (with_reducible refine c2_ ?_))); (case side6 => exact HC0_3.out); (case side7 => repeat (first | exact (Kd.C_below HR0_4.out HB.out) | (with_reducible refine c0_ ?_ _) | (with_reducible refine c1_ ?_ _) | (with_reducible refine c2_ ?_))); (case side8 => exact HC0_4.out); rintro e w9 ⟨rfl, hb⟩; refine ⟨_, rfl, ?_⟩; have n0_ := M_ (blk_below (g := gb178) (o := .cells #[.int .i64 a0_0, .slice A0_1 l0_1.length c0_1, .slice A0_2 l0_2.length c0_2, .slice A0_3 l0_3.length c0_3, .slice A0_4 l0_4.length c0_4] 26 (0, 0)) (by (with_reducible repeat (first | refine k0_ ?_ _ | refine k1_ ?_ | refine k2_ ?_ _)); exact BK178.out) hb); have n1_ := M_ (blk_below (g := gb179) (o := .cells #[.int .i64 0, .int .i64 0, .slice none 0 0, .slice none 0 0, .slice none 0 0, .slice none 0 0, .int .i64 0] 53 (0, 0)) (by (with_reducible repeat (first | refine k0_ ?_ _ | refine k1_ ?_ | refine k2_ ?_ _)); exact BK179.out) hb); have n2_ := M_ (below_step (by repeat (first | (with_reducible first | exact HB.out | apply b0_ | apply b1_ | apply b2_ | refine below_set ?_ GE178.out | refine below_set ?_ GE179.out) | exact HB.out)) hb); clear BK178; clear BK179; clear HB; have BK178 := n0_; have BK179 := n1_; have HB := n2_; clear n0_ n1_ n2_; (try clear hb); (try clear hb2); (try clear hk); (try clear hi)) | ((with_reducible refine gate_dst (N := 14) rfl ?_); refine Kd.S_make (Kd.slice 3 (Kd.int .i64)) _ 24 rfl (N := 14) rfl 49 _ _ rfl 1 rfl rfl Try.underlying49 (.slice none 0 0) 24 info24 rfl (by decide) (by omega) [] (ok := fun _ => True) (okp := fun _ => True) ⟨_, rfl, Kd.R_nil _ _ _ _ _⟩ (fun _ hk => hk) trivial (by omega) (by omega) (Below.refl _ _) (Nat.le_refl _) ?_; intro v182 w10 ho11 hb hg_ hnew_; clear hg_ hnew_; (first | rw [← Ny181.out] at ho11 | (simp only [Int.reduceToNat] at ho11; rw [← Ny181.out] at ho11)); have n0_ := M_ (Kd.S_lower ho11 (below_size (by repeat (first | (with_reducible first | exact HB.out | apply b0_ | apply b1_ | apply b2_ | refine below_set ?_ GE178.out | refine below_set ?_ GE179.out) | exact HB.out)))); have n1_ := M_ (blk_below (g := gb178) (o := .cells #[.int .i64 a0_0, .slice A0_1 l0_1.length c0_1, .slice A0_2 l0_2.length c0_2, .slice A0_3 l0_3.length c0_3, .slice A0_4 l0_4.length c0_4] 26 (0, 0)) (by (with_reducible repeat (first | refine k0_ ?_ _ | refine k1_ ?_ | refine k2_ ?_ _)); exact BK178.out) hb); have n2_ := M_ (blk_below (g := gb179) (o := .cells #[.int .i64 0, .int .i64 0, .slice none 0 0, .slice none 0 0, .slice none 0 0, .slice none 0 0, .int .i64 0] 53 (0, 0)) (by (with_reducible repeat (first | refine k0_ ?_ _ | refine k1_ ?_ | refine k2_ ?_ _)); exact BK179.out) hb); have n3_ := M_ (below_step (by repeat (first | (with_reducible first | exact HB.out | apply b0_ | apply b1_ | apply b2_ | refine below_set ?_ GE178.out | refine below_set ?_ GE179.out) | exact HB.out)) hb); clear BK178; clear BK179; clear HB; have HO183 := n0_; have BK178 := n1_; have BK179 := n2_; have HB := n3_; clear n0_ n1_ n2_ n3_; clear hb ho11; obtain ⟨Ao12, co12, eo12⟩ := Kd.S_slice HO183.out; subst eo12) | ((with_reducible refine gate_dst (N := 5) rfl ?_); refine box_event ?hg (N := 5) ?hd (cs := #[.int .i64 0, .int .i64 0, .slice none 0 0, .slice none 0 0, .slice none 0 0, .slice none 0 0, .int .i64 0]) (t := 53) ?hr ?_; (case hd => rfl); (case hg => rfl); (case hr => first | (go_simp; done) | (go_simp; rfl)); intro gb184 hg w13 hbox hb; have n0_ := M_ (Kd.S_below (by (with_reducible repeat (first | apply Kd.S_alloc | apply Kd.S_drewN | apply Kd.S_drew)); exact HO183.out) hb); have n1_ := M_ (blk_below (g := gb178) (o := .cells #[.int .i64 a0_0, .slice A0_1 l0_1.length c0_1, .slice A0_2 l0_2.length c0_2, .slice A0_3 l0_3.length c0_3, .slice A0_4 l0_4.length c0_4] 26 (0, 0)) (by (with_reducible repeat (first | refine k0_ ?_ _ | refine k1_ ?_ | refine k2_ ?_ _)); exact BK178.out) hb); have n2_ := M_ (blk_below (g := gb179) (o := .cells #[.int .i64 0, .int .i64 0, .slice none 0 0, .slice none 0 0, .slice none 0 0, .slice none 0 0, .int .i64 0] 53 (0, 0)) (by (with_reducible repeat (first | refine k0_ ?_ _ | refine k1_ ?_ | refine k2_ ?_ _)); exact BK179.out) hb); have n3_ := M_ (below_step (by repeat (first | (with_reducible first | exact HB.out | apply b0_ | apply b1_ | apply b2_ | refine below_set ?_ GE178.out | refine below_set ?_ GE179.out) | exact HB.out)) hb); have n4_ := M_ (hbox); have n5_ := M_ ((by rw [hg]; exact (below_size (by repeat (first | (with_reducible first | exact HB.out | apply b0_ | apply b1_ | apply b2_ | refine below_set ?_ GE178.out | refine below_set ?_ GE179.out) | exact HB.out))) : w.heap.size ≤ gb184)); have n6_ := M_ ((by rw [hg]; exact (below_size (by repeat (first | (with_reducible first | exact HB.out | apply b0_ | apply b1_ | apply b2_ | refine below_set ?_ GE178.out | refine below_set ?_ GE179.out) | exact HB.out))) : w.heap.size ≤ gb184)); have n7_ := M_ ((by rw [hg]; exact Nat.ne_of_lt (blk_lt (g := gb178) (o := .cells #[.int .i64 a0_0, .slice A0_1 l0_1.length c0_1, .slice A0_2 l0_2.length c0_2, .slice A0_3 l0_3.length c0_3, .slice A0_4 l0_4.length c0_4] 26 (0, 0)) (by (with_reducible repeat (first | refine k0_ ?_ _ | refine k1_ ?_ | refine k2_ ?_ _)); exact BK178.out)) : gb178 ≠ gb184)); have n8_ := M_ ((by rw [hg]; exact Nat.ne_of_gt (blk_lt (g := gb178) (o := .cells #[.int .i64 a0_0, .slice A0_1 l0_1.length c0_1, .slice A0_2 l0_2.length c0_2, .slice A0_3 l0_3.length c0_3, .slice A0_4 l0_4.length c0_4] 26 (0, 0)) (by (with_reducible repeat (first | refine k0_ ?_ _ | refine k1_ ?_ | refine k2_ ?_ _)); exact BK178.out)) : gb184 ≠ gb178)); have n9_ := M_ ((by rw [hg]; exact Nat.ne_of_lt (blk_lt (g := gb179) (o := .cells #[.int .i64 0, .int .i64 0, .slice none 0 0, .slice none 0 0, .slice none 0 0, .slice none 0 0, .int .i64 0] 53 (0, 0)) (by (with_reducible repeat (first | refine k0_ ?_ _ | refine k1_ ?_ | refine k2_ ?_ _)); exact BK179.out)) : gb179 ≠ gb184)); have n10_ := M_ ((by rw [hg]; exact Nat.ne_of_gt (blk_lt (g := gb179) (o := .cells #[.int .i64 0, .int .i64 0, .slice none 0 0, .slice none 0 0, .slice none 0 0, .slice none 0 0, .int .i64 0] 53 (0, 0)) (by (with_reducible repeat (first | refine k0_ ?_ _ | refine k1_ ?_ | refine k2_ ?_ _)); exact BK179.out)) : gb184 ≠ gb179)); clear HO183; clear BK178; clear BK179; clear HB; have HO183 := n0_; have BK178 := n1_; have BK179 := n2_; have HB := n3_; have BK184 := n4_; have GW184 := n5_; have GE184 := n6_; have NB178_184 := n7_; have NB184_178 := n8_; have NB179_184 := n9_; have NB184_179 := n10_; clear n0_ n1_ n2_ n3_ n4_ n5_ n6_ n7_ n8_ n9_ n10_; clear hb hbox hg; have hnb14 := NB184_178.out; have hnc14 := NB178_184.out; have hnb15 := NB184_179.out; have hnc15 := NB179_184.out; have hcz16_0 : w13.cell? ⟨gb184, 0, none⟩ = some (.int .i64 0) := (blk_cell BK184.out 0).trans rfl; have hcz16_1 : w13.cell? ⟨gb184, 1, none⟩ = some (.int .i64 0) := (blk_cell BK184.out 1).trans rfl; have hcz16_2 : w13.cell? ⟨gb184, 2, none⟩ = some (.slice none 0 0) := (blk_cell BK184.out 2).trans rfl; have hcz16_3 : w13.cell? ⟨gb184, 3, none⟩ = some (.slice none 0 0) := (blk_cell BK184.out 3).trans rfl; have hcz16_4 : w13.cell? ⟨gb184, 4, none⟩ = some (.slice none 0 0) := (blk_cell BK184.out 4).trans rfl; have hcz16_5 : w13.cell? ⟨gb184, 5, none⟩ = some (.slice none 0 0) := (blk_cell BK184.out 5).trans rfl; have hcz16_6 : w13.cell? ⟨gb184, 6, none⟩ = some (.int .i64 0) := (blk_cell BK184.out 6).trans rfl; have hfz16_0 := blk_frozen BK184.out 0; have hfz16_1 := blk_frozen BK184.out 1; have hfz16_2 := blk_frozen BK184.out 2; have hfz16_3 := blk_frozen BK184.out 3; have hfz16_4 := blk_frozen BK184.out 4; have hfz16_5 := blk_frozen BK184.out 5; have hfz16_6 := blk_frozen BK184.out 6))
   go_loopg [6] k (fun kq v6 w' => ∃ (x6_1 : Int) (x185003_1 : List (List Int)) (u185003 : Value), v6 = .int .i64 x6_1 ∧ Aside0 (lift_Identity.l0 kq x6_1 a0_0 l0_1 l0_2 l0_3 l0_4 0 1 x185003_1 1 = some (r1, r2, r3, r4, r5, r6, r7, r8)) ∧ Aside0 (kq ≤ k) ∧ Aside0 (Kd.S (Kd.slice 3 (Kd.int .i64)) 24 w' w.heap.size (fun _ => True) u185003 x185003_1) ∧ Aside0 (w'.heap[gb178]? = some (.cells #[.int .i64 a0_0, (.slice A0_1 l0_1.length c0_1), (.slice A0_2 l0_2.length c0_2), (.slice A0_3 l0_3.length c0_3), (.slice A0_4 l0_4.length c0_4)] 26 (0, 0))) ∧ Aside0 (w'.heap[gb179]? = some (.cells #[.int .i64 0, .int .i64 0, (.slice none 0 0), (.slice none 0 0), (.slice none 0 0), (.slice none 0 0), .int .i64 0] 53 (0, 0))) ∧ Aside0 (w'.heap[gb184]? = some (.cells #[.int .i64 0, .int .i64 1, (.slice none 0 0), u185003, (.slice none 0 0), (.slice none 0 0), .int .i64 1] 53 (0, 0))) ∧ Aside0 (Below w.heap.size w w'))
   case atStart => exact ⟨(1), (y181), (.slice Ao12 y181.length co12), (by first | rfl | (simp; done) | (simp [*]; done)), H', ⟨Nat.le_refl _⟩, ⟨by (with_reducible repeat (first | apply Kd.S_alloc | apply Kd.S_drewN | apply Kd.S_drew)); exact Kd.S_mono (Kd.S_far (p := ⟨gb184, 6, none⟩) (Kd.S_far (p := ⟨gb184, 5, none⟩) (Kd.S_far (p := ⟨gb184, 4, none⟩) (Kd.S_far (p := ⟨gb184, 3, none⟩) (Kd.S_far (p := ⟨gb184, 2, none⟩) (Kd.S_far (p := ⟨gb184, 1, none⟩) (Kd.S_far (p := ⟨gb184, 0, none⟩) (Kd.S_types HO183.out BK184.out (by decide)) (fun _ hk => hk.2) (.int .i64 0)) (fun _ hk => hk.2) (.int .i64 1)) (fun _ hk => hk.2) (.slice none 0 0)) (fun _ hk => hk.2) (.slice Ao12 y181.length co12)) (fun _ hk => hk.2) (.slice none 0 0)) (fun _ hk => hk.2) (.slice none 0 0)) (fun _ hk => hk.2) (.int .i64 1)) (fun _ hk => trivial)⟩, ⟨by (with_reducible repeat (first | refine k0_ ?_ _ | refine k1_ ?_ | refine k2_ ?_ _)); refine blk_far ?_ NB178_184.out _; (with_reducible repeat (first | refine k0_ ?_ _ | refine k1_ ?_ | refine k2_ ?_ _)); refine blk_far ?_ NB178_184.out _; (with_reducible repeat (first | refine k0_ ?_ _ | refine k1_ ?_ | refine k2_ ?_ _)); refine blk_far ?_ NB178_184.out _; (with_reducible repeat (first | refine k0_ ?_ _ | refine k1_ ?_ | refine k2_ ?_ _)); refine blk_far ?_ NB178_184.out _; (with_reducible repeat (first | refine k0_ ?_ _ | refine k1_ ?_ | refine k2_ ?_ _)); refine blk_far ?_ NB178_184.out _; (with_reducible repeat (first | refine k0_ ?_ _ | refine k1_ ?_ | refine k2_ ?_ _)); refine blk_far ?_ NB178_184.out _; (with_reducible repeat (first | refine k0_ ?_ _ | refine k1_ ?_ | refine k2_ ?_ _)); refine blk_far ?_ NB178_184.out _; (with_reducible repeat (first | refine k0_ ?_ _ | refine k1_ ?_ | refine k2_ ?_ _)); exact BK178.out⟩, ⟨by (with_reducible repeat (first | refine k0_ ?_ _ | refine k1_ ?_ | refine k2_ ?_ _)); refine blk_far ?_ NB179_184.out _; (with_reducible repeat (first | refine k0_ ?_ _ | refine k1_ ?_ | refine k2_ ?_ _)); refine blk_far ?_ NB179_184.out _; (with_reducible repeat (first | refine k0_ ?_ _ | refine k1_ ?_ | refine k2_ ?_ _)); refine blk_far ?_ NB179_184.out _; (with_reducible repeat (first | refine k0_ ?_ _ | refine k1_ ?_ | refine k2_ ?_ _)); refine blk_far ?_ NB179_184.out _; (with_reducible repeat (first | refine k0_ ?_ _ | refine k1_ ?_ | refine k2_ ?_ _)); refine blk_far ?_ NB179_184.out _; (with_reducible repeat (first | refine k0_ ?_ _ | refine k1_ ?_ | refine k2_ ?_ _)); refine blk_far ?_ NB179_184.out _; (with_reducible repeat (first | refine k0_ ?_ _ | refine k1_ ?_ | refine k2_ ?_ _)); refine blk_far ?_ NB179_184.out _; (with_reducible repeat (first | refine k0_ ?_ _ | refine k1_ ?_ | refine k2_ ?_ _)); exact BK179.out⟩, ⟨by (with_reducible repeat (first | refine k0_ ?_ _ | refine k1_ ?_ | refine k2_ ?_ _)); refine blk_put (cs := #[.int .i64 0, .int .i64 1, .slice none 0 0, .slice Ao12 y181.length co12, .slice none 0 0, .slice none 0 0, .int .i64 0]) ?_ 6 _ rfl; (with_reducible repeat (first | refine k0_ ?_ _ | refine k1_ ?_ | refine k2_ ?_ _)); refine blk_put (cs := #[.int .i64 0, .int .i64 1, .slice none 0 0, .slice Ao12 y181.length co12, .slice none 0 0, .slice none 0 0, .int .i64 0]) ?_ 5 _ rfl; (with_reducible repeat (first | refine k0_ ?_ _ | refine k1_ ?_ | refine k2_ ?_ _)); refine blk_put (cs := #[.int .i64 0, .int .i64 1, .slice none 0 0, .slice Ao12 y181.length co12, .slice none 0 0, .slice none 0 0, .int .i64 0]) ?_ 4 _ rfl; (with_reducible repeat (first | refine k0_ ?_ _ | refine k1_ ?_ | refine k2_ ?_ _)); refine blk_put (cs := #[.int .i64 0, .int .i64 1, .slice none 0 0, .slice none 0 0, .slice none 0 0, .slice none 0 0, .int .i64 0]) ?_ 3 _ rfl; (with_reducible repeat (first | refine k0_ ?_ _ | refine k1_ ?_ | refine k2_ ?_ _)); refine blk_put (cs := #[.int .i64 0, .int .i64 1, .slice none 0 0, .slice none 0 0, .slice none 0 0, .slice none 0 0, .int .i64 0]) ?_ 2 _ rfl; (with_reducible repeat (first | refine k0_ ?_ _ | refine k1_ ?_ | refine k2_ ?_ _)); refine blk_put (cs := #[.int .i64 0, .int .i64 0, .slice none 0 0, .slice none 0 0, .slice none 0 0, .slice none 0 0, .int .i64 0]) ?_ 1 _ rfl; (with_reducible repeat (first | refine k0_ ?_ _ | refine k1_ ?_ | refine k2_ ?_ _)); refine blk_put (cs := #[.int .i64 0, .int .i64 0, .slice none 0 0, .slice none 0 0, .slice none 0 0, .slice none 0 0, .int .i64 0]) ?_ 0 _ rfl; (with_reducible repeat (first | refine k0_ ?_ _ | refine k1_ ?_ | refine k2_ ?_ _)); exact BK184.out⟩, ⟨by repeat (first | (with_reducible first | exact HB.out | apply b0_ | apply b1_ | apply b2_ | refine below_set ?_ GE178.out | refine below_set ?_ GE179.out | refine below_set ?_ GE184.out) | exact HB.out)⟩⟩
   case round =>
    clear H'
    try clear c1
    try clear c2
    try clear p2
    try clear c3
    try clear c3b0
    try clear c3b1
    try clear c4
    try clear c4b0
    try clear c4b1
    try clear c7
    try clear c14
    try clear c15
    try clear hcz16_0
    try clear hcz16_1
    try clear hcz16_2
    try clear hcz16_3
    try clear hcz16_4
    try clear hcz16_5
    try clear hcz16_6
    try clear hcz8_0
    try clear hcz8_1
    try clear hcz8_2
    try clear hcz8_3
    try clear hcz8_4
    try clear hfz16_0
    try clear hfz16_1
    try clear hfz16_2
    try clear hfz16_3
    try clear hfz16_4
    try clear hfz16_5
    try clear hfz16_6
    try clear hfz8_0
    try clear hfz8_1
    try clear hfz8_2
    try clear hfz8_3
    try clear hfz8_4
    obtain ⟨x6_1, x185003_1, u185003, rfl, HA, HK1, HO_185003, BK178, BK179, BK184, HB⟩ := hrel
    cases gk with
    | zero => exact absurd HA.out (by simp [lift_Identity.l0])
    | succ k1 =>
     have H := HA.out
     clear HA
     simp only [lift_Identity.l0] at H
     by_cases c17 : x6_1 ≤ a0_0
     ·rw [if_pos c17] at H
      have c17b0 : decide (x6_1 ≤ a0_0) = true := decide_eq_true c17
      clear c17
      by_cases c18 : 0 < (x185003_1.length : Int)
      ·rw [if_pos c18] at H
       have c18b0 : decide (0 < (x185003_1.length : Int)) = true := decide_eq_true c18
       have c18b1 : decide (0 < x185003_1.length) = true := decide_eq_true (by omega)
       clear c18
       by_cases c19 : (rd_L4 x185003_1 0).length < 17592186044416
       ·rw [if_pos c19] at H
        have LMc19 := M_ c19
        clear c19
        obtain ⟨y186, hy186⟩ : ∃ y_ : List Int, y_ = ((rd_L4 x185003_1 0) ++ [wrap64 (2 * x6_1)]) := ⟨_, rfl⟩
        replace H : (lift_Identity.l0 k1 (wrap64 (x6_1 + 1)) a0_0 l0_1 l0_2 l0_3 l0_4 0 1 (x185003_1.set (0 : Int).toNat y186) 1) = some (r1, r2, r3, r4, r5, r6, r7, r8) := by first | (rw [hy186]; with_reducible exact H) | (have H2_ := (Option.bind_some _ _).symm.trans H; rw [hy186]; with_reducible exact H2_) | (have H2_ := (Option.bind_some _ _).symm.trans H; with_reducible exact H2_) | with_reducible exact H | (rw [hy186]; exact H) | exact H
        have Ny186 := M_ hy186
        clear hy186
        obtain ⟨y189, hy189⟩ : ∃ y_ : List (List Int), y_ = (x185003_1.set (0 : Int).toNat y186) := ⟨_, rfl⟩
        replace H : (lift_Identity.l0 k1 (wrap64 (x6_1 + 1)) a0_0 l0_1 l0_2 l0_3 l0_4 0 1 y189 1) = some (r1, r2, r3, r4, r5, r6, r7, r8) := by first | (rw [hy189]; with_reducible exact H) | (have H2_ := (Option.bind_some _ _).symm.trans H; rw [hy189]; with_reducible exact H2_) | (have H2_ := (Option.bind_some _ _).symm.trans H; with_reducible exact H2_) | with_reducible exact H | (rw [hy189]; exact H) | exact H
        have Ny189 := M_ hy189
        clear hy189
        have H' := M_ H
        clear H
        have hnb21 := NB178_179.out
        have hnc21 := NB179_178.out
        have hnb22 := NB178_184.out
        have hnc22 := NB184_178.out
        have hcz23_0 : wr.cell? ⟨gb178, 0, none⟩ = some (.int .i64 a0_0) := (blk_cell BK178.out 0).trans rfl
        have hcz23_1 : wr.cell? ⟨gb178, 1, none⟩ = some (.slice A0_1 l0_1.length c0_1) := (blk_cell BK178.out 1).trans rfl
        have hcz23_2 : wr.cell? ⟨gb178, 2, none⟩ = some (.slice A0_2 l0_2.length c0_2) := (blk_cell BK178.out 2).trans rfl
        have hcz23_3 : wr.cell? ⟨gb178, 3, none⟩ = some (.slice A0_3 l0_3.length c0_3) := (blk_cell BK178.out 3).trans rfl
        have hcz23_4 : wr.cell? ⟨gb178, 4, none⟩ = some (.slice A0_4 l0_4.length c0_4) := (blk_cell BK178.out 4).trans rfl
        have hfz23_0 := blk_frozen BK178.out 0
        have hfz23_1 := blk_frozen BK178.out 1
        have hfz23_2 := blk_frozen BK178.out 2
        have hfz23_3 := blk_frozen BK178.out 3
        have hfz23_4 := blk_frozen BK178.out 4
        try go_wp2
        have n0_ := M_ (Kd.S_drew HO_185003.out)
        have n1_ := M_ (blk_drew BK178.out)
        have n2_ := M_ (blk_drew BK179.out)
        have n3_ := M_ (blk_drew BK184.out)
        have n4_ := M_ (below_drew1 HB.out)
        clear HO_185003
        clear BK178
        clear BK179
        clear BK184
        clear HB
        have HO_185003 := n0_
        have BK178 := n1_
        have BK179 := n2_
        have BK184 := n3_
        have HB := n4_
        clear n0_ n1_ n2_ n3_ n4_
        obtain ⟨Ao25, co25, eo25⟩ := Kd.S_slice HO_185003.out
        (first | subst eo25 | (injection eo25 with f1_ f2_ f3_; have f4_ := f1_.symm; have f5_ := f3_.symm; clear f1_ f2_ f3_; subst f4_; subst f5_))
        have p185 : 0 ≤ (0 : Int) := (by omega)
        have q185 : 0 < (x185003_1.length : Int) := of_decide_eq_true (by first | (with_reducible assumption) | assumption)
        obtain ⟨ad185, A185_0, c185_0, e185, hx185_0, hl185_0, hi185_0⟩ := at_L4 (Kd.S_reads' HO_185003.out).2.2 0 p185 q185
        cases e185
        obtain ⟨ce185, hce185, hMe185, hcc185⟩ := Kd.S_get HO_185003.out [] 0 p185 (by first | exact q185 | exact of_decide_eq_true (by first | (with_reducible assumption) | assumption) | (have e_ := (Kd.S_reads' HO_185003.out).1; omega))
        obtain ⟨ve185_0, rfl, ge185_0⟩ := hMe185
        have hv185_0 := hcc185 0 _ rfl
        rw [Nat.add_zero, show ((Kd.slice 3 (Kd.int .i64))).sz = 1 from rfl, Nat.mul_one] at hv185_0
        replace hv185_0 := Option.some.inj (hv185_0.symm.trans hx185_0)
        rw [hv185_0] at ge185_0
        have HL185_0 := M_ (show Kd.R (Kd.int .i64) 3 _ _ _ _ (rd_L4 x185003_1 0) from ge185_0)
        clear hv185_0 ge185_0
        have HX185_0 := M_ hx185_0
        clear hcc185 hce185
        have qi185 : (0 < x185003_1.length) = True := eq_true (by omega)
        (try rw [show ((0 : Int)).toNat = 0 from rfl] at hx185_0)
        (try rw [Addr.add_zero'] at hx185_0)
        have HR185_0 := M_ hi185_0
        have HC185_0 := M_ hl185_0
        clear hi185_0 hl185_0
        replace p185 := eq_true p185
        replace q185 := eq_true q185
        obtain ⟨go26, co26, eo26, gb26, gl26, cl26, HG26⟩ := Kd.S_form HO_185003.out (by have h_ : (0 : Int) < ((x185003_1.length : Int) : Int) := of_decide_eq_true (by first | (with_reducible assumption) | assumption); have h2_ : 0 ≤ (0 : Int) := (by omega); omega)
        (first | cases eo26 | (injection eo26 with ea_ en_ ec_; (first | subst ea_ | (injection ea_ with ea_; subst ea_)); subst ec_; clear en_))
        have GB26 := M_ gb26
        have GG26 := M_ HG26
        clear gb26 gl26 HG26
        (first | simp only [add_plain] at hx185_0 | skip)
        obtain ⟨oki26, ce26, hcl26, hM26, hcc26, _, _, hH26⟩ := Kd.S_elem HO_185003.out [] (0 : Int) (by omega) (by have h_ : (0 : Int) < ((x185003_1.length : Int) : Int) := of_decide_eq_true (by first | (with_reducible assumption) | assumption); first | exact h_ | (have e_ := (Kd.S_reads' HO_185003.out).1; omega) | simpa using h_)
        obtain ⟨ve26_0, rfl, ge26_0⟩ := hM26
        have hv26 := hcc26 0 _ rfl
        have hX26 := HX185_0.out
        (try simp only [add_plain] at hX26)
        (try simp only [Nat.add_zero] at hv26)
        (try rw [show ((Kd.slice 3 (Kd.int .i64))).sz = 1 from rfl, Nat.mul_one] at hv26)
        replace hv26 := Option.some.inj (hv26.symm.trans hX26)
        subst hv26
        clear hX26 hcc26 hcl26
        have UU26 := M_ (show Kd.R (Kd.int .i64) 3 _ w.heap.size oki26 (.slice A185_0 (rd_L4 x185003_1 0).length c185_0) (rd_L4 x185003_1 0) from ge26_0)
        have HH26 := M_ hH26
        have HN26 := M_ (Kd.S_reads' HO_185003.out).1
        clear hH26 ge26_0
        refine start_ (n := 12) (S := fun w' => w'.cell? ⟨gb184, 0, none⟩ = some (.int .i64 0) ∧ w'.cell? ⟨gb184, 1, none⟩ = some (.int .i64 1) ∧ w'.cell? ⟨gb184, 2, none⟩ = some (.slice none 0 0) ∧ w'.cell? ⟨gb184, 3, none⟩ = some (.slice (some ⟨go26, 0, none⟩) x185003_1.length co25) ∧ w'.cell? ⟨gb184, 4, none⟩ = some (.slice none 0 0) ∧ w'.cell? ⟨gb184, 5, none⟩ = some (.slice none 0 0) ∧ w'.cell? ⟨gb184, 6, none⟩ = some (.int .i64 1) ∧ w'.cell? ⟨go26, 0, none⟩ = some (.slice A185_0 (rd_L4 x185003_1 0).length c185_0)) (ds := [11]) z0_ (by kernel_rfl) rfl rfl ⟨(blk_cell BK184.out 0).trans rfl, (blk_cell BK184.out 1).trans rfl, (blk_cell BK184.out 2).trans rfl, (blk_cell BK184.out 3).trans rfl, (blk_cell BK184.out 4).trans rfl, (blk_cell BK184.out 5).trans rfl, (blk_cell BK184.out 6).trans rfl, hx185_0⟩ (fun hHeld => ?_); refine with_tabW lift_Identity.tab8 lift_Identity.bits8 (fun HT_ HW_ => ?_)
        generalize wr.drew = w24 at HO_185003 BK178 BK179 BK184 HB GG26 HH26 HL185_0 HR185_0 HX185_0 UU26 hx185_0 hHeld ⊢
        refine pure_ (i := 0) (N := some 23) (v := ?_) (a' := ?_) z1_ rfl rfl (any_of HT_.out (by kernel_rfl)) (fun _ _ _ h => h) (Or.inl ⟨by rfl, ?_⟩) ?_ ?_
        rotate_left
        ·intro w'
         go_simp
         with_reducible rfl
        rotate_left
        ·simp only [Act.put, e1_, e2_, e3_, i64_w, i32_w]
         rfl
        refine pure_ (i := 2) (N := some 25) (v := ?_) (a' := ?_) z2_ rfl rfl (any_of HT_.out (by kernel_rfl)) (fun _ _ _ h => h) (Or.inl ⟨by rfl, ?_⟩) ?_ ?_
        rotate_left
        ·intro w'
         go_simp
         with_reducible rfl
        rotate_left
        ·simp only [Act.put, e1_, e2_, e3_, i64_w, i32_w]
         rfl
        refine pure_ (i := 6) (N := some 29) (v := ?_) (a' := ?_) z3_ rfl rfl (any_of HT_.out (by kernel_rfl)) (fun _ _ _ h => h) (Or.inl ⟨by rfl, ?_⟩) ?_ ?_
        rotate_left
        ·intro w'
         go_simp
         with_reducible rfl
        rotate_left
        ·simp only [Act.put, e1_, e2_, e3_, i64_w, i32_w]
         rfl
        refine pure_ (i := 7) (N := some 30) (v := ?_) (a' := ?_) z4_ rfl rfl (any_of HT_.out (by kernel_rfl)) (fun _ _ _ h => h) (Or.inl ⟨by rfl, ?_⟩) ?_ ?_
        rotate_left
        ·intro w'
         go_simp
         with_reducible rfl
        rotate_left
        ·simp only [Act.put, e1_, e2_, e3_, i64_w, i32_w]
         rfl
        refine take_ (i := 1) (N := some 24) (v := ?_) (a' := ?_) z5_ rfl rfl (take_ofW HT_.out HW_.out (by kernel_rfl)) (fun _ _ _ h => h) (Or.inl ⟨by rfl, ?_⟩) hHeld ?_ ?_
        rotate_left
        ·rintro w' ⟨s0, s1, s2, s3, s4, s5, s6, s7⟩
         go_simp
         with_reducible rfl
        rotate_left
        ·simp only [Act.put, e1_, e2_, e3_, i64_w, i32_w]
         rfl
        refine take_ (i := 3) (N := some 26) (v := ?_) (a' := ?_) z6_ rfl rfl (take_ofW HT_.out HW_.out (by kernel_rfl)) (fun _ _ _ h => h) (Or.inl ⟨by rfl, ?_⟩) hHeld ?_ ?_
        rotate_left
        ·rintro w' ⟨s0, s1, s2, s3, s4, s5, s6, s7⟩
         go_simp
         with_reducible rfl
        rotate_left
        ·simp only [Act.put, e1_, e2_, e3_, i64_w, i32_w]
         rfl
        refine pure_ (i := 4) (N := some 27) (v := ?_) (a' := ?_) z7_ rfl rfl (any_of HT_.out (by kernel_rfl)) (fun _ _ _ h => h) (Or.inl ⟨by rfl, ?_⟩) ?_ ?_
        rotate_left
        ·intro w'
         go_simp
         with_reducible rfl
        rotate_left
        ·simp only [Act.put, e1_, e2_, e3_, i64_w, i32_w]
         rfl
        refine take_ (i := 5) (N := some 28) (v := ?_) (a' := ?_) z8_ rfl rfl (take_ofW HT_.out HW_.out (by kernel_rfl)) (fun _ _ _ h => h) (Or.inl ⟨by rfl, ?_⟩) hHeld ?_ ?_
        rotate_left
        ·rintro w' ⟨s0, s1, s2, s3, s4, s5, s6, s7⟩
         go_simp
         with_reducible rfl
        rotate_left
        ·simp only [Act.put, e1_, e2_, e3_, i64_w, i32_w]
         rfl
        refine one_ (i := 8) (N := some 31) z9_ rfl rfl (one_of HT_.out (by kernel_rfl)) (by decide) (fun K hK => ?_)
        refine value_ (w1 := ?_) (v := ?_) (by rfl) rfl ?_ ?_
        rotate_left 2
        ·go_simp
         constructor
         ·rfl
         ·rfl
        refine hK.out _ _ ⟨(blk_cell (blk_alloc BK184.out _) 0).trans rfl, (blk_cell (blk_alloc BK184.out _) 1).trans rfl, (blk_cell (blk_alloc BK184.out _) 2).trans rfl, (blk_cell (blk_alloc BK184.out _) 3).trans rfl, (blk_cell (blk_alloc BK184.out _) 4).trans rfl, (blk_cell (blk_alloc BK184.out _) 5).trans rfl, (blk_cell (blk_alloc BK184.out _) 6).trans rfl, (World.cell?_alloc_lt _ _ _ (World.block_lt_of_cell? _ _ (hHeld.2.2.2.2.2.2.2))).trans (hHeld.2.2.2.2.2.2.2)⟩ (fun hHeld => ?_)
        clear hK K
        refine norm_ (a' := ?_) ?_ ?_
        rotate_left
        ·show Act.put _ (some 31) _ = _
         simp only [Act.put, e1_, e2_, e3_, i64_w, i32_w]
         rfl
        refine one_ (i := 9) (N := some 32) z10_ rfl rfl (one_of HT_.out (by kernel_rfl)) (by decide) (fun K hK => ?_)
        refine Kd.R_append_step (Kd.int .i64) (w0 := w) w.heap.size (by rfl) (.tmp 28) (.tmp 31) 24 3 (.int .i64 0) 8 rfl Try.underlying24 info3 rfl (by decide) (by omega) (.slice A185_0 (rd_L4 x185003_1 0).length c185_0) (rd_L4 x185003_1 0) (wrap64 (2 * x6_1)) [.int .i64 (wrap64 (2 * x6_1))] (fun k_ => oki26 k_ ∨ ((fun _ => True)) k_ ∧ w24.heap.size ≤ k_) (fun _ => False) rfl rfl ?aP (fun _ hk => hk.elim) ?aF ?aO ?aB ?aS ?aL ?_
        (case aP => exact rfl)
        (case aB => exact (by repeat (first | (with_reducible first | exact HB.out | apply b0_ | apply b1_ | apply b2_ | refine below_set ?_ GE178.out | refine below_set ?_ GE179.out | refine below_set ?_ GE184.out) | exact HB.out)))
        (case aF => exact (fun k_ hk => .inr ⟨trivial, hk⟩))
        (case aO => exact (by (with_reducible repeat (first | apply a0_ | apply a1_ | apply a2_)); exact Kd.R_mono UU26.out (fun _ hk => .inl hk)))
        (case aS => exact (below_size (by repeat (first | (with_reducible first | exact HB.out | apply b0_ | apply b1_ | apply b2_ | refine below_set ?_ GE178.out | refine below_set ?_ GE179.out | refine below_set ?_ GE184.out) | exact HB.out))))
        (case aL => have := LMc19.out; omega)
        intro v187 w27 ho hb hg hat
        (first | have HS7_ := cell_grown hg (hHeld.2.2.2.2.2.2.2) (by first | (rw [add_block]; exact (fun e_ => ((HL185_0.out.1 _ e_.symm).2) rfl)) | (show some (Addr.add _ _).block ≠ _; rw [add_block]; exact (fun e_ => ((HL185_0.out.1 _ e_.symm).2) rfl)) | exact (fun e_ => ((HL185_0.out.1 _ e_.symm).2) rfl)) | have HS7_ := cell_grown hg (cell_unalloc (hHeld.2.2.2.2.2.2.2) (by first | (rw [add_block]; exact Kd.S_lt HO_185003.out _ rfl) | (show (Addr.add _ _).block < _; rw [add_block]; exact Kd.S_lt HO_185003.out _ rfl) | exact Kd.S_lt HO_185003.out _ rfl)) (by first | (rw [add_block]; exact (fun e_ => ((HL185_0.out.1 _ e_.symm).2) rfl)) | (show some (Addr.add _ _).block ≠ _; rw [add_block]; exact (fun e_ => ((HL185_0.out.1 _ e_.symm).2) rfl)) | exact (fun e_ => ((HL185_0.out.1 _ e_.symm).2) rfl)))
        rw [← Ny186.out] at ho
        have n0_ := M_ (blk_grown (g := gb178) (o := .cells #[.int .i64 a0_0, .slice A0_1 l0_1.length c0_1, .slice A0_2 l0_2.length c0_2, .slice A0_3 l0_3.length c0_3, .slice A0_4 l0_4.length c0_4] 26 (0, 0)) (by (with_reducible repeat (first | refine k0_ ?_ _ | refine k1_ ?_ | refine k2_ ?_ _)); exact BK178.out) hg (Kd.R_ne HL185_0.out BK178.out (by decide)))
        have n1_ := M_ (blk_grown (g := gb179) (o := .cells #[.int .i64 0, .int .i64 0, .slice none 0 0, .slice none 0 0, .slice none 0 0, .slice none 0 0, .int .i64 0] 53 (0, 0)) (by (with_reducible repeat (first | refine k0_ ?_ _ | refine k1_ ?_ | refine k2_ ?_ _)); exact BK179.out) hg (Kd.R_ne HL185_0.out BK179.out (by decide)))
        have n2_ := M_ (blk_grown (g := gb184) (o := .cells #[.int .i64 0, .int .i64 1, .slice none 0 0, .slice (some ⟨go26, 0, none⟩) x185003_1.length co25, .slice none 0 0, .slice none 0 0, .int .i64 1] 53 (0, 0)) (by (with_reducible repeat (first | refine k0_ ?_ _ | refine k1_ ?_ | refine k2_ ?_ _)); exact BK184.out) hg (Kd.R_ne HL185_0.out BK184.out (by decide)))
        have n3_ := M_ (hb)
        have n4_ := M_ (Kd.H_grown (Kd.H_widen (by repeat (first | exact HH26.out | refine Kd.H_alloc ?_ _ | refine Kd.H_drewN ?_ _ | refine Kd.H_drew ?_))) hg (fun k_ e_ => .inl (UU26.out.1 k_ e_)))
        have n5_ := M_ (ho)
        clear BK178
        clear BK179
        clear BK184
        clear HB
        clear HH26
        clear HO_185003
        clear UU26
        clear HL185_0
        have BK178 := n0_
        have BK179 := n1_
        have BK184 := n2_
        have HB := n3_
        have HH26 := n4_
        have HO188 := n5_
        clear n0_ n1_ n2_ n3_ n4_ n5_
        clear ho hb hg hat
        have p20 : 0 ≤ (0 : Int) := (by omega)
        have q20 : (0 : Int) < ((x185003_1.length : Int) : Int) := of_decide_eq_true (by first | (with_reducible assumption) | assumption)
        replace p20 := eq_true p20
        replace q20 := eq_true q20
        obtain ⟨Ao30, co30, eo30⟩ := Kd.R_slice HO188.out
        (first | subst eo30 | (injection eo30 with f1_ f2_ f3_; have f4_ := f1_.symm; have f5_ := f3_.symm; clear f1_ f2_ f3_; subst f4_; subst f5_))
        obtain ⟨_, _, hraw28, _, _, hcc28, _⟩ := Kd.H_raw HH26.out (by omega) (by have h_ : (0 : Int) < ((x185003_1.length : Int) : Int) := of_decide_eq_true (by first | (with_reducible assumption) | assumption); first | exact h_ | (have e_ := (HN26.out); omega) | simpa using h_)
        obtain ⟨_, hfr28⟩ := Kd.H_at HH26.out (by omega) (by have h_ : (0 : Int) < ((x185003_1.length : Int) : Int) := of_decide_eq_true (by first | (with_reducible assumption) | assumption); first | exact h_ | (have e_ := (HN26.out); omega) | simpa using h_)
        have hx28_0 := hcc28 0 _ rfl
        have hf28_0 := hfr28 0
        (try simp only [Nat.add_zero] at hx28_0 hf28_0)
        (try rw [show ((Kd.slice 3 (Kd.int .i64))).sz = 1 from rfl, Nat.mul_one] at hx28_0)
        (try rw [show ((Kd.slice 3 (Kd.int .i64))).sz = 1 from rfl, Nat.mul_one] at hf28_0)
        (try rw [show ((0 : Int)).toNat = 0 from rfl] at hx28_0)
        (try simp only [Nat.reduceMul, Nat.zero_mul, Nat.zero_add, Nat.reduceAdd] at hx28_0)
        (try rw [show ((0 : Int)).toNat = 0 from rfl] at hf28_0)
        (try simp only [Nat.reduceMul, Nat.zero_mul, Nat.zero_add, Nat.reduceAdd] at hf28_0)
        have HP28 := Kd.S_seg0 HH26.out (by omega) (by have h_ : (0 : Int) < ((x185003_1.length : Int) : Int) := of_decide_eq_true (by first | (with_reducible assumption) | assumption); first | exact h_ | (have e_ := (HN26.out); omega) | simpa using h_) (seg := [.slice Ao30 y186.length co30]) (j := 0) (show 1 ≤ 1 from by decide) (x' := y186) (Kd.M_row HO188.out) (fun _ hk => hk)
        (try simp only [show ((Kd.slice 3 (Kd.int .i64))).sz = 1 from rfl, Nat.mul_one, Nat.add_zero] at HP28)
        clear hcc28 hfr28
        have HNB178_go26 := M_ (show gb178 ≠ go26 from by have h_ := Kd.R_ne hraw28 BK178.out (by decide); intro e_; exact h_ (by rw [e_]; rfl))
        have HNB179_go26 := M_ (show gb179 ≠ go26 from by have h_ := Kd.R_ne hraw28 BK179.out (by decide); intro e_; exact h_ (by rw [e_]; rfl))
        have HNB184_go26 := M_ (show gb184 ≠ go26 from by have h_ := Kd.R_ne hraw28 BK184.out (by decide); intro e_; exact h_ (by rw [e_]; rfl))
        have HS28 := HP28.1
        rw [← Ny189.out] at HS28
        have HQ28 := M_ HS28
        obtain ⟨_, hgg28⟩ := Kd.R_typed hraw28 go26 rfl
        have GG28_ := M_ hgg28
        clear HP28 HS28 hgg28
        refine hK.out _ _ ⟨(blk_cell BK184.out 0).trans rfl, (blk_cell BK184.out 1).trans rfl, (blk_cell BK184.out 2).trans rfl, (blk_cell BK184.out 3).trans rfl, (blk_cell BK184.out 4).trans rfl, (blk_cell BK184.out 5).trans rfl, (blk_cell BK184.out 6).trans rfl, HS7_⟩ (fun hHeld => ?_)
        clear hK K
        refine norm_ (a' := ?_) ?_ ?_
        rotate_left
        ·show Act.put _ (some 32) _ = _
         simp only [Act.put, e1_, e2_, e3_, i64_w, i32_w]
         rfl
        refine pure_ (i := 10) (N := some 33) (v := ?_) (a' := ?_) z11_ rfl rfl (any_of HT_.out (by kernel_rfl)) (fun _ _ _ h => h) (Or.inl ⟨by rfl, ?_⟩) ?_ ?_
        rotate_left
        ·intro w'
         go_simp
         with_reducible rfl
        rotate_left
        ·simp only [Act.put, e1_, e2_, e3_, i64_w, i32_w]
         rfl
        refine last_ (i := 11) (N := none) z12_ rfl rfl (one_of HT_.out (by kernel_rfl)) (by decide) (fun K hK => ?_)
        refine skip_ (w1 := ?_) (by rfl) rfl ?_ ?_
        rotate_left
        ·go_simp
         rfl
        refine hK.out _ _ ?_
        clear hK K
        refine done_ (done_of HT_.out (by kernel_rfl)) ?_
        try go_wp2
        go_roundg k1
        case measure => have := HK1.out; omega
        case rel => exact ⟨(wrap64 (x6_1 + 1)), (y189), (.slice (some ⟨go26, 0, none⟩) x185003_1.length co25), (by first | rfl | (simp; done) | (simp [*]; done)), H', ⟨by have := HK1.out; omega⟩, ⟨by (with_reducible repeat (first | apply Kd.S_alloc | apply Kd.S_drewN | apply Kd.S_drew)); exact HQ28.out⟩, ⟨by (with_reducible repeat (first | refine k0_ ?_ _ | refine k1_ ?_ | refine k2_ ?_ _)); refine blk_far ?_ HNB178_go26.out _; (with_reducible repeat (first | refine k0_ ?_ _ | refine k1_ ?_ | refine k2_ ?_ _)); exact BK178.out⟩, ⟨by (with_reducible repeat (first | refine k0_ ?_ _ | refine k1_ ?_ | refine k2_ ?_ _)); refine blk_far ?_ HNB179_go26.out _; (with_reducible repeat (first | refine k0_ ?_ _ | refine k1_ ?_ | refine k2_ ?_ _)); exact BK179.out⟩, ⟨by (with_reducible repeat (first | refine k0_ ?_ _ | refine k1_ ?_ | refine k2_ ?_ _)); refine blk_far ?_ HNB184_go26.out _; (with_reducible repeat (first | refine k0_ ?_ _ | refine k1_ ?_ | refine k2_ ?_ _)); exact BK184.out⟩, ⟨by repeat (first | (with_reducible first | exact HB.out | apply b0_ | apply b1_ | apply b2_ | refine below_set ?_ GB26.out | refine below_set ?_ GE178.out | refine below_set ?_ GE179.out | refine below_set ?_ GE184.out) | exact HB.out)⟩⟩
       ·rw [if_neg c19] at H
        exact absurd H (by simp)
      ·rw [if_neg c18] at H
       exact absurd H (by simp)
     ·rw [if_neg c17] at H
      have c17b0 : decide (x6_1 ≤ a0_0) = false := decide_eq_false c17
      clear c17
      have H' := M_ H
      clear H
      have hnb31 := NB178_179.out
      have hnc31 := NB179_178.out
      have hnb32 := NB178_184.out
      have hnc32 := NB184_178.out
      have hcz33_0 : wr.cell? ⟨gb178, 0, none⟩ = some (.int .i64 a0_0) := (blk_cell BK178.out 0).trans rfl
      have hcz33_1 : wr.cell? ⟨gb178, 1, none⟩ = some (.slice A0_1 l0_1.length c0_1) := (blk_cell BK178.out 1).trans rfl
      have hcz33_2 : wr.cell? ⟨gb178, 2, none⟩ = some (.slice A0_2 l0_2.length c0_2) := (blk_cell BK178.out 2).trans rfl
      have hcz33_3 : wr.cell? ⟨gb178, 3, none⟩ = some (.slice A0_3 l0_3.length c0_3) := (blk_cell BK178.out 3).trans rfl
      have hcz33_4 : wr.cell? ⟨gb178, 4, none⟩ = some (.slice A0_4 l0_4.length c0_4) := (blk_cell BK178.out 4).trans rfl
      have hfz33_0 := blk_frozen BK178.out 0
      have hfz33_1 := blk_frozen BK178.out 1
      have hfz33_2 := blk_frozen BK178.out 2
      have hfz33_3 := blk_frozen BK178.out 3
      have hfz33_4 := blk_frozen BK178.out 4
      go_wp2
      go_loopg [37] k1 (fun kq v37 w' => ∃ (x37_2 : Int) (x185002_2 : List Int) (u185002 : Value), v37 = .int .i64 x37_2 ∧ Aside0 (lift_Identity.l1 kq (l0_1.length : Int) x37_2 a0_0 l0_1 l0_2 l0_3 l0_4 0 1 x185002_2 x185003_1 1 = some (r1, r2, r3, r4, r5, r6, r7, r8)) ∧ Aside0 (kq ≤ k1) ∧ Aside0 (Kd.R (Kd.int .i64) 3 w' w.heap.size (fun _ => True) u185002 x185002_2) ∧ Aside0 (Kd.S (Kd.slice 3 (Kd.int .i64)) 24 w' w.heap.size (fun k_ => some k_ ≠ (u185002 : Value).ownBlock) u185003 x185003_1) ∧ Aside0 (w'.heap[gb178]? = some (.cells #[.int .i64 a0_0, (.slice A0_1 l0_1.length c0_1), (.slice A0_2 l0_2.length c0_2), (.slice A0_3 l0_3.length c0_3), (.slice A0_4 l0_4.length c0_4)] 26 (0, 0))) ∧ Aside0 (w'.heap[gb179]? = some (.cells #[.int .i64 0, .int .i64 0, (.slice none 0 0), (.slice none 0 0), (.slice none 0 0), (.slice none 0 0), .int .i64 0] 53 (0, 0))) ∧ Aside0 (w'.heap[gb184]? = some (.cells #[.int .i64 0, .int .i64 1, u185002, u185003, (.slice none 0 0), (.slice none 0 0), .int .i64 1] 53 (0, 0))) ∧ Aside0 (Below w.heap.size w w'))
      case atStart => exact ⟨(0), (([] : List Int)), (.slice none 0 0), (by first | rfl | (simp; done) | (simp [*]; done)), H', ⟨Nat.le_refl _⟩, ⟨by first | exact Kd.R_nil _ _ _ _ _ | exact Kd.N_nil _ _ _ _ _ | exact Kd.V_nil _ _ _ _ _ | exact Kd.Q_nil _ _ _ _ _ | exact Kd.S_nil _ _ _ _ _⟩, ⟨by (with_reducible repeat (first | apply Kd.S_alloc | apply Kd.S_drewN | apply Kd.S_drew)); exact Kd.S_mono HO_185003.out (fun _ hk => (by simp [Value.ownBlock]))⟩, ⟨by (with_reducible repeat (first | refine k0_ ?_ _ | refine k1_ ?_ | refine k2_ ?_ _)); exact BK178.out⟩, ⟨by (with_reducible repeat (first | refine k0_ ?_ _ | refine k1_ ?_ | refine k2_ ?_ _)); exact BK179.out⟩, ⟨by (with_reducible repeat (first | refine k0_ ?_ _ | refine k1_ ?_ | refine k2_ ?_ _)); exact BK184.out⟩, ⟨by repeat (first | (with_reducible first | exact HB.out | apply b0_ | apply b1_ | apply b2_ | refine below_set ?_ GE178.out | refine below_set ?_ GE179.out | refine below_set ?_ GE184.out) | exact HB.out)⟩⟩
      case round =>
       clear H'
       try clear c1
       try clear p1
       try clear q1
       try clear hx1
       try clear qi1
       try clear c2
       try clear p2
       try clear q2
       try clear hx2
       try clear hf2
       try clear c3
       try clear c3b0
       try clear c3b1
       try clear c4
       try clear c4b0
       try clear c4b1
       try clear p6
       try clear c7
       try clear c14
       try clear c15
       try clear c17
       try clear c17b0
       try clear c18
       try clear c18b0
       try clear c18b1
       try clear p18
       try clear q18
       try clear hx18
       try clear qi18
       try clear c19
       try clear p20
       try clear q20
       try clear c21
       try clear c22
       try clear c24
       try clear c26
       try clear c28
       try clear hx28
       try clear hf28
       try clear c31
       try clear c32
       try clear hcz16_0
       try clear hcz16_1
       try clear hcz16_2
       try clear hcz16_3
       try clear hcz16_4
       try clear hcz16_5
       try clear hcz16_6
       try clear hcz23_0
       try clear hcz23_1
       try clear hcz23_2
       try clear hcz23_3
       try clear hcz23_4
       try clear hcz33_0
       try clear hcz33_1
       try clear hcz33_2
       try clear hcz33_3
       try clear hcz33_4
       try clear hcz8_0
       try clear hcz8_1
       try clear hcz8_2
       try clear hcz8_3
       try clear hcz8_4
       try clear hfz16_0
       try clear hfz16_1
       try clear hfz16_2
       try clear hfz16_3
       try clear hfz16_4
       try clear hfz16_5
       try clear hfz16_6
       try clear hfz23_0
       try clear hfz23_1
       try clear hfz23_2
       try clear hfz23_3
       try clear hfz23_4
       try clear hfz33_0
       try clear hfz33_1
       try clear hfz33_2
       try clear hfz33_3
       try clear hfz33_4
       try clear hfz8_0
       try clear hfz8_1
       try clear hfz8_2
       try clear hfz8_3
       try clear hfz8_4
       try clear hx185_0
       try clear hx28_0
       try clear p185
       try clear p2
       try clear p20
       try clear q185
       try clear q20
       obtain ⟨x37_2, x185002_2, u185002, rfl, HA, HK2, HO_185002, HO_185003, BK178, BK179, BK184, HB⟩ := hrel
       cases gk with
       | zero => exact absurd HA.out (by simp [lift_Identity.l1])
       | succ k2 =>
        have H := HA.out
        clear HA
        simp only [lift_Identity.l1] at H
        by_cases c34 : x37_2 < (l0_1.length : Int)
        ·rw [if_pos c34] at H
         have c34b0 : decide (x37_2 < (l0_1.length : Int)) = true := decide_eq_true c34
         clear c34
         by_cases c35 : x185002_2.length < 17592186044416
         ·rw [if_pos c35] at H
          have LMc35 := M_ c35
          clear c35
          obtain ⟨y190, hy190⟩ : ∃ y_ : List Int, y_ = (x185002_2 ++ [wrap64 (2 * (wrap64 ((wrap64 (a0_0 + 1)) + x37_2)))]) := ⟨_, rfl⟩
          replace H : (lift_Identity.l1 k2 (l0_1.length : Int) (wrap64 (x37_2 + 1)) a0_0 l0_1 l0_2 l0_3 l0_4 0 1 y190 x185003_1 1) = some (r1, r2, r3, r4, r5, r6, r7, r8) := by first | (rw [hy190]; with_reducible exact H) | (have H2_ := (Option.bind_some _ _).symm.trans H; rw [hy190]; with_reducible exact H2_) | (have H2_ := (Option.bind_some _ _).symm.trans H; with_reducible exact H2_) | with_reducible exact H | (rw [hy190]; exact H) | exact H
          have Ny190 := M_ hy190
          clear hy190
          have H' := M_ H
          clear H
          have hnb36 := NB184_178.out
          have hnc36 := NB178_184.out
          have hnb37 := NB184_179.out
          have hnc37 := NB179_184.out
          have hcz38_0 : wr.cell? ⟨gb184, 0, none⟩ = some (.int .i64 0) := (blk_cell BK184.out 0).trans rfl
          have hcz38_1 : wr.cell? ⟨gb184, 1, none⟩ = some (.int .i64 1) := (blk_cell BK184.out 1).trans rfl
          have hcz38_2 : wr.cell? ⟨gb184, 2, none⟩ = some (u185002) := (blk_cell BK184.out 2).trans rfl
          have hcz38_3 : wr.cell? ⟨gb184, 3, none⟩ = some (u185003) := (blk_cell BK184.out 3).trans rfl
          have hcz38_4 : wr.cell? ⟨gb184, 4, none⟩ = some (.slice none 0 0) := (blk_cell BK184.out 4).trans rfl
          have hcz38_5 : wr.cell? ⟨gb184, 5, none⟩ = some (.slice none 0 0) := (blk_cell BK184.out 5).trans rfl
          have hcz38_6 : wr.cell? ⟨gb184, 6, none⟩ = some (.int .i64 1) := (blk_cell BK184.out 6).trans rfl
          have hfz38_0 := blk_frozen BK184.out 0
          have hfz38_1 := blk_frozen BK184.out 1
          have hfz38_2 := blk_frozen BK184.out 2
          have hfz38_3 := blk_frozen BK184.out 3
          have hfz38_4 := blk_frozen BK184.out 4
          have hfz38_5 := blk_frozen BK184.out 5
          have hfz38_6 := blk_frozen BK184.out 6
          have hnb39 := NB178_179.out
          have hnc39 := NB179_178.out
          have hcz40_0 : wr.cell? ⟨gb178, 0, none⟩ = some (.int .i64 a0_0) := (blk_cell BK178.out 0).trans rfl
          have hcz40_1 : wr.cell? ⟨gb178, 1, none⟩ = some (.slice A0_1 l0_1.length c0_1) := (blk_cell BK178.out 1).trans rfl
          have hcz40_2 : wr.cell? ⟨gb178, 2, none⟩ = some (.slice A0_2 l0_2.length c0_2) := (blk_cell BK178.out 2).trans rfl
          have hcz40_3 : wr.cell? ⟨gb178, 3, none⟩ = some (.slice A0_3 l0_3.length c0_3) := (blk_cell BK178.out 3).trans rfl
          have hcz40_4 : wr.cell? ⟨gb178, 4, none⟩ = some (.slice A0_4 l0_4.length c0_4) := (blk_cell BK178.out 4).trans rfl
          have hfz40_0 := blk_frozen BK178.out 0
          have hfz40_1 := blk_frozen BK178.out 1
          have hfz40_2 := blk_frozen BK178.out 2
          have hfz40_3 := blk_frozen BK178.out 3
          have hfz40_4 := blk_frozen BK178.out 4
          go_wp2_with (first | ((with_reducible refine gate_builtin (b := .append) (xs := #[.tmp 41, .tmp 48]) rfl ?_); at_builtin; refine Kd.R_append (Kd.int .i64) (w0 := w) w.heap.size rfl (.tmp 41) (.tmp 48) 24 3 (.int .i64 0) 8 rfl Try.underlying24 info3 rfl (by decide) (by omega) u185002 x185002_2 (wrap64 (2 * (wrap64 ((wrap64 (a0_0 + 1)) + x37_2)))) [.int .i64 (wrap64 (2 * (wrap64 ((wrap64 (a0_0 + 1)) + x37_2))))] (fun _ => True) (fun _ => False) rfl rfl ?aP (fun _ hk => hk.elim) ?aF ?aO ?aB ?aS ?aL ?_; (case aP => exact rfl); (case aB => exact (by repeat (first | (with_reducible first | exact HB.out | apply b0_ | apply b1_ | apply b2_ | refine below_set ?_ GE178.out | refine below_set ?_ GE179.out | refine below_set ?_ GE184.out) | exact HB.out))); (case aF => exact (fun _ _ => trivial)); (case aO => exact (by (with_reducible repeat (first | apply a0_ | apply a1_ | apply a2_)); exact HO_185002.out)); (case aS => exact (below_size (by repeat (first | (with_reducible first | exact HB.out | apply b0_ | apply b1_ | apply b2_ | refine below_set ?_ GE178.out | refine below_set ?_ GE179.out | refine below_set ?_ GE184.out) | exact HB.out)))); (case aL => have := LMc35.out; omega); intro v191 w41 ho hb hg hat; rw [← Ny190.out] at ho; have n0_ := M_ (Kd.S_after (ok := (fun _ => True)) (by (with_reducible repeat (first | apply Kd.S_alloc | apply Kd.S_drewN | apply Kd.S_drew)); exact Kd.S_mono HO_185003.out (fun _ hk => ⟨trivial, hk⟩)) hg hat); have n1_ := M_ (blk_grown (g := gb178) (o := .cells #[.int .i64 a0_0, .slice A0_1 l0_1.length c0_1, .slice A0_2 l0_2.length c0_2, .slice A0_3 l0_3.length c0_3, .slice A0_4 l0_4.length c0_4] 26 (0, 0)) (by (with_reducible repeat (first | refine k0_ ?_ _ | refine k1_ ?_ | refine k2_ ?_ _)); exact BK178.out) hg (Kd.R_ne HO_185002.out BK178.out (by decide))); have n2_ := M_ (blk_grown (g := gb179) (o := .cells #[.int .i64 0, .int .i64 0, .slice none 0 0, .slice none 0 0, .slice none 0 0, .slice none 0 0, .int .i64 0] 53 (0, 0)) (by (with_reducible repeat (first | refine k0_ ?_ _ | refine k1_ ?_ | refine k2_ ?_ _)); exact BK179.out) hg (Kd.R_ne HO_185002.out BK179.out (by decide))); have n3_ := M_ (blk_grown (g := gb184) (o := .cells #[.int .i64 0, .int .i64 1, u185002, u185003, .slice none 0 0, .slice none 0 0, .int .i64 1] 53 (0, 0)) (by (with_reducible repeat (first | refine k0_ ?_ _ | refine k1_ ?_ | refine k2_ ?_ _)); exact BK184.out) hg (Kd.R_ne HO_185002.out BK184.out (by decide))); have n4_ := M_ (hb); have n5_ := M_ (ho); clear HO_185003; clear BK178; clear BK179; clear BK184; clear HB; clear HO_185002; have HO_185003 := n0_; have BK178 := n1_; have BK179 := n2_; have BK184 := n3_; have HB := n4_; have HO192 := n5_; clear n0_ n1_ n2_ n3_ n4_ n5_; clear ho hb hg hat; obtain ⟨Ao42, co42, eo42⟩ := Kd.R_slice HO192.out; subst eo42; have hcz43_0 : w41.cell? ⟨gb184, 0, none⟩ = some (.int .i64 0) := (blk_cell BK184.out 0).trans rfl; have hcz43_1 : w41.cell? ⟨gb184, 1, none⟩ = some (.int .i64 1) := (blk_cell BK184.out 1).trans rfl; have hcz43_2 : w41.cell? ⟨gb184, 2, none⟩ = some (u185002) := (blk_cell BK184.out 2).trans rfl; have hcz43_3 : w41.cell? ⟨gb184, 3, none⟩ = some (u185003) := (blk_cell BK184.out 3).trans rfl; have hcz43_4 : w41.cell? ⟨gb184, 4, none⟩ = some (.slice none 0 0) := (blk_cell BK184.out 4).trans rfl; have hcz43_5 : w41.cell? ⟨gb184, 5, none⟩ = some (.slice none 0 0) := (blk_cell BK184.out 5).trans rfl; have hcz43_6 : w41.cell? ⟨gb184, 6, none⟩ = some (.int .i64 1) := (blk_cell BK184.out 6).trans rfl; have hfz43_0 := blk_frozen BK184.out 0; have hfz43_1 := blk_frozen BK184.out 1; have hfz43_2 := blk_frozen BK184.out 2; have hfz43_3 := blk_frozen BK184.out 3; have hfz43_4 := blk_frozen BK184.out 4; have hfz43_5 := blk_frozen BK184.out 5; have hfz43_6 := blk_frozen BK184.out 6))
          go_roundg k2
          case measure => have := HK1.out; have := HK2.out; omega
          case rel => exact ⟨(wrap64 (x37_2 + 1)), (y190), (.slice Ao42 y190.length co42), (by first | rfl | (simp; done) | (simp [*]; done)), H', ⟨by have := HK1.out; have := HK2.out; omega⟩, ⟨by (with_reducible repeat (first | apply a0_ | apply a1_ | apply a2_)); exact Kd.R_mono (Kd.R_far (p := ⟨gb184, 2, none⟩) (Kd.R_types HO192.out BK184.out (by decide)) (fun _ hk => hk.2) (.slice Ao42 y190.length co42)) (fun _ hk => trivial)⟩, ⟨by (with_reducible repeat (first | apply Kd.S_alloc | apply Kd.S_drewN | apply Kd.S_drew)); exact Kd.S_mono (Kd.S_far (p := ⟨gb184, 2, none⟩) (Kd.S_types HO_185003.out BK184.out (by decide)) (fun _ hk => hk.2) (.slice Ao42 y190.length co42)) (fun _ hk => hk.1.2)⟩, ⟨by (with_reducible repeat (first | refine k0_ ?_ _ | refine k1_ ?_ | refine k2_ ?_ _)); refine blk_far ?_ NB178_184.out _; (with_reducible repeat (first | refine k0_ ?_ _ | refine k1_ ?_ | refine k2_ ?_ _)); exact BK178.out⟩, ⟨by (with_reducible repeat (first | refine k0_ ?_ _ | refine k1_ ?_ | refine k2_ ?_ _)); refine blk_far ?_ NB179_184.out _; (with_reducible repeat (first | refine k0_ ?_ _ | refine k1_ ?_ | refine k2_ ?_ _)); exact BK179.out⟩, ⟨by (with_reducible repeat (first | refine k0_ ?_ _ | refine k1_ ?_ | refine k2_ ?_ _)); refine blk_put (cs := #[.int .i64 0, .int .i64 1, u185002, u185003, .slice none 0 0, .slice none 0 0, .int .i64 1]) ?_ 2 _ rfl; (with_reducible repeat (first | refine k0_ ?_ _ | refine k1_ ?_ | refine k2_ ?_ _)); exact BK184.out⟩, ⟨by repeat (first | (with_reducible first | exact HB.out | apply b0_ | apply b1_ | apply b2_ | refine below_set ?_ GE178.out | refine below_set ?_ GE179.out | refine below_set ?_ GE184.out) | exact HB.out)⟩⟩
         ·rw [if_neg c35] at H
          exact absurd H (by simp)
        ·rw [if_neg c34] at H
         have c34b0 : decide (x37_2 < (l0_1.length : Int)) = false := decide_eq_false c34
         clear c34
         replace H := Option.bind_eq_some_iff.mp H
         obtain ⟨t193, A440, H⟩ := H
         replace H : (some (0, 1, x185002_2, x185003_1, t193, ([] : List (S67)), 1, 0)) = some (r1, r2, r3, r4, r5, r6, r7, r8) := H
         have A44 := M_ A440
         clear A440
         simp only [Option.some.injEq, Prod.mk.injEq] at H
         obtain ⟨rfl, rfl, rfl, rfl, rfl, rfl, rfl, rfl⟩ := H
         have hnb45 := NB184_178.out
         have hnc45 := NB178_184.out
         have hnb46 := NB184_179.out
         have hnc46 := NB179_184.out
         have hcz47_0 : wr.cell? ⟨gb184, 0, none⟩ = some (.int .i64 0) := (blk_cell BK184.out 0).trans rfl
         have hcz47_1 : wr.cell? ⟨gb184, 1, none⟩ = some (.int .i64 1) := (blk_cell BK184.out 1).trans rfl
         have hcz47_2 : wr.cell? ⟨gb184, 2, none⟩ = some (u185002) := (blk_cell BK184.out 2).trans rfl
         have hcz47_3 : wr.cell? ⟨gb184, 3, none⟩ = some (u185003) := (blk_cell BK184.out 3).trans rfl
         have hcz47_4 : wr.cell? ⟨gb184, 4, none⟩ = some (.slice none 0 0) := (blk_cell BK184.out 4).trans rfl
         have hcz47_5 : wr.cell? ⟨gb184, 5, none⟩ = some (.slice none 0 0) := (blk_cell BK184.out 5).trans rfl
         have hcz47_6 : wr.cell? ⟨gb184, 6, none⟩ = some (.int .i64 1) := (blk_cell BK184.out 6).trans rfl
         have hfz47_0 := blk_frozen BK184.out 0
         have hfz47_1 := blk_frozen BK184.out 1
         have hfz47_2 := blk_frozen BK184.out 2
         have hfz47_3 := blk_frozen BK184.out 3
         have hfz47_4 := blk_frozen BK184.out 4
         have hfz47_5 := blk_frozen BK184.out 5
         have hfz47_6 := blk_frozen BK184.out 6
         obtain ⟨Ao48, co48, eo48⟩ := Kd.R_slice HO_185002.out
         subst eo48
         go_wp2_with (first | ((with_reducible refine gate_callee (f := 59) rfl ?_); refine goesL_ (some 54) rfl rfl Try.func59 (by kernel_rfl) rfl #[.slice Ao48 x185002_2.length co48] rfl (by (try simp only [List.map_toArray, List.map_cons, List.map_nil]); first | done | rfl) ?_; (with_reducible refine (slices_Clone_int_int.calls _ _ x185002_2 t193 _ ?side1 ?side2 A44.out).mono ?_); (case side1 => repeat (first | exact (Kd.R_reads' HO_185002.out).2.2 | (with_reducible refine c0_ ?_ _) | (with_reducible refine c1_ ?_ _) | (with_reducible refine c2_ ?_))); (case side2 => exact (Kd.R_reads' HO_185002.out).2.1); rintro e w49 ⟨v194, rfl, ho0, hb⟩; refine ⟨_, rfl, ?_⟩; have n0_ := M_ (Kd.R_elder' (by (with_reducible repeat (first | apply a0_ | apply a1_ | apply a2_)); exact HO_185002.out) (Kd.R_base ho0) hb); have n1_ := M_ (Kd.S_elder' (by (with_reducible repeat (first | apply Kd.S_alloc | apply Kd.S_drewN | apply Kd.S_drew)); exact HO_185003.out) (Kd.R_base ho0) hb); have n2_ := M_ (Kd.R_lower (Kd.R_new' ho0 (Kd.R_lt (by (with_reducible repeat (first | apply a0_ | apply a1_ | apply a2_)); exact HO_185002.out))) (below_size (by repeat (first | (with_reducible first | exact HB.out | apply b0_ | apply b1_ | apply b2_ | refine below_set ?_ GE178.out | refine below_set ?_ GE179.out | refine below_set ?_ GE184.out) | exact HB.out)))); have n3_ := M_ (blk_below (g := gb178) (o := .cells #[.int .i64 a0_0, .slice A0_1 l0_1.length c0_1, .slice A0_2 l0_2.length c0_2, .slice A0_3 l0_3.length c0_3, .slice A0_4 l0_4.length c0_4] 26 (0, 0)) (by (with_reducible repeat (first | refine k0_ ?_ _ | refine k1_ ?_ | refine k2_ ?_ _)); exact BK178.out) hb); have n4_ := M_ (blk_below (g := gb179) (o := .cells #[.int .i64 0, .int .i64 0, .slice none 0 0, .slice none 0 0, .slice none 0 0, .slice none 0 0, .int .i64 0] 53 (0, 0)) (by (with_reducible repeat (first | refine k0_ ?_ _ | refine k1_ ?_ | refine k2_ ?_ _)); exact BK179.out) hb); have n5_ := M_ (blk_below (g := gb184) (o := .cells #[.int .i64 0, .int .i64 1, .slice Ao48 x185002_2.length co48, u185003, .slice none 0 0, .slice none 0 0, .int .i64 1] 53 (0, 0)) (by (with_reducible repeat (first | refine k0_ ?_ _ | refine k1_ ?_ | refine k2_ ?_ _)); exact BK184.out) hb); have n6_ := M_ (below_step (by repeat (first | (with_reducible first | exact HB.out | apply b0_ | apply b1_ | apply b2_ | refine below_set ?_ GE178.out | refine below_set ?_ GE179.out | refine below_set ?_ GE184.out) | exact HB.out)) hb); clear HO_185002; clear HO_185003; clear BK178; clear BK179; clear BK184; clear HB; have HO_185002 := n0_; have HO_185003 := n1_; have HO195 := n2_; have BK178 := n3_; have BK179 := n4_; have BK184 := n5_; have HB := n6_; clear n0_ n1_ n2_ n3_ n4_ n5_ n6_; (try clear hb); (try clear hb2); (try clear hk); (try clear hi); (try clear ho0); obtain ⟨Ao50, co50, eo50⟩ := Kd.R_slice HO195.out; subst eo50; have hcz51_0 : w49.cell? ⟨gb184, 0, none⟩ = some (.int .i64 0) := (blk_cell BK184.out 0).trans rfl; have hcz51_1 : w49.cell? ⟨gb184, 1, none⟩ = some (.int .i64 1) := (blk_cell BK184.out 1).trans rfl; have hcz51_2 : w49.cell? ⟨gb184, 2, none⟩ = some (.slice Ao48 x185002_2.length co48) := (blk_cell BK184.out 2).trans rfl; have hcz51_3 : w49.cell? ⟨gb184, 3, none⟩ = some (u185003) := (blk_cell BK184.out 3).trans rfl; have hcz51_4 : w49.cell? ⟨gb184, 4, none⟩ = some (.slice none 0 0) := (blk_cell BK184.out 4).trans rfl; have hcz51_5 : w49.cell? ⟨gb184, 5, none⟩ = some (.slice none 0 0) := (blk_cell BK184.out 5).trans rfl; have hcz51_6 : w49.cell? ⟨gb184, 6, none⟩ = some (.int .i64 1) := (blk_cell BK184.out 6).trans rfl; have hfz51_0 := blk_frozen BK184.out 0; have hfz51_1 := blk_frozen BK184.out 1; have hfz51_2 := blk_frozen BK184.out 2; have hfz51_3 := blk_frozen BK184.out 3; have hfz51_4 := blk_frozen BK184.out 4; have hfz51_5 := blk_frozen BK184.out 5; have hfz51_6 := blk_frozen BK184.out 6; have hnb52 := NB179_178.out; have hnc52 := NB178_179.out; have hcz53_0 : w49.cell? ⟨gb179, 0, none⟩ = some (.int .i64 0) := (blk_cell BK179.out 0).trans rfl; have hcz53_1 : w49.cell? ⟨gb179, 1, none⟩ = some (.int .i64 0) := (blk_cell BK179.out 1).trans rfl; have hcz53_2 : w49.cell? ⟨gb179, 2, none⟩ = some (.slice none 0 0) := (blk_cell BK179.out 2).trans rfl; have hcz53_3 : w49.cell? ⟨gb179, 3, none⟩ = some (.slice none 0 0) := (blk_cell BK179.out 3).trans rfl; have hcz53_4 : w49.cell? ⟨gb179, 4, none⟩ = some (.slice none 0 0) := (blk_cell BK179.out 4).trans rfl; have hcz53_5 : w49.cell? ⟨gb179, 5, none⟩ = some (.slice none 0 0) := (blk_cell BK179.out 5).trans rfl; have hcz53_6 : w49.cell? ⟨gb179, 6, none⟩ = some (.int .i64 0) := (blk_cell BK179.out 6).trans rfl; have hfz53_0 := blk_frozen BK179.out 0; have hfz53_1 := blk_frozen BK179.out 1; have hfz53_2 := blk_frozen BK179.out 2; have hfz53_3 := blk_frozen BK179.out 3; have hfz53_4 := blk_frozen BK179.out 4; have hfz53_5 := blk_frozen BK179.out 5; have hfz53_6 := blk_frozen BK179.out 6; obtain ⟨Ao54, co54, eo54⟩ := Kd.S_slice HO_185003.out; subst eo54))
         refine bodyPost_ret (results_ct rfl _ _ gb179 53 #[.int .i64 0, .int .i64 1, .slice Ao48 x185002_2.length co48, .slice Ao54 x185003_1.length co54, .slice Ao50 t193.length co50, .slice none 0 0, .int .i64 1] (0, 0) _ rfl (by (with_reducible repeat (first | refine k0_ ?_ _ | refine k1_ ?_ | refine k2_ ?_ _)); refine blk_put (cs := #[.int .i64 0, .int .i64 1, .slice Ao48 x185002_2.length co48, .slice Ao54 x185003_1.length co54, .slice Ao50 t193.length co50, .slice none 0 0, .int .i64 0]) ?_ 6 _ rfl; (with_reducible repeat (first | refine k0_ ?_ _ | refine k1_ ?_ | refine k2_ ?_ _)); refine blk_put (cs := #[.int .i64 0, .int .i64 1, .slice Ao48 x185002_2.length co48, .slice Ao54 x185003_1.length co54, .slice Ao50 t193.length co50, .slice none 0 0, .int .i64 0]) ?_ 5 _ rfl; (with_reducible repeat (first | refine k0_ ?_ _ | refine k1_ ?_ | refine k2_ ?_ _)); refine blk_put (cs := #[.int .i64 0, .int .i64 1, .slice Ao48 x185002_2.length co48, .slice Ao54 x185003_1.length co54, .slice none 0 0, .slice none 0 0, .int .i64 0]) ?_ 4 _ rfl; (with_reducible repeat (first | refine k0_ ?_ _ | refine k1_ ?_ | refine k2_ ?_ _)); refine blk_put (cs := #[.int .i64 0, .int .i64 1, .slice Ao48 x185002_2.length co48, .slice none 0 0, .slice none 0 0, .slice none 0 0, .int .i64 0]) ?_ 3 _ rfl; (with_reducible repeat (first | refine k0_ ?_ _ | refine k1_ ?_ | refine k2_ ?_ _)); refine blk_put (cs := #[.int .i64 0, .int .i64 1, .slice none 0 0, .slice none 0 0, .slice none 0 0, .slice none 0 0, .int .i64 0]) ?_ 2 _ rfl; (with_reducible repeat (first | refine k0_ ?_ _ | refine k1_ ?_ | refine k2_ ?_ _)); refine blk_put (cs := #[.int .i64 0, .int .i64 0, .slice none 0 0, .slice none 0 0, .slice none 0 0, .slice none 0 0, .int .i64 0]) ?_ 1 _ rfl; (with_reducible repeat (first | refine k0_ ?_ _ | refine k1_ ?_ | refine k2_ ?_ _)); refine blk_put (cs := #[.int .i64 0, .int .i64 0, .slice none 0 0, .slice none 0 0, .slice none 0 0, .slice none 0 0, .int .i64 0]) ?_ 0 _ rfl; (with_reducible repeat (first | refine k0_ ?_ _ | refine k1_ ?_ | refine k2_ ?_ _)); refine blk_far ?_ NB179_184.out _; (with_reducible repeat (first | refine k0_ ?_ _ | refine k1_ ?_ | refine k2_ ?_ _)); exact BK179.out) Try.underlying53 rfl (by kernel_rfl)) rfl ?_
         exact ⟨_, _, _, _, by first | rfl | (simp [errW_none, errW_some] <;> rfl) | (simp [*, errW_none, errW_some] <;> rfl), by (with_reducible repeat (first | apply a0_ | apply a1_ | apply a2_)); exact Kd.R_mono (Kd.R_far (p := ⟨gb179, 6, none⟩) (Kd.R_far (p := ⟨gb179, 5, none⟩) (Kd.R_far (p := ⟨gb179, 4, none⟩) (Kd.R_far (p := ⟨gb179, 3, none⟩) (Kd.R_far (p := ⟨gb179, 2, none⟩) (Kd.R_far (p := ⟨gb179, 1, none⟩) (Kd.R_far (p := ⟨gb179, 0, none⟩) (Kd.R_far (p := ⟨gb184, 4, none⟩) (Kd.R_types (Kd.R_types HO_185002.out BK184.out (by decide)) BK179.out (by decide)) (fun _ hk => hk.1.2) (.slice Ao50 t193.length co50)) (fun _ hk => hk.2) (.int .i64 0)) (fun _ hk => hk.2) (.int .i64 1)) (fun _ hk => hk.2) (.slice Ao48 x185002_2.length co48)) (fun _ hk => hk.2) (.slice Ao54 x185003_1.length co54)) (fun _ hk => hk.2) (.slice Ao50 t193.length co50)) (fun _ hk => hk.2) (.slice none 0 0)) (fun _ hk => hk.2) (.int .i64 1)) (fun _ hk => hk.1.1.2), by (with_reducible repeat (first | apply Kd.S_alloc | apply Kd.S_drewN | apply Kd.S_drew)); exact Kd.S_mono (Kd.S_far (p := ⟨gb179, 6, none⟩) (Kd.S_far (p := ⟨gb179, 5, none⟩) (Kd.S_far (p := ⟨gb179, 4, none⟩) (Kd.S_far (p := ⟨gb179, 3, none⟩) (Kd.S_far (p := ⟨gb179, 2, none⟩) (Kd.S_far (p := ⟨gb179, 1, none⟩) (Kd.S_far (p := ⟨gb179, 0, none⟩) (Kd.S_far (p := ⟨gb184, 4, none⟩) (Kd.S_types (Kd.S_types HO_185003.out BK184.out (by decide)) BK179.out (by decide)) (fun _ hk => hk.1.2) (.slice Ao50 t193.length co50)) (fun _ hk => hk.2) (.int .i64 0)) (fun _ hk => hk.2) (.int .i64 1)) (fun _ hk => hk.2) (.slice Ao48 x185002_2.length co48)) (fun _ hk => hk.2) (.slice Ao54 x185003_1.length co54)) (fun _ hk => hk.2) (.slice Ao50 t193.length co50)) (fun _ hk => hk.2) (.slice none 0 0)) (fun _ hk => hk.2) (.int .i64 1)) (fun _ hk => ⟨hk.1.1.1, hk.1.1.2⟩), by (with_reducible repeat (first | apply a0_ | apply a1_ | apply a2_)); exact Kd.R_mono (Kd.R_far (p := ⟨gb179, 6, none⟩) (Kd.R_far (p := ⟨gb179, 5, none⟩) (Kd.R_far (p := ⟨gb179, 4, none⟩) (Kd.R_far (p := ⟨gb179, 3, none⟩) (Kd.R_far (p := ⟨gb179, 2, none⟩) (Kd.R_far (p := ⟨gb179, 1, none⟩) (Kd.R_far (p := ⟨gb179, 0, none⟩) (Kd.R_far (p := ⟨gb184, 4, none⟩) (Kd.R_types (Kd.R_types HO195.out BK184.out (by decide)) BK179.out (by decide)) (fun _ hk => hk.1.2) (.slice Ao50 t193.length co50)) (fun _ hk => hk.2) (.int .i64 0)) (fun _ hk => hk.2) (.int .i64 1)) (fun _ hk => hk.2) (.slice Ao48 x185002_2.length co48)) (fun _ hk => hk.2) (.slice Ao54 x185003_1.length co54)) (fun _ hk => hk.2) (.slice Ao50 t193.length co50)) (fun _ hk => hk.2) (.slice none 0 0)) (fun _ hk => hk.2) (.int .i64 1)) (fun _ hk => hk.1.1.2), by first | exact Kd.R_nil _ _ _ _ _ | exact Kd.N_nil _ _ _ _ _ | exact Kd.V_nil _ _ _ _ _ | exact Kd.Q_nil _ _ _ _ _ | exact Kd.S_nil _ _ _ _ _, by repeat (first | (with_reducible first | exact HB.out | apply b0_ | apply b1_ | apply b2_ | refine below_set ?_ GE178.out | refine below_set ?_ GE179.out | refine below_set ?_ GE184.out) | exact HB.out)⟩
  ·rw [if_neg c4] at H
   exact absurd H (by simp)
 ·rw [if_neg c3] at H
  have c3b0 : (t180 == 0) = false := beq_eq_false_iff_ne.mpr c3
  have c3b1 : (t180 != 0) = true := bne_iff_ne.mpr c3
  simp only [Option.some.injEq, Prod.mk.injEq] at H
  obtain ⟨rfl, rfl, rfl, rfl, rfl, rfl, rfl, rfl⟩ := H
  go_enter Try.func41, Try.ntmps41
  go_wp2_with (first | ((with_reducible refine gate_dst (N := 1) rfl ?_); refine box_event ?hg (N := 1) ?hd (cs := #[.int .i64 a0_0, .slice A0_1 l0_1.length c0_1, .slice A0_2 l0_2.length c0_2, .slice A0_3 l0_3.length c0_3, .slice A0_4 l0_4.length c0_4]) (t := 26) ?hr ?_; (case hd => rfl); (case hg => rfl); (case hr => first | (go_simp; done) | (go_simp; rfl)); intro gb178 hg w55 hbox hb; have n0_ := M_ (below_step (by repeat (first | (with_reducible first | exact HB.out | apply b0_ | apply b1_ | apply b2_) | exact HB.out)) hb); have n1_ := M_ (hbox); have n2_ := M_ ((by rw [hg]; exact (below_size (by repeat (first | (with_reducible first | exact HB.out | apply b0_ | apply b1_ | apply b2_) | exact HB.out))) : w.heap.size ≤ gb178)); have n3_ := M_ ((by rw [hg]; exact (below_size (by repeat (first | (with_reducible first | exact HB.out | apply b0_ | apply b1_ | apply b2_) | exact HB.out))) : w.heap.size ≤ gb178)); clear HB; have HB := n0_; have BK178 := n1_; have GW178 := n2_; have GE178 := n3_; clear n0_ n1_ n2_ n3_; clear hb hbox hg) | ((with_reducible refine gate_dst (N := 2) rfl ?_); refine box_event ?hg (N := 2) ?hd (cs := #[.int .i64 0, .int .i64 0, .slice none 0 0, .slice none 0 0, .slice none 0 0, .slice none 0 0, .int .i64 0]) (t := 53) ?hr ?_; (case hd => rfl); (case hg => rfl); (case hr => first | (go_simp; done) | (go_simp; rfl)); intro gb179 hg w56 hbox hb; have n0_ := M_ (blk_below (g := gb178) (o := .cells #[.int .i64 a0_0, .slice A0_1 l0_1.length c0_1, .slice A0_2 l0_2.length c0_2, .slice A0_3 l0_3.length c0_3, .slice A0_4 l0_4.length c0_4] 26 (0, 0)) (by (with_reducible repeat (first | refine k0_ ?_ _ | refine k1_ ?_ | refine k2_ ?_ _)); exact BK178.out) hb); have n1_ := M_ (below_step (by repeat (first | (with_reducible first | exact HB.out | apply b0_ | apply b1_ | apply b2_ | refine below_set ?_ GE178.out) | exact HB.out)) hb); have n2_ := M_ (hbox); have n3_ := M_ ((by rw [hg]; exact (below_size (by repeat (first | (with_reducible first | exact HB.out | apply b0_ | apply b1_ | apply b2_ | refine below_set ?_ GE178.out) | exact HB.out))) : w.heap.size ≤ gb179)); have n4_ := M_ ((by rw [hg]; exact (below_size (by repeat (first | (with_reducible first | exact HB.out | apply b0_ | apply b1_ | apply b2_ | refine below_set ?_ GE178.out) | exact HB.out))) : w.heap.size ≤ gb179)); have n5_ := M_ ((by rw [hg]; exact Nat.ne_of_lt (blk_lt (g := gb178) (o := .cells #[.int .i64 a0_0, .slice A0_1 l0_1.length c0_1, .slice A0_2 l0_2.length c0_2, .slice A0_3 l0_3.length c0_3, .slice A0_4 l0_4.length c0_4] 26 (0, 0)) (by (with_reducible repeat (first | refine k0_ ?_ _ | refine k1_ ?_ | refine k2_ ?_ _)); exact BK178.out)) : gb178 ≠ gb179)); have n6_ := M_ ((by rw [hg]; exact Nat.ne_of_gt (blk_lt (g := gb178) (o := .cells #[.int .i64 a0_0, .slice A0_1 l0_1.length c0_1, .slice A0_2 l0_2.length c0_2, .slice A0_3 l0_3.length c0_3, .slice A0_4 l0_4.length c0_4] 26 (0, 0)) (by (with_reducible repeat (first | refine k0_ ?_ _ | refine k1_ ?_ | refine k2_ ?_ _)); exact BK178.out)) : gb179 ≠ gb178)); clear BK178; clear HB; have BK178 := n0_; have HB := n1_; have BK179 := n2_; have GW179 := n3_; have GE179 := n4_; have NB178_179 := n5_; have NB179_178 := n6_; clear n0_ n1_ n2_ n3_ n4_ n5_ n6_; clear hb hbox hg; have hnb57 := NB178_179.out; have hnc57 := NB179_178.out; have hcz58_0 : w56.cell? ⟨gb178, 0, none⟩ = some (.int .i64 a0_0) := (blk_cell BK178.out 0).trans rfl; have hcz58_1 : w56.cell? ⟨gb178, 1, none⟩ = some (.slice A0_1 l0_1.length c0_1) := (blk_cell BK178.out 1).trans rfl; have hcz58_2 : w56.cell? ⟨gb178, 2, none⟩ = some (.slice A0_2 l0_2.length c0_2) := (blk_cell BK178.out 2).trans rfl; have hcz58_3 : w56.cell? ⟨gb178, 3, none⟩ = some (.slice A0_3 l0_3.length c0_3) := (blk_cell BK178.out 3).trans rfl; have hcz58_4 : w56.cell? ⟨gb178, 4, none⟩ = some (.slice A0_4 l0_4.length c0_4) := (blk_cell BK178.out 4).trans rfl; have hfz58_0 := blk_frozen BK178.out 0; have hfz58_1 := blk_frozen BK178.out 1; have hfz58_2 := blk_frozen BK178.out 2; have hfz58_3 := blk_frozen BK178.out 3; have hfz58_4 := blk_frozen BK178.out 4) | ((with_reducible refine gate_callee (f := 24) rfl ?_); refine goesL_ (some 9) rfl rfl Try.func24 (by kernel_rfl) rfl #[.agg #[.int .i64 a0_0, .slice A0_1 l0_1.length c0_1, .slice A0_2 l0_2.length c0_2, .slice A0_3 l0_3.length c0_3, .slice A0_4 l0_4.length c0_4]] rfl (by (try simp only [List.map_toArray, List.map_cons, List.map_nil]); first | done | rfl) ?_; (with_reducible refine (gates_Check.calls a0_0 _ _ l0_1 _ _ l0_2 _ _ l0_3 _ _ l0_4 t180 _ ?side1 ?side2 ?side3 ?side4 ?side5 ?side6 ?side7 ?side8 A2.out).mono ?_); (case side1 => repeat (first | exact (Kd.C_below HR0_1.out HB.out) | (with_reducible refine c0_ ?_ _) | (with_reducible refine c1_ ?_ _) | (with_reducible refine c2_ ?_))); (case side2 => exact HC0_1.out); (case side3 => repeat (first | exact (Kd.C_below HR0_2.out HB.out) | (with_reducible refine c0_ ?_ _) | (with_reducible refine c1_ ?_ _) | (with_reducible refine c2_ ?_))); (case side4 => exact HC0_2.out); (case side5 => repeat (first | exact (Kd.C_below HR0_3.out HB.out) | (with_reducible refine c0_ ?_ _) | (with_reducible refine c1_ ?_ _) | (with_reducible refine c2_ ?_))); (case side6 => exact HC0_3.out); (case side7 => repeat (first | exact (Kd.C_below HR0_4.out HB.out) | (with_reducible refine c0_ ?_ _) | (with_reducible refine c1_ ?_ _) | (with_reducible refine c2_ ?_))); (case side8 => exact HC0_4.out); rintro e w59 ⟨rfl, hb⟩; refine ⟨_, rfl, ?_⟩; have n0_ := M_ (blk_below (g := gb178) (o := .cells #[.int .i64 a0_0, .slice A0_1 l0_1.length c0_1, .slice A0_2 l0_2.length c0_2, .slice A0_3 l0_3.length c0_3, .slice A0_4 l0_4.length c0_4] 26 (0, 0)) (by (with_reducible repeat (first | refine k0_ ?_ _ | refine k1_ ?_ | refine k2_ ?_ _)); exact BK178.out) hb); have n1_ := M_ (blk_below (g := gb179) (o := .cells #[.int .i64 0, .int .i64 0, .slice none 0 0, .slice none 0 0, .slice none 0 0, .slice none 0 0, .int .i64 0] 53 (0, 0)) (by (with_reducible repeat (first | refine k0_ ?_ _ | refine k1_ ?_ | refine k2_ ?_ _)); exact BK179.out) hb); have n2_ := M_ (below_step (by repeat (first | (with_reducible first | exact HB.out | apply b0_ | apply b1_ | apply b2_ | refine below_set ?_ GE178.out | refine below_set ?_ GE179.out) | exact HB.out)) hb); clear BK178; clear BK179; clear HB; have BK178 := n0_; have BK179 := n1_; have HB := n2_; clear n0_ n1_ n2_; (try clear hb); (try clear hb2); (try clear hk); (try clear hi); have hcz60_0 : w59.cell? ⟨gb179, 0, none⟩ = some (.int .i64 0) := (blk_cell BK179.out 0).trans rfl; have hcz60_1 : w59.cell? ⟨gb179, 1, none⟩ = some (.int .i64 0) := (blk_cell BK179.out 1).trans rfl; have hcz60_2 : w59.cell? ⟨gb179, 2, none⟩ = some (.slice none 0 0) := (blk_cell BK179.out 2).trans rfl; have hcz60_3 : w59.cell? ⟨gb179, 3, none⟩ = some (.slice none 0 0) := (blk_cell BK179.out 3).trans rfl; have hcz60_4 : w59.cell? ⟨gb179, 4, none⟩ = some (.slice none 0 0) := (blk_cell BK179.out 4).trans rfl; have hcz60_5 : w59.cell? ⟨gb179, 5, none⟩ = some (.slice none 0 0) := (blk_cell BK179.out 5).trans rfl; have hcz60_6 : w59.cell? ⟨gb179, 6, none⟩ = some (.int .i64 0) := (blk_cell BK179.out 6).trans rfl; have hfz60_0 := blk_frozen BK179.out 0; have hfz60_1 := blk_frozen BK179.out 1; have hfz60_2 := blk_frozen BK179.out 2; have hfz60_3 := blk_frozen BK179.out 3; have hfz60_4 := blk_frozen BK179.out 4; have hfz60_5 := blk_frozen BK179.out 5; have hfz60_6 := blk_frozen BK179.out 6))
  refine bodyPost_ret (results_ct rfl _ _ gb179 53 #[.int .i64 0, .int .i64 0, .slice none 0 0, .slice none 0 0, .slice none 0 0, .slice none 0 0, .int .i64 0] (0, 0) _ rfl (by (with_reducible repeat (first | refine k0_ ?_ _ | refine k1_ ?_ | refine k2_ ?_ _)); refine blk_put (cs := #[.int .i64 0, .int .i64 0, .slice none 0 0, .slice none 0 0, .slice none 0 0, .slice none 0 0, .int .i64 0]) ?_ 6 _ rfl; (with_reducible repeat (first | refine k0_ ?_ _ | refine k1_ ?_ | refine k2_ ?_ _)); refine blk_put (cs := #[.int .i64 0, .int .i64 0, .slice none 0 0, .slice none 0 0, .slice none 0 0, .slice none 0 0, .int .i64 0]) ?_ 5 _ rfl; (with_reducible repeat (first | refine k0_ ?_ _ | refine k1_ ?_ | refine k2_ ?_ _)); refine blk_put (cs := #[.int .i64 0, .int .i64 0, .slice none 0 0, .slice none 0 0, .slice none 0 0, .slice none 0 0, .int .i64 0]) ?_ 4 _ rfl; (with_reducible repeat (first | refine k0_ ?_ _ | refine k1_ ?_ | refine k2_ ?_ _)); refine blk_put (cs := #[.int .i64 0, .int .i64 0, .slice none 0 0, .slice none 0 0, .slice none 0 0, .slice none 0 0, .int .i64 0]) ?_ 3 _ rfl; (with_reducible repeat (first | refine k0_ ?_ _ | refine k1_ ?_ | refine k2_ ?_ _)); refine blk_put (cs := #[.int .i64 0, .int .i64 0, .slice none 0 0, .slice none 0 0, .slice none 0 0, .slice none 0 0, .int .i64 0]) ?_ 2 _ rfl; (with_reducible repeat (first | refine k0_ ?_ _ | refine k1_ ?_ | refine k2_ ?_ _)); refine blk_put (cs := #[.int .i64 0, .int .i64 0, .slice none 0 0, .slice none 0 0, .slice none 0 0, .slice none 0 0, .int .i64 0]) ?_ 1 _ rfl; (with_reducible repeat (first | refine k0_ ?_ _ | refine k1_ ?_ | refine k2_ ?_ _)); refine blk_put (cs := #[.int .i64 0, .int .i64 0, .slice none 0 0, .slice none 0 0, .slice none 0 0, .slice none 0 0, .int .i64 0]) ?_ 0 _ rfl; (with_reducible repeat (first | refine k0_ ?_ _ | refine k1_ ?_ | refine k2_ ?_ _)); exact BK179.out) Try.underlying53 rfl (by kernel_rfl)) rfl ?_
  exact ⟨_, _, _, _, by first | rfl | (simp [errW_none, errW_some] <;> rfl) | (simp [*, errW_none, errW_some] <;> rfl), by first | exact Kd.R_nil _ _ _ _ _ | exact Kd.N_nil _ _ _ _ _ | exact Kd.V_nil _ _ _ _ _ | exact Kd.Q_nil _ _ _ _ _ | exact Kd.S_nil _ _ _ _ _, by first | exact Kd.S_nil _ _ _ _ _ | exact Kd.N_nil _ _ _ _ _ | exact Kd.V_nil _ _ _ _ _ | exact Kd.Q_nil _ _ _ _ _ | exact Kd.R_nil _ _ _ _ _, by first | exact Kd.R_nil _ _ _ _ _ | exact Kd.N_nil _ _ _ _ _ | exact Kd.V_nil _ _ _ _ _ | exact Kd.Q_nil _ _ _ _ _ | exact Kd.S_nil _ _ _ _ _, by first | exact Kd.R_nil _ _ _ _ _ | exact Kd.N_nil _ _ _ _ _ | exact Kd.V_nil _ _ _ _ _ | exact Kd.Q_nil _ _ _ _ _ | exact Kd.S_nil _ _ _ _ _, by repeat (first | (with_reducible first | exact HB.out | apply b0_ | apply b1_ | apply b2_ | refine below_set ?_ GE178.out | refine below_set ?_ GE179.out) | exact HB.out)⟩

end Go.Proofs.Ytnbccfecmpocaaa.QHashValues
