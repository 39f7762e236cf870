/- The program's Neg, Var and Lit equal the reference's, for every pair of int64 numbers and every bool. No further condition. -/
import Derived.Test.YtmdabengejlijaaPLitsTellsx1
namespace Go.Proofs.Ytmdabengejlijaa.Pure
open Go.RowKit Go.Proofs.Ytmdabengejlijaa.PLitsTells Go.Proofs.YtmdabengejlijaaW.PrintWords Go.Proofs.YtmdabengejlijaaW.PrintLast
set_option linter.unusedSimpArgs false
set_option linter.unusedVariables false

theorem w64 (n : Int) (h : -9223372036854775808 ≤ n) (h2 : n ≤ 9223372036854775807) : wrap64 n = n := by unfold wrap64; omega
theorem xorNat (n : Nat) : n ^^^ 1 = if n % 2 = 0 then n + 1 else n - 1 := by
  have h1 : (n ^^^ 1) / 2 = n / 2 := by rw [Nat.xor_div_two]; simp
  have h2 : (n ^^^ 1) % 2 = (n + 1) % 2 := by
    have h := @Nat.xor_mod_two_eq_one n 1
    rcases Nat.mod_two_eq_zero_or_one n with e | e <;> rcases Nat.mod_two_eq_zero_or_one (n ^^^ 1) with e' | e' <;> simp [e, e'] at h <;> omega
  split <;> omega
theorem i64_nat (n : Nat) (h : n < 9223372036854775808) : IntKind.i64.wrap (n : Int) = n := by rw [IntKind.wrap_i64]; omega
theorem bxor1 (a : Int) (h0 : 0 ≤ a) (h1 : a < 9223372036854775807) : Go.bits .xor .i64 a 1 = if a % 2 = 0 then a + 1 else a - 1 := by
  obtain ⟨n, rfl⟩ := Int.eq_ofNat_of_zero_le h0
  have e : Go.bits .xor .i64 (n : Int) 1 = ((n ^^^ 1 : Nat) : Int) := by
    have hx : n ^^^ 1 < 9223372036854775808 := by rw [xorNat]; split <;> omega
    have hb : (1 : Int) = ((1 : Nat) : Int) := rfl
    rw [hb]
    have hc : ((BitVec.ofInt 64 (n : Int)) ^^^ (BitVec.ofInt 64 ((1 : Nat) : Int))).toNat = n ^^^ 1 := by
      rw [BitVec.ofInt_natCast, BitVec.ofInt_natCast, BitVec.toNat_xor, BitVec.toNat_ofNat, BitVec.toNat_ofNat, Nat.mod_eq_of_lt (by omega), Nat.mod_eq_of_lt (by omega)]
    have := i64_nat _ hx
    rw [← hc] at this ⊢
    exact this
  rw [e, xorNat]
  split <;> split <;> omega
theorem band1 (a : Int) (h0 : 0 ≤ a) (h1 : a < 9223372036854775807) : Go.bits .and .i64 a 1 = a % 2 := by
  have := bits_mask .i64 63 (by decide) (fun n h h' => by rw [IntKind.wrap_i64]; omega) 1 (by decide) a h0 (by omega)
  simpa using this
theorem bor1 (a : Int) (h0 : 0 ≤ a) (h1 : a < 4611686018427387904) : Go.bits .or .i64 (2 * a) 1 = 2 * a + 1 :=
  bits_join .i64 63 (by decide) (fun n h h' => by rw [IntKind.wrap_i64]; omega) 1 (2 * a) 1 (by omega) (by omega) (by omega) (by omega) (by omega) (by omega)
abbrev isL (a : Int) : Prop := 0 ≤ a ∧ a ≤ 2001
def notS (a : Int) : Int := if a % 2 = 0 then a + 1 else a - 1
def andS (a b : Int) : Int × Bool :=
  if a = 0 ∨ b = 0 ∨ notS a = b then (0, true) else if a = 1 then (b, true) else if b = 1 ∨ a = b then (a, true) else (0, false)
def valS (a : Int) (v : Bool) : Bool := (v && decide (a > 1)) != decide (a % 2 = 1)

theorem check1 (k : Nat) (hk : 2 ≤ k) (a : Int) : lits_check.f k [a] = some (if isL a then 0 else 2) := by
  obtain ⟨m, rfl⟩ : ∃ m, k = m + 2 := ⟨k - 2, by omega⟩
  have e1 : wrap64 (0 + 1) = 1 := by unfold wrap64; omega
  unfold lits_check.f isL
  simp only [lits_check.l0, List.length_cons, List.length_nil, e1]
  simp only [rd]
  by_cases h0 : a < 0
  · rw [if_pos (by omega), if_pos (by omega), if_pos (by omega), if_pos (by simpa using h0), if_neg (by omega)]
  · by_cases h1 : a > 2001
    · rw [if_pos (by omega), if_pos (by omega), if_pos (by omega), if_neg (by simpa using h0), if_pos (by simpa using h1), if_neg (by omega)]
    · rw [if_pos (by omega), if_pos (by omega), if_pos (by omega), if_neg (by simpa using h0), if_neg (by simpa using h1), if_neg (by omega), if_pos (by omega)]

theorem neg_eq (k : Nat) (hk : 2 ≤ k) (a : Int) : lits_Neg.f k a = some (if isL a then (notS a, 0) else (0, 2)) := by
  unfold lits_Neg.f
  rw [check1 _ hk]
  simp only [Option.bind_some]
  by_cases h : isL a
  · rw [if_pos h, if_pos h, if_pos rfl, bxor1 a h.1 (by have := h.2; omega)]; rfl
  · rw [if_neg h, if_neg h, if_neg (by decide)]
theorem var_eq (k : Nat) (hk : 2 ≤ k) (a : Int) : lits_Var.f k a = some (if isL a then (a / 2, decide (a % 2 = 1), 0) else (0, false, 2)) := by
  unfold lits_Var.f
  rw [check1 _ hk]
  simp only [Option.bind_some]
  by_cases h : isL a
  · rw [if_pos h, if_pos h, if_pos rfl, band1 a h.1 (by have := h.2; omega)]; rfl
  · rw [if_neg h, if_neg h, if_neg (by decide)]

theorem lit_eq (k : Nat) (hk : 2 ≤ k) (v : Int) (n : Bool) : lits_Lit.f k v n = some (if 0 ≤ v ∧ v ≤ 1000 then (if n = true then 2 * v + 1 else 2 * v, 0) else (0, 2)) := by
  obtain ⟨m, rfl⟩ : ∃ m, k = m + 2 := ⟨k - 2, by omega⟩
  unfold lits_Lit.f
  by_cases h : 0 ≤ v ∧ v ≤ 1000
  · have e1 : wrap64 (v * 2) = 2 * v := by unfold wrap64; omega
    have hb := bor1 v h.1 (by omega)
    rw [if_neg (by omega), if_pos h]
    cases n <;> simp [lits_Lit.j0, e1, hb, show ¬ v > 1000 by omega]
  · rw [if_neg h]
    by_cases c : v < 0
    · rw [if_pos c]; simp [lits_Lit.j0]
    · rw [if_neg c]; simp [lits_Lit.j0, show v > 1000 by omega]

theorem is_eq (a : Int) : spiritlevelref01_Is.f a = some (decide (isL a)) := by
  unfold spiritlevelref01_Is.f isL
  split <;> simp [*]

theorem not_eq (a : Int) (h : isL a) : spiritlevelref01_Not.f a = some (notS a) := by
  obtain ⟨x, y⟩ := h
  unfold spiritlevelref01_Not.f notS
  rw [Int.tmod_eq_emod_of_nonneg x]
  split <;> rw [w64] <;> omega
theorem rneg_eq (a : Int) : spiritlevelref01_Neg.f a = some (if isL a then (notS a, 0) else (0, 2)) := by
  unfold spiritlevelref01_Neg.f
  rw [is_eq]
  simp only [Option.bind_some]
  by_cases ha : isL a
  · rw [if_pos (by simpa using ha), not_eq a ha, if_pos ha]; rfl
  · rw [if_neg (by simpa using ha), if_neg ha]
theorem rvar_eq (a : Int) : spiritlevelref01_Var.f a = some (if isL a then (a / 2, decide (a % 2 = 1), 0) else (0, false, 2)) := by
  unfold spiritlevelref01_Var.f
  rw [is_eq]
  simp only [Option.bind_some]
  by_cases ha : isL a
  · rw [if_pos (by simpa using ha), if_pos ha]
    obtain ⟨x, y⟩ := ha
    rw [Int.tmod_eq_emod_of_nonneg x, Int.tdiv_eq_ediv_of_nonneg x, w64 _ (by omega) (by omega)]; rfl
  · rw [if_neg (by simpa using ha), if_neg ha]
theorem rlit_eq (k : Nat) (hk : 2 ≤ k) (v : Int) (n : Bool) : spiritlevelref01_Lit.f k v n = some (if 0 ≤ v ∧ v ≤ 1000 then (if n = true then 2 * v + 1 else 2 * v, 0) else (0, 2)) := by
  obtain ⟨m, rfl⟩ : ∃ m, k = m + 2 := ⟨k - 2, by omega⟩
  unfold spiritlevelref01_Lit.f
  by_cases h : 0 ≤ v ∧ v ≤ 1000
  · have e1 : wrap64 (2 * v) = 2 * v := by unfold wrap64; omega
    have e2 : wrap64 (2 * v + 1) = 2 * v + 1 := by unfold wrap64; omega
    rw [if_neg (by omega), if_pos h]
    cases n <;> simp [spiritlevelref01_Lit.j0, e1, e2, show ¬ v > 1000 by omega]
  · rw [if_neg h]
    by_cases c : v < 0
    · rw [if_pos c]; simp [spiritlevelref01_Lit.j0]
    · rw [if_neg c]; simp [spiritlevelref01_Lit.j0, show v > 1000 by omega]
theorem LitsTells : spiritlevellaw01_LitsTells.Pure := by
  intro a v n _ _
  refine ⟨20, ?_⟩
  unfold spiritlevellaw01_LitsTells.f
  rw [neg_eq 20 (by decide), rneg_eq, var_eq 20 (by decide), rvar_eq, lit_eq 20 (by decide), rlit_eq 20 (by decide)]
  simp

end Go.Proofs.Ytmdabengejlijaa.Pure
