/- The order of literals: AND of two literals does not depend on their order, and each literal has its simple ANDs; for every pair of int64 numbers. No further condition. -/
import Derived.Test.YtmdabengejlijaaQLitsOrderx2
namespace Go.Proofs.Ytmdabengejlijaa.Pure
open Go.RowKit Go.Proofs.Ytmdabengejlijaa.QLitsOrder Go.Proofs.YtmdabengejlijaaW.PrintWords Go.Proofs.YtmdabengejlijaaW.PrintLast
set_option linter.unusedSimpArgs false
set_option linter.unusedVariables false

theorem w64 (n : Int) (h : -9223372036854775808 ≤ n) (h2 : n ≤ 9223372036854775807) : wrap64 n = n := by unfold wrap64; omega
theorem xorNat (n : Nat) : n ^^^ 1 = if n % 2 = 0 then n + 1 else n - 1 := by
  have h1 : (n ^^^ 1) / 2 = n / 2 := by rw [Nat.xor_div_two]; simp
  have h2 : (n ^^^ 1) % 2 = (n + 1) % 2 := by
    have h := @Nat.xor_mod_two_eq_one n 1
    rcases Nat.mod_two_eq_zero_or_one n with e | e <;> rcases Nat.mod_two_eq_zero_or_one (n ^^^ 1) with e' | e' <;> simp [e, e'] at h <;> omega
  split <;> omega
theorem i64_nat (n : Nat) (h : n < 9223372036854775808) : IntKind.i64.wrap (n : Int) = n := by rw [IntKind.wrap_i64]; omega
theorem bxor1 (a : Int) (h0 : 0 ≤ a) (h1 : a < 9223372036854775807) : Go.bits .xor .i64 a 1 = if a % 2 = 0 then a + 1 else a - 1 := by
  obtain ⟨n, rfl⟩ := Int.eq_ofNat_of_zero_le h0
  have e : Go.bits .xor .i64 (n : Int) 1 = ((n ^^^ 1 : Nat) : Int) := by
    have hx : n ^^^ 1 < 9223372036854775808 := by rw [xorNat]; split <;> omega
    have hb : (1 : Int) = ((1 : Nat) : Int) := rfl
    rw [hb]
    have hc : ((BitVec.ofInt 64 (n : Int)) ^^^ (BitVec.ofInt 64 ((1 : Nat) : Int))).toNat = n ^^^ 1 := by
      rw [BitVec.ofInt_natCast, BitVec.ofInt_natCast, BitVec.toNat_xor, BitVec.toNat_ofNat, BitVec.toNat_ofNat, Nat.mod_eq_of_lt (by omega), Nat.mod_eq_of_lt (by omega)]
    have := i64_nat _ hx
    rw [← hc] at this ⊢
    exact this
  rw [e, xorNat]
  split <;> split <;> omega
theorem band1 (a : Int) (h0 : 0 ≤ a) (h1 : a < 9223372036854775807) : Go.bits .and .i64 a 1 = a % 2 := by
  have := bits_mask .i64 63 (by decide) (fun n h h' => by rw [IntKind.wrap_i64]; omega) 1 (by decide) a h0 (by omega)
  simpa using this
theorem bor1 (a : Int) (h0 : 0 ≤ a) (h1 : a < 4611686018427387904) : Go.bits .or .i64 (2 * a) 1 = 2 * a + 1 :=
  bits_join .i64 63 (by decide) (fun n h h' => by rw [IntKind.wrap_i64]; omega) 1 (2 * a) 1 (by omega) (by omega) (by omega) (by omega) (by omega) (by omega)
abbrev isL (a : Int) : Prop := 0 ≤ a ∧ a ≤ 2001
def notS (a : Int) : Int := if a % 2 = 0 then a + 1 else a - 1
def andS (a b : Int) : Int × Bool :=
  if a = 0 ∨ b = 0 ∨ notS a = b then (0, true) else if a = 1 then (b, true) else if b = 1 ∨ a = b then (a, true) else (0, false)
def valS (a : Int) (v : Bool) : Bool := (v && decide (a > 1)) != decide (a % 2 = 1)

theorem check1 (k : Nat) (hk : 2 ≤ k) (a : Int) : lits_check.f k [a] = some (if isL a then 0 else 2) := by
  obtain ⟨m, rfl⟩ : ∃ m, k = m + 2 := ⟨k - 2, by omega⟩
  have e1 : wrap64 (0 + 1) = 1 := by unfold wrap64; omega
  unfold lits_check.f isL
  simp only [lits_check.l0, List.length_cons, List.length_nil, e1]
  simp only [rd]
  by_cases h0 : a < 0
  · rw [if_pos (by omega), if_pos (by omega), if_pos (by omega), if_pos (by simpa using h0), if_neg (by omega)]
  · by_cases h1 : a > 2001
    · rw [if_pos (by omega), if_pos (by omega), if_pos (by omega), if_neg (by simpa using h0), if_pos (by simpa using h1), if_neg (by omega)]
    · rw [if_pos (by omega), if_pos (by omega), if_pos (by omega), if_neg (by simpa using h0), if_neg (by simpa using h1), if_neg (by omega), if_pos (by omega)]

theorem check2 (k : Nat) (hk : 3 ≤ k) (a b : Int) : lits_check.f k [a, b] = some (if isL a ∧ isL b then 0 else 2) := by
  obtain ⟨m, rfl⟩ : ∃ m, k = m + 3 := ⟨k - 3, by omega⟩
  have e1 : wrap64 (0 + 1) = 1 := by unfold wrap64; omega
  have e2 : wrap64 (1 + 1) = 2 := by unfold wrap64; omega
  have r0 : rd [a, b] 0 = a := rfl
  have r1 : rd [a, b] 1 = b := rfl
  unfold lits_check.f isL
  simp only [lits_check.l0, List.length_cons, List.length_nil, e1, e2, r0, r1]
  by_cases h0 : a < 0
  · simp [h0]; try omega
  by_cases h1 : a > 2001
  · simp [h0, h1]; try omega
  by_cases h2 : b < 0
  · simp [h0, h1, h2]; try omega
  by_cases h3 : b > 2001
  · simp [h0, h1, h2, h3]; try omega
  · simp [h0, h1, h2, h3]; try omega
theorem and_eq (k : Nat) (hk : 3 ≤ k) (a b : Int) : lits_And.f k a b = some (if isL a ∧ isL b then ((andS a b).1, (andS a b).2, 0) else (0, false, 2)) := by
  obtain ⟨m, rfl⟩ : ∃ m, k = m + 3 := ⟨k - 3, by omega⟩
  unfold lits_And.f
  rw [check2 _ (by omega)]
  simp only [Option.bind_some]
  by_cases hv : isL a ∧ isL b
  · rw [if_pos hv, if_pos hv, if_pos rfl]
    obtain ⟨⟨h1, h2⟩, h3, h4⟩ := hv
    rw [bxor1 (mn a b) (by unfold mn; split <;> omega) (by unfold mn; split <;> omega)]
    simp only [lits_And.j0]
    have hn : (if mn a b % 2 = 0 then mn a b + 1 else mn a b - 1) = notS (mn a b) := rfl
    rw [hn]
    have hm : (mn a b = a ∧ mx a b = b ∧ a ≤ b) ∨ (mn a b = b ∧ mx a b = a ∧ b < a) := by unfold mn mx; split <;> split <;> omega
    have hs : (andS b a) = andS a b := by
      unfold andS notS
      (repeat' split) <;> first | rfl | omega | (congr 1; omega)
    have key : ∀ p q : Int, 0 ≤ p → p ≤ q → (if p = 0 then (if (p == 0) = true then some ((0 : Int), true, (0 : Int)) else if p = 1 then some (q, true, 0) else if p = q then some (q, true, 0) else some (0, false, 0)) else
        if (notS p == q) = true then some (0, true, 0) else if p = 1 then some (q, true, 0) else if p = q then some (q, true, 0) else some (0, false, 0)) = some ((andS p q).1, (andS p q).2, 0) := by
      intro p q hp hq
      by_cases c0 : p = 0
      · have e : andS p q = (0, true) := by unfold andS; rw [if_pos (Or.inl c0)]
        rw [e, if_pos c0, if_pos (by simpa using c0)]
      have c1 : q ≠ 0 := by omega
      by_cases c2 : notS p = q
      · have e : andS p q = (0, true) := by unfold andS; rw [if_pos (Or.inr (Or.inr c2))]
        rw [e, if_neg c0, if_pos (by simpa using c2)]
      have c3 : ¬ (p = 0 ∨ q = 0 ∨ notS p = q) := by omega
      by_cases c4 : p = 1
      · have e : andS p q = (q, true) := by unfold andS; rw [if_neg c3, if_pos c4]
        rw [e, if_neg c0, if_neg (by simpa using c2), if_pos c4]
      by_cases c5 : p = q
      · have e : andS p q = (p, true) := by unfold andS; rw [if_neg c3, if_neg c4, if_pos (Or.inr c5)]
        rw [e, if_neg c0, if_neg (by simpa using c2), if_neg c4, if_pos c5, c5]
      · have e : andS p q = (0, false) := by unfold andS; rw [if_neg c3, if_neg c4, if_neg (by omega)]
        rw [e, if_neg c0, if_neg (by simpa using c2), if_neg c4, if_neg c5]
    rcases hm with ⟨e1, e2, e3⟩ | ⟨e1, e2, e3⟩
    · rw [e1, e2]; exact key a b h1 e3
    · rw [e1, e2, ← hs]; exact key b a h3 (by omega)
  · rw [if_neg hv, if_neg hv, if_neg (by decide)]

theorem neg_eq (k : Nat) (hk : 2 ≤ k) (a : Int) : lits_Neg.f k a = some (if isL a then (notS a, 0) else (0, 2)) := by
  unfold lits_Neg.f
  rw [check1 _ hk]
  simp only [Option.bind_some]
  by_cases h : isL a
  · rw [if_pos h, if_pos h, if_pos rfl, bxor1 a h.1 (by have := h.2; omega)]; rfl
  · rw [if_neg h, if_neg h, if_neg (by decide)]
theorem var_eq (k : Nat) (hk : 2 ≤ k) (a : Int) : lits_Var.f k a = some (if isL a then (a / 2, decide (a % 2 = 1), 0) else (0, false, 2)) := by
  unfold lits_Var.f
  rw [check1 _ hk]
  simp only [Option.bind_some]
  by_cases h : isL a
  · rw [if_pos h, if_pos h, if_pos rfl, band1 a h.1 (by have := h.2; omega)]; rfl
  · rw [if_neg h, if_neg h, if_neg (by decide)]

theorem is_eq (a : Int) : spiritlevelref01_Is.f a = some (decide (isL a)) := by
  unfold spiritlevelref01_Is.f isL
  split <;> simp [*]

theorem alive_eq (k : Nat) (hk : 4 ≤ k) : spiritlevellaw01_alive.f k = some true := by
  unfold spiritlevellaw01_alive.f
  rw [neg_eq k (by omega), neg_eq k (by omega), var_eq k (by omega), and_eq k (by omega), and_eq k (by omega), and_eq k (by omega)]
  decide

theorem LitsOrder : spiritlevellaw01_LitsOrder.Pure := by
  intro a b _ _
  refine ⟨20, ?_⟩
  unfold spiritlevellaw01_LitsOrder.f
  rw [is_eq, is_eq]
  simp only [Option.bind_some]
  by_cases ha : isL a
  · by_cases hb : isL b
    · rw [if_pos (by simpa using ha)]
      have h0 : isL 0 := by decide
      have h1 : isL 1 := by decide
      have hn : isL (notS a) := by obtain ⟨x, y⟩ := ha; unfold isL notS; split <;> omega
      have e0 : andS a b = andS b a := by
        unfold andS notS
        (repeat' split) <;> first | rfl | omega | (congr 1; omega)
      have e1 : andS a a = (a, true) := by
        unfold andS notS
        (repeat' split) <;> first | rfl | omega | (congr 1; omega)
      have e2 : andS a 1 = (a, true) := by
        unfold andS notS
        (repeat' split) <;> first | rfl | omega | (congr 1; omega)
      have e3 : andS a 0 = (0, true) := by unfold andS; rw [if_pos (by omega)]
      have e4 : andS a (notS a) = (0, true) := by unfold andS; rw [if_pos (by omega)]
      simp only [spiritlevellaw01_LitsOrder.j0]
      rw [and_eq 19 (by decide) a b, and_eq 19 (by decide) b a, and_eq 19 (by decide) a a, and_eq 19 (by decide) a 1, and_eq 19 (by decide) a 0, neg_eq 19 (by decide) a, if_pos ha]
      simp only [Option.bind_some]
      rw [and_eq 19 (by decide) a (notS a), alive_eq 19 (by decide)]
      have nb : (!decide (isL b)) = false := by simp [hb.1, hb.2]
      rw [nb]
      simp only [if_pos (And.intro ha hb), if_pos (And.intro hb ha), if_pos (And.intro ha ha), if_pos (And.intro ha h1), if_pos (And.intro ha h0), if_pos (And.intro ha hn), e0, e1, e2, e3, e4]
      simp
    · simp [ha, hb, spiritlevellaw01_LitsOrder.j0, alive_eq]
  · simp [ha, spiritlevellaw01_LitsOrder.j0, alive_eq]

end Go.Proofs.Ytmdabengejlijaa.Pure
