/- The program's And, Not and Covers equal the reference's for any truth values and lists of at most 100. No further condition. -/
import Derived.Test.YtddelmbkbpoelaaQTernaryTellsx2
namespace Go.Proofs.Ytddelmbkbpoelaa.Pure
open Go.RowKit Go.Proofs.Ytddelmbkbpoelaa.QTernaryTells Go.Proofs.YtddelmbkbpoelaaW.PrintWords Go.Proofs.YtddelmbkbpoelaaW.PrintLast
set_option linter.unusedSimpArgs false
set_option linter.unusedVariables false
-- the three-valued functions: And, Not, Covers, and the reference's
theorem w64 (n : Int) (h : -9223372036854775808 ≤ n) (h2 : n ≤ 9223372036854775807) : wrap64 n = n := by unfold wrap64; omega
theorem rd_at (l : List Int) (j : Nat) (h : j < l.length) : rd l (j : Int) = l[j] := by simp [rd, List.getD, h]
theorem wf_u8 {x : Int} (h : (Lit.int .u8 x).wf = true) : 0 ≤ x ∧ x ≤ 255 := by
  simp [Lit.wf, IntKind.min, IntKind.max, IntKind.signed, IntKind.bits] at h
  omega
theorem xor_u8 (a : Int) (h0 : 0 ≤ a) (h1 : a ≤ 255) : Go.bits .xor .u8 a 1 = if a % 2 = 0 then a + 1 else a - 1 := by
  have key : ∀ n : Fin 256, Go.bits .xor .u8 ((n.val : Nat) : Int) 1 = if ((n.val : Nat) : Int) % 2 = 0 then ((n.val : Nat) : Int) + 1 else ((n.val : Nat) : Int) - 1 := by decide +kernel
  obtain ⟨n, rfl⟩ := Int.eq_ofNat_of_zero_le h0
  exact key ⟨n, by omega⟩
def coverS : List Int → List Int → Bool
  | x :: l, y :: m => (x == 2 || x == y) && coverS l m
  | _, _ => true
theorem tand_eq (k : Nat) (hk : 2 ≤ k) (a b : Int) (ha : 0 ≤ a) (hb : 0 ≤ b) : ternary_And.f k a b = some (if a ≤ 2 ∧ b ≤ 2 then (bothS a b, 0) else (0, 8)) := by
  obtain ⟨k, rfl⟩ : ∃ m, k = m + 1 := ⟨k - 1, by omega⟩
  unfold ternary_And.f ternary_check.f
  simp only [Option.bind_some, List.any_cons, List.any_nil, Bool.or_false, teOut]
  by_cases h : a ≤ 2 ∧ b ≤ 2
  · rw [if_neg (show ¬ (decide (2 < a) || decide (2 < b)) = true by simp; omega), if_pos rfl, if_pos h]
    unfold ternary_and.f bothS
    by_cases c0 : a = 0
    · rw [if_pos c0, if_pos (Or.inl c0)]; simp [ternary_and.j0]
    rw [if_neg c0]
    by_cases c1 : b = 0
    · rw [if_pos (Or.inr c1)]; simp [ternary_and.j0, c1]
    rw [if_neg (show ¬ (a = 0 ∨ b = 0) by omega)]
    simp only [ternary_and.j0]
    rw [if_neg (by simpa using c1)]
    by_cases c2 : a = 2
    · rw [if_pos c2, if_pos (Or.inl c2)]; rfl
    rw [if_neg c2]
    by_cases c3 : b = 2
    · rw [if_pos c3, if_pos (Or.inr c3)]; rfl
    · rw [if_neg c3, if_neg (show ¬ (a = 2 ∨ b = 2) by omega)]; rfl
  · rw [if_pos (show (decide (2 < a) || decide (2 < b)) = true by simp; omega), if_neg (by decide), if_neg h]
theorem rtand_eq (a b : Int) (ha : 0 ≤ a) (hb : 0 ≤ b) : spiritlevelref05_And.f a b = some (if a ≤ 2 ∧ b ≤ 2 then (bothS a b, 0) else (0, 8)) := by
  unfold spiritlevelref05_And.f spiritlevelref05_Both.f
  by_cases c0 : a > 2
  · rw [if_pos c0, if_neg (show ¬ (a ≤ 2 ∧ b ≤ 2) by omega)]
  rw [if_neg c0]
  by_cases c1 : b > 2
  · rw [if_pos c1, if_neg (show ¬ (a ≤ 2 ∧ b ≤ 2) by omega)]
  · rw [if_neg c1, if_pos (by omega), if_pos (by omega)]; rfl
theorem tnot_eq (a : Int) (ha : 0 ≤ a) (hb : a ≤ 255) : ternary_Not.f a = some (if a ≤ 2 then (otherS a, 0) else (0, 8)) := by
  unfold ternary_Not.f ternary_check.f
  simp only [Option.bind_some, List.any_cons, List.any_nil, Bool.or_false, teOut]
  by_cases h : a ≤ 2
  · rw [if_neg (show ¬ decide (2 < a) = true by simp; omega), if_pos rfl, if_pos h]
    unfold ternary_not.f otherS
    by_cases c : a = 2
    · rw [if_pos c, if_pos c, c]; rfl
    · rw [if_neg c, if_neg c, xor_u8 a ha hb]
      have : a = 0 ∨ a = 1 := by omega
      rcases this with rfl | rfl <;> rfl
  · rw [if_pos (show decide (2 < a) = true by simp; omega), if_neg (by decide), if_neg h]
theorem rtnot_eq (a : Int) (ha : 0 ≤ a) : spiritlevelref05_Not.f a = some (if a ≤ 2 then (otherS a, 0) else (0, 8)) := by
  unfold spiritlevelref05_Not.f spiritlevelref05_Other.f
  by_cases c0 : a > 2
  · rw [if_pos c0, if_neg (by omega)]
  · rw [if_neg c0, if_pos (by omega), if_pos (by omega)]; rfl
theorem covers_l0 (a b : List Int) (hab : a.length = b.length) (hl : a.length ≤ 100000) (d : Nat) : ∀ (k j : Nat), j + d = a.length → d < k →
    ternary_Covers.l0 k b a (a.length : Int) (j : Int) = some (coverS (a.drop j) (b.drop j), 0) := by
  induction d with
  | zero =>
    intro k j hj hk
    obtain ⟨k, rfl⟩ : ∃ m, k = m + 1 := ⟨k - 1, by omega⟩
    simp only [ternary_Covers.l0]
    rw [if_neg (by omega), List.drop_of_length_le (by omega)]; rfl
  | succ d ih =>
    intro k j hj hk
    obtain ⟨k, rfl⟩ : ∃ m, k = m + 1 := ⟨k - 1, by omega⟩
    have h1 : j < a.length := by omega
    have h2 : j < b.length := by omega
    simp only [ternary_Covers.l0]
    rw [if_pos (by omega), if_pos (by omega), if_pos (by omega), if_pos (show (j : Int) < (b.length : Int) by omega), rd_at a j h1, rd_at b j h2, List.drop_eq_getElem_cons h1, List.drop_eq_getElem_cons h2, w64 ((j : Int) + 1) (by omega) (by omega), show ((j : Int) + 1) = ((j + 1 : Nat) : Int) by omega, ih k (j + 1) (by omega) (by omega)]
    simp only [coverS]
    by_cases c : a[j] = 2
    · rw [if_pos c]; simp [c]
    rw [if_neg c]
    by_cases c2 : a[j] = b[j]
    · rw [if_pos c2]; simp [c2]
    · rw [if_neg c2]; simp [c, c2]
theorem any_te (l : List Int) : l.any teOut = !l.all (fun x => decide (x ≤ 2)) := by
  induction l with
  | nil => rfl
  | cons x l ih =>
    rw [List.any_cons, List.all_cons, ih]
    unfold teOut
    by_cases h : x ≤ 2
    · simp [h, show ¬ 2 < x by omega]
    · simp [h, show 2 < x by omega]
theorem covers_eq (k : Nat) (a b : List Int) (hl : a.length ≤ 100000) (hk : a.length < k) :
    ternary_Covers.f k a b = some (if a.all (fun x => decide (x ≤ 2)) = true ∧ b.all (fun x => decide (x ≤ 2)) = true then (if a.length = b.length then (coverS a b, 0) else (false, 2)) else (false, 8)) := by
  unfold ternary_Covers.f ternary_check.f
  simp only [Option.bind_some]
  rw [any_te a, any_te b]
  by_cases c1 : a.all (fun x => decide (x ≤ 2)) = true
  · by_cases c2 : b.all (fun x => decide (x ≤ 2)) = true
    · rw [c1, c2, if_pos (And.intro rfl rfl)]
      simp only [Bool.not_true, Bool.false_eq_true, if_false, mx]
      rw [if_pos (by decide)]
      by_cases c3 : a.length = b.length
      · rw [if_pos (by omega), if_pos c3]
        have := covers_l0 a b c3 hl a.length k 0 (by omega) hk
        simpa using this
      · rw [if_neg (by omega), if_neg c3]
    · rw [c1, if_neg (show ¬ (true = true ∧ b.all (fun x => decide (x ≤ 2)) = true) by simp [c2])]
      simp [c2, mx]
  · rw [if_neg (show ¬ (a.all (fun x => decide (x ≤ 2)) = true ∧ b.all (fun x => decide (x ≤ 2)) = true) by simp [c1])]
    have c1' : a.all (fun x => decide (x ≤ 2)) = false := by simpa using c1
    rw [c1']
    by_cases c2 : b.all (fun x => decide (x ≤ 2)) = true
    · rw [c2]; simp [mx]
    · have c2' : b.all (fun x => decide (x ≤ 2)) = false := by simpa using c2
      rw [c2']; simp [mx]
theorem right_l0 (l : List Int) (hl : l.length ≤ 100000) (d : Nat) : ∀ (k j : Nat), j + d = l.length → d < k →
    spiritlevelref05_Right.l0 k l (j : Int) = some ((l.drop j).all (fun x => decide (x ≤ 2))) := by
  induction d with
  | zero =>
    intro k j hj hk
    obtain ⟨k, rfl⟩ : ∃ m, k = m + 1 := ⟨k - 1, by omega⟩
    simp only [spiritlevelref05_Right.l0]
    rw [if_neg (by omega), List.drop_of_length_le (by omega)]; rfl
  | succ d ih =>
    intro k j hj hk
    obtain ⟨k, rfl⟩ : ∃ m, k = m + 1 := ⟨k - 1, by omega⟩
    have h1 : j < l.length := by omega
    simp only [spiritlevelref05_Right.l0]
    rw [if_pos (by omega), if_pos (by omega), rd_at l j h1, List.drop_eq_getElem_cons h1, List.all_cons, w64 ((j : Int) + 1) (by omega) (by omega), show ((j : Int) + 1) = ((j + 1 : Nat) : Int) by omega, ih k (j + 1) (by omega) (by omega)]
    by_cases c : l[j] > 2
    · rw [if_pos c]; simp [show ¬ l[j] ≤ 2 by omega]
    · rw [if_neg c]; simp [show l[j] ≤ 2 by omega]
theorem right_eq (k : Nat) (l : List Int) (hl : l.length ≤ 100000) (hk : l.length < k) : spiritlevelref05_Right.f k l = some (l.all (fun x => decide (x ≤ 2))) := by
  have := right_l0 l hl l.length k 0 (by omega) hk
  simpa [spiritlevelref05_Right.f] using this
theorem over_l0 (a b : List Int) (hab : a.length = b.length) (hl : a.length ≤ 100000) (d : Nat) : ∀ (k j : Nat), j + d = a.length → d < k →
    spiritlevelref05_Over.l0 k a b (j : Int) = some (coverS (a.drop j) (b.drop j)) := by
  induction d with
  | zero =>
    intro k j hj hk
    obtain ⟨k, rfl⟩ : ∃ m, k = m + 1 := ⟨k - 1, by omega⟩
    simp only [spiritlevelref05_Over.l0]
    rw [if_neg (by omega), List.drop_of_length_le (by omega)]; rfl
  | succ d ih =>
    intro k j hj hk
    obtain ⟨k, rfl⟩ : ∃ m, k = m + 1 := ⟨k - 1, by omega⟩
    have h1 : j < a.length := by omega
    have h2 : j < b.length := by omega
    simp only [spiritlevelref05_Over.l0]
    rw [if_pos (by omega), if_pos (by omega), if_pos (show (j : Int) < (b.length : Int) by omega), rd_at a j h1, rd_at b j h2, List.drop_eq_getElem_cons h1, List.drop_eq_getElem_cons h2, w64 ((j : Int) + 1) (by omega) (by omega), show ((j : Int) + 1) = ((j + 1 : Nat) : Int) by omega, ih k (j + 1) (by omega) (by omega)]
    simp only [coverS]
    by_cases c : a[j] = 2
    · rw [if_pos c]; simp [c]
    rw [if_neg c]
    by_cases c2 : a[j] = b[j]
    · rw [if_pos c2]; simp [c2]
    · rw [if_neg c2]; simp [c, c2]
theorem rcovers_eq (k : Nat) (a b : List Int) (hl : a.length ≤ 100000) (hl2 : b.length ≤ 100000) (hk : a.length + b.length + 3 < k) :
    spiritlevelref05_Covers.f k a b = some (if a.all (fun x => decide (x ≤ 2)) = true ∧ b.all (fun x => decide (x ≤ 2)) = true then (if a.length = b.length then (coverS a b, 0) else (false, 2)) else (false, 8)) := by
  obtain ⟨k, rfl⟩ : ∃ m, k = m + 1 := ⟨k - 1, by omega⟩
  unfold spiritlevelref05_Covers.f
  rw [right_eq _ a hl (by omega), right_eq _ b hl2 (by omega)]
  simp only [Option.bind_some]
  by_cases c1 : a.all (fun x => decide (x ≤ 2)) = true
  · rw [if_pos c1]
    by_cases c2 : b.all (fun x => decide (x ≤ 2)) = true
    · rw [c2, if_pos (And.intro c1 rfl)]
      simp only [spiritlevelref05_Covers.j0, Bool.not_true]
      rw [if_neg (by decide)]
      by_cases c3 : a.length = b.length
      · rw [if_pos (by omega), if_pos c3]
        have := over_l0 a b c3 hl a.length k 0 (by omega) (by omega)
        simp only [List.drop_zero] at this
        unfold spiritlevelref05_Over.f
        rw [show ((0 : Nat) : Int) = 0 from rfl] at this
        rw [this]; rfl
      · rw [if_neg (by omega), if_neg c3]
    · have c2' : b.all (fun x => decide (x ≤ 2)) = false := by simpa using c2
      rw [c2', if_neg (by simp)]
      simp [spiritlevelref05_Covers.j0]
  · rw [if_neg c1, if_neg (by simp [c1])]
    simp [spiritlevelref05_Covers.j0]

theorem TernaryTells : spiritlevellaw05_TernaryTells.Pure := by
  intro a b l m ha hb _ _
  refine ⟨1000, ?_⟩
  obtain ⟨a0, a1⟩ := wf_u8 ha
  obtain ⟨b0, b1⟩ := wf_u8 hb
  unfold spiritlevellaw05_TernaryTells.f
  by_cases c1 : (l.length : Int) > 100
  · rw [if_pos c1]; simp [spiritlevellaw05_TernaryTells.j0]
  rw [if_neg c1]
  by_cases c2 : (m.length : Int) > 100
  · rw [decide_eq_true c2]; simp [spiritlevellaw05_TernaryTells.j0]
  rw [decide_eq_false c2]
  simp only [spiritlevellaw05_TernaryTells.j0]
  rw [if_neg (by decide), tand_eq 999 (by omega) a b a0 b0, rtand_eq a b a0 b0, tnot_eq a a0 a1, rtnot_eq a a0, covers_eq 999 l m (by omega) (by omega), rcovers_eq 999 l m (by omega) (by omega) (by omega)]
  simp


end Go.Proofs.Ytddelmbkbpoelaa.Pure
