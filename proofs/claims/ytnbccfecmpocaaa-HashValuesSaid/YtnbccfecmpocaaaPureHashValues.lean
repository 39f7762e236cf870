/- What tells a variable has its value in each frame, if each variable has the value of the literal that is given for it, and after hashing all bad literals, constraints and next states are the same: for every circuit that is not great, a state and inputs, numbers. -/
import Derived.Test.YtnbccfecmpocaaaQHashValuesx14
namespace Go.Proofs.Ytnbccfecmpocaaa.Pure
open Go.RowKit Go.Proofs.Ytnbccfecmpocaaa.QHashValuesW Go.Proofs.Ytnbccfecmpocaaa.QHashValues Go.Proofs.YtnbccfecmpocaaaW.PrintWords Go.Proofs.YtnbccfecmpocaaaW.PrintLast
set_option linter.unusedSimpArgs false
set_option linter.unusedVariables false
theorem w64 (n : Int) (h : -9223372036854775808 ≤ n) (h2 : n ≤ 9223372036854775807) : wrap64 n = n := by unfold wrap64; omega
theorem rd_at (l : List Int) (j : Nat) (h : j < l.length) : rd l (j : Int) = l[j] := by simp [rd, List.getD, h]
theorem wf_i64 {x : Int} (h : (Lit.int .i64 x).wf = true) : -9223372036854775808 ≤ x ∧ x ≤ 9223372036854775807 := by
  simp [Lit.wf, IntKind.min, IntKind.max, IntKind.signed, IntKind.bits] at h
  omega
theorem band1 (a : Int) (h0 : 0 ≤ a) (h1 : a < 9223372036854775807) : Go.bits .and .i64 a 1 = a % 2 := by
  have := bits_mask .i64 63 (by decide) (fun n h h' => by rw [IntKind.wrap_i64]; omega) 1 (by decide) a h0 (by omega)
  simpa using this
theorem xorNat (n : Nat) : n ^^^ 1 = if n % 2 = 0 then n + 1 else n - 1 := by
  have h1 : (n ^^^ 1) / 2 = n / 2 := by rw [Nat.xor_div_two]; simp
  have h2 : (n ^^^ 1) % 2 = (n + 1) % 2 := by
    have h := @Nat.xor_mod_two_eq_one n 1
    rcases Nat.mod_two_eq_zero_or_one n with e | e <;> rcases Nat.mod_two_eq_zero_or_one (n ^^^ 1) with e' | e' <;> simp [e, e'] at h <;> omega
  split <;> omega
theorem i64_nat (n : Nat) (h : n < 9223372036854775808) : IntKind.i64.wrap (n : Int) = n := by rw [IntKind.wrap_i64]; omega
theorem bxor1 (a : Int) (h0 : 0 ≤ a) (h1 : a < 9223372036854775807) : Go.bits .xor .i64 a 1 = if a % 2 = 0 then a + 1 else a - 1 := by
  obtain ⟨n, rfl⟩ := Int.eq_ofNat_of_zero_le h0
  have e : Go.bits .xor .i64 (n : Int) 1 = ((n ^^^ 1 : Nat) : Int) := by
    have hx : n ^^^ 1 < 9223372036854775808 := by rw [xorNat]; split <;> omega
    have hb : (1 : Int) = ((1 : Nat) : Int) := rfl
    rw [hb]
    have hc : ((BitVec.ofInt 64 (n : Int)) ^^^ (BitVec.ofInt 64 ((1 : Nat) : Int))).toNat = n ^^^ 1 := by
      rw [BitVec.ofInt_natCast, BitVec.ofInt_natCast, BitVec.toNat_xor, BitVec.toNat_ofNat, BitVec.toNat_ofNat, Nat.mod_eq_of_lt (by omega), Nat.mod_eq_of_lt (by omega)]
    have := i64_nat _ hx
    rw [← hc] at this ⊢
    exact this
  rw [e, xorNat]
  split <;> split <;> omega
-- ref02: what the reference of layer 2 and gates.Check come to, for circuits that are not great
def litOut (n l : Int) : Bool := decide (l < 0) || decide (l / 2 > n)
def latBad (n : Int) (x : S86) : Bool := litOut n x.f0 || decide (x.f1 < 0) || decide (x.f1 > 2)
def gBad (m : Int) (i : Nat) (g : S67) : Bool := decide (g.f1 < 0) || decide (g.f0 < g.f1) || decide (g.f0 / 2 > m + i)
def gsBad (m : Int) (l : List S67) : Bool := (List.range l.length).any fun i => gBad m i (rd_T67 l i)
def szS (a : Int) (l1 : List S86) (l2 : List S67) : Int := a + l1.length + l2.length
def checkR (a : Int) (l1 : List S86) (l2 : List S67) (l3 l4 : List Int) : Int :=
  if a < 0 then 8 else if a > 1000 ∨ szS a l1 l2 > 1000 ∨ l3.length > 100 ∨ l4.length > 100 then 4
  else if l3.any (litOut (szS a l1 l2)) = true ∨ l4.any (litOut (szS a l1 l2)) = true ∨ l1.any (latBad (szS a l1 l2)) = true ∨ gsBad (a + l1.length) l2 = true then 8 else 0
structure Small (l1 : List S86) (l2 : List S67) (l3 l4 : List Int) : Prop where
  h1 : l1.length ≤ 60
  h2 : l2.length ≤ 130
  h3 : l3.length ≤ 110
  h4 : l4.length ≤ 110
structure Wf (a : Int) (l1 : List S86) (l2 : List S67) (l3 l4 : List Int) : Prop where
  w0 : -9223372036854775808 ≤ a ∧ a ≤ 9223372036854775807
  w1 : ∀ x ∈ l1, (-9223372036854775808 ≤ x.f0 ∧ x.f0 ≤ 9223372036854775807) ∧ (-9223372036854775808 ≤ x.f1 ∧ x.f1 ≤ 9223372036854775807)
  w2 : ∀ x ∈ l2, (-9223372036854775808 ≤ x.f0 ∧ x.f0 ≤ 9223372036854775807) ∧ (-9223372036854775808 ≤ x.f1 ∧ x.f1 ≤ 9223372036854775807)
  w3 : ∀ x ∈ l3, -9223372036854775808 ≤ x ∧ x ≤ 9223372036854775807
  w4 : ∀ x ∈ l4, -9223372036854775808 ≤ x ∧ x ≤ 9223372036854775807
theorem great_eq (a : Int) (l1 : List S86) (l2 : List S67) (l3 l4 : List Int) :
    ∃ b, spiritlevelref02_Great.f a l1 l2 l3 l4 = some b ∧ (b = false → Small l1 l2 l3 l4 ∧ (a ≤ 40 ∨ 996 ≤ a)) := by
  unfold spiritlevelref02_Great.f
  by_cases c1 : (l1.length : Int) > 60
  · exact ⟨true, by rw [if_pos c1], by simp⟩
  by_cases c2 : (l2.length : Int) > 120
  · exact ⟨true, by rw [if_neg c1, if_pos c2], by simp⟩
  by_cases c3 : (l3.length : Int) > 110
  · exact ⟨true, by rw [if_neg c1, if_neg c2, if_pos c3], by simp⟩
  by_cases c4 : (l4.length : Int) > 110
  · exact ⟨true, by rw [if_neg c1, if_neg c2, if_neg c3, if_pos c4], by simp⟩
  by_cases c5 : a > 40
  · exact ⟨decide (a < 996), by rw [if_neg c1, if_neg c2, if_neg c3, if_neg c4, if_pos c5], fun h => ⟨⟨by omega, by omega, by omega, by omega⟩, by simp at h; omega⟩⟩
  · exact ⟨false, by rw [if_neg c1, if_neg c2, if_neg c3, if_neg c4, if_neg c5], fun _ => ⟨⟨by omega, by omega, by omega, by omega⟩, by omega⟩⟩
theorem literals_l0 (l : List Int) (n : Int) (hw : ∀ x ∈ l, -9223372036854775808 ≤ x ∧ x ≤ 9223372036854775807) (hl : l.length ≤ 100000) (d : Nat) : ∀ (k j : Nat), j + d = l.length → d < k →
    spiritlevelref02_literals.l0 k l n (j : Int) = some (!(l.drop j).any (litOut n)) := by
  induction d with
  | zero =>
    intro k j hj hk
    obtain ⟨k, rfl⟩ : ∃ m, k = m + 1 := ⟨k - 1, by omega⟩
    simp only [spiritlevelref02_literals.l0]
    rw [if_neg (by omega), List.drop_of_length_le (by omega)]; rfl
  | succ d ih =>
    intro k j hj hk
    obtain ⟨k, rfl⟩ : ∃ m, k = m + 1 := ⟨k - 1, by omega⟩
    have hlt : j < l.length := by omega
    have hwj := hw l[j] (List.getElem_mem hlt)
    simp only [spiritlevelref02_literals.l0]
    rw [if_pos (by omega), if_pos (by omega), rd_at l j hlt, List.drop_eq_getElem_cons hlt, List.any_cons]
    by_cases c : l[j] < 0
    · rw [if_pos c]; simp [litOut, c]
    · rw [if_neg c, Int.tdiv_eq_ediv_of_nonneg (by omega), w64 _ (by omega) (by omega)]
      by_cases c2 : l[j] / 2 > n
      · rw [if_pos c2]; simp [litOut, c2]
      · rw [if_neg c2, w64 _ (by omega) (by omega), show ((j : Int) + 1) = ((j + 1 : Nat) : Int) by omega, ih k (j + 1) (by omega) (by omega)]
        have : litOut n l[j] = false := by simp [litOut]; omega
        rw [this]; simp
theorem literals_eq (k : Nat) (l : List Int) (n : Int) (hw : ∀ x ∈ l, -9223372036854775808 ≤ x ∧ x ≤ 9223372036854775807) (hl : l.length ≤ 100000) (hk : l.length < k) :
    spiritlevelref02_literals.f k l n = some (!l.any (litOut n)) := by
  have := literals_l0 l n hw hl l.length k 0 (by omega) hk
  simpa [spiritlevelref02_literals.f] using this
theorem rdL_at (l : List S86) (j : Nat) (h : j < l.length) : rd_T86 l (j : Int) = l[j] := by simp [rd_T86, List.getD, h]
theorem rdA_at (l : List S67) (j : Nat) (h : j < l.length) : rd_T67 l (j : Int) = l[j] := by simp [rd_T67, List.getD, h]
theorem check_l1 (a : Int) (l1 : List S86) (l2 : List S67) (l3 l4 : List Int) (hs : Small l1 l2 l3 l4) (hw : Wf a l1 l2 l3 l4) (h0 : 0 ≤ a) (h1 : a ≤ 1000) (d : Nat) : ∀ (k j : Nat), j + d = l2.length → d < k →
    spiritlevelref02_Check.l1 k (j : Int) a l1 l2 l3 l4 = some (if ((List.range' j d).any fun i => gBad (a + l1.length) i (rd_T67 l2 i)) = true then 8 else 0) := by
  have hs1 := hs.h1
  have hs2 := hs.h2
  induction d with
  | zero =>
    intro k j hj hk
    obtain ⟨k, rfl⟩ : ∃ m, k = m + 1 := ⟨k - 1, by omega⟩
    simp only [spiritlevelref02_Check.l1]
    rw [if_neg (by omega)]; rfl
  | succ d ih =>
    intro k j hj hk
    obtain ⟨k, rfl⟩ : ∃ m, k = m + 1 := ⟨k - 1, by omega⟩
    have hlt : j < l2.length := by omega
    have hwj := hw.w2 l2[j] (List.getElem_mem hlt)
    simp only [spiritlevelref02_Check.l1]
    rw [if_pos (by omega), if_pos (by omega), List.range'_succ, List.any_cons, rdA_at l2 j hlt]
    by_cases c : l2[j].f1 < 0
    · rw [if_pos c, if_pos (by simp [gBad, c])]
    rw [if_neg c]
    by_cases c2 : l2[j].f0 < l2[j].f1
    · rw [if_pos c2, if_pos (by simp [gBad, c2])]
    rw [if_neg c2, Int.tdiv_eq_ediv_of_nonneg (by omega), w64 (l2[j].f0 / 2) (by omega) (by omega), w64 (a + l1.length) (by omega) (by omega), w64 (a + l1.length + j) (by omega) (by omega)]
    by_cases c3 : l2[j].f0 / 2 > a + l1.length + j
    · rw [if_pos c3, if_pos (by simp [gBad, c3])]
    rw [if_neg c3, w64 _ (by omega) (by omega), show ((j : Int) + 1) = ((j + 1 : Nat) : Int) by omega, ih k (j + 1) (by omega) (by omega)]
    have : gBad (a + l1.length) j l2[j] = false := by simp [gBad]; omega
    rw [this]; rfl
theorem check_l0 (a n : Int) (l1 : List S86) (l2 : List S67) (l3 l4 : List Int) (hs : Small l1 l2 l3 l4) (hw : Wf a l1 l2 l3 l4) (h0 : 0 ≤ a) (h1 : a ≤ 1000) (d : Nat) : ∀ (k j : Nat), j + d = l1.length → d + l2.length + 5 < k →
    spiritlevelref02_Check.l0 k n (j : Int) a l1 l2 l3 l4 = some (if (l1.drop j).any (latBad n) = true ∨ gsBad (a + l1.length) l2 = true then 8 else 0) := by
  have hs1 := hs.h1
  have hs2 := hs.h2
  induction d with
  | zero =>
    intro k j hj hk
    obtain ⟨k, rfl⟩ : ∃ m, k = m + 1 := ⟨k - 1, by omega⟩
    simp only [spiritlevelref02_Check.l0]
    rw [if_neg (by omega), List.drop_of_length_le (by omega), show (0 : Int) = ((0 : Nat) : Int) from rfl, check_l1 a l1 l2 l3 l4 hs hw h0 h1 l2.length k 0 (by omega) (by omega)]
    simp [gsBad, List.range_eq_range']
  | succ d ih =>
    intro k j hj hk
    obtain ⟨k, rfl⟩ : ∃ m, k = m + 1 := ⟨k - 1, by omega⟩
    have hlt : j < l1.length := by omega
    have hwj := hw.w1 l1[j] (List.getElem_mem hlt)
    simp only [spiritlevelref02_Check.l0]
    rw [if_pos (by omega), if_pos (by omega), List.drop_eq_getElem_cons hlt, List.any_cons, rdL_at l1 j hlt, literals_eq k _ n (by simp; exact hwj.1) (by simp) (by simp; omega)]
    simp only [Option.bind_some, List.any_cons, List.any_nil, Bool.or_false]
    by_cases c : litOut n l1[j].f0 = true
    · rw [if_neg (by simp [c]), if_pos (by simp [latBad, c])]
    rw [if_pos (by simp [c])]
    by_cases c2 : l1[j].f1 < 0
    · rw [if_pos c2, if_pos (by simp [latBad, c2])]
    rw [if_neg c2]
    by_cases c3 : l1[j].f1 > 2
    · rw [if_pos c3, if_pos (by simp [latBad, c3])]
    rw [if_neg c3, w64 _ (by omega) (by omega), show ((j : Int) + 1) = ((j + 1 : Nat) : Int) by omega, ih k (j + 1) (by omega) (by omega)]
    have : latBad n l1[j] = false := by simp [latBad, c]; omega
    simp [this]
theorem size_eq (a : Int) (l1 : List S86) (l2 : List S67) (l3 l4 : List Int) (hs : Small l1 l2 l3 l4) (h0 : 0 ≤ a) (h1 : a ≤ 1000) : spiritlevelref02_Size.f a l1 l2 l3 l4 = some (szS a l1 l2) := by
  have hs1 := hs.h1
  have hs2 := hs.h2
  unfold spiritlevelref02_Size.f szS
  rw [w64 (a + l1.length) (by omega) (by omega), w64 _ (by omega) (by omega)]
theorem rcheck_eq (k : Nat) (a : Int) (l1 : List S86) (l2 : List S67) (l3 l4 : List Int) (hs : Small l1 l2 l3 l4) (hw : Wf a l1 l2 l3 l4) (hk : 300 ≤ k) :
    spiritlevelref02_Check.f k a l1 l2 l3 l4 = some (checkR a l1 l2 l3 l4) := by
  have hs1 := hs.h1
  have hs2 := hs.h2
  have hs3 := hs.h3
  have hs4 := hs.h4
  obtain ⟨k, rfl⟩ : ∃ m, k = m + 3 := ⟨k - 3, by omega⟩
  unfold spiritlevelref02_Check.f checkR
  by_cases c0 : a < 0
  · rw [if_pos c0, if_pos c0]
  rw [if_neg c0, if_neg c0]
  have j0 : spiritlevelref02_Check.j0 (k + 3) true a l1 l2 l3 l4 = some 4 := by simp [spiritlevelref02_Check.j0]
  by_cases c1 : a > 1000
  · rw [if_pos c1, if_pos (Or.inl c1), j0]
  rw [if_neg c1, size_eq a l1 l2 l3 l4 hs (by omega) (by omega)]
  simp only [Option.bind_some]
  by_cases c2 : szS a l1 l2 > 1000
  · rw [if_pos c2, if_pos (Or.inr (Or.inl c2)), j0]
  rw [if_neg c2]
  by_cases c3 : (l3.length : Int) > 100
  · rw [if_pos c3, if_pos (by omega), j0]
  rw [if_neg c3]
  by_cases c4 : (l4.length : Int) > 100
  · rw [decide_eq_true c4, if_pos (by omega), j0]
  rw [decide_eq_false c4, if_neg (by omega)]
  simp only [spiritlevelref02_Check.j0]
  rw [if_neg (by decide), size_eq a l1 l2 l3 l4 hs (by omega) (by omega)]
  simp only [Option.bind_some]
  rw [literals_eq _ l3 _ hw.w3 (by omega) (by omega)]
  simp only [Option.bind_some]
  by_cases d3 : l3.any (litOut (szS a l1 l2)) = true
  · rw [if_neg (by simp [d3]), if_pos (Or.inl d3)]; simp [spiritlevelref02_Check.j1]
  rw [if_pos (by simp [d3]), literals_eq _ l4 _ hw.w4 (by omega) (by omega)]
  simp only [Option.bind_some]
  by_cases d4 : l4.any (litOut (szS a l1 l2)) = true
  · rw [if_pos (Or.inr (Or.inl d4)), d4]; simp [spiritlevelref02_Check.j1]
  have d4' : l4.any (litOut (szS a l1 l2)) = false := by simpa using d4
  rw [d4']
  simp only [spiritlevelref02_Check.j1, Bool.not_false, Bool.not_true]
  rw [if_neg (by decide), show (0 : Int) = ((0 : Nat) : Int) from rfl, check_l0 a _ l1 l2 l3 l4 hs hw (by omega) (by omega) l1.length _ 0 (by omega) (by omega)]
  simp [d3]
theorem gcheck_eq (a : Int) (l1 : List S86) (l2 : List S67) (l3 l4 : List Int) (hs : Small l1 l2 l3 l4) (hw : Wf a l1 l2 l3 l4) :
    gates_Check.f a l1 l2 l3 l4 = some (checkR a l1 l2 l3 l4) := by
  have hs1 := hs.h1
  have hs2 := hs.h2
  unfold gates_Check.f checkR
  congr 1
  by_cases c0 : a < 0
  · rw [if_pos c0, if_pos c0]
  rw [if_neg c0, if_neg c0]
  by_cases c1 : a > 1000
  · rw [if_pos c1, if_pos (Or.inl c1)]
  have e3 : st3 a l1.length l2.length = szS a l1 l2 + 1 := by
    unfold st3 st2 st1 szS
    rw [w64 (1 + a) (by omega) (by omega), w64 (1 + a + l1.length) (by omega) (by omega), w64 _ (by omega) (by omega)]
    omega
  have e2 : st2 a l1.length = a + l1.length + 1 := by
    unfold st2 st1
    rw [w64 (1 + a) (by omega) (by omega), w64 _ (by omega) (by omega)]
    omega
  have hz : 0 ≤ szS a l1 l2 ∧ szS a l1 l2 ≤ 1190 := by unfold szS; omega
  rw [if_neg c1, e3, w64 (szS a l1 l2 + 1 - 1) (by omega) (by omega), Int.add_sub_cancel]
  by_cases c2 : szS a l1 l2 > 1000
  · rw [if_pos c2, if_pos (Or.inr (Or.inl c2))]
  rw [if_neg c2]
  by_cases c3 : l3.length > 100 ∨ l4.length > 100
  · rw [if_pos (show (if (l3.length : Int) < (l4.length : Int) then (l4.length : Int) else (l3.length : Int)) > 100 by split <;> omega), if_pos (show a > 1000 ∨ szS a l1 l2 > 1000 ∨ l3.length > 100 ∨ l4.length > 100 by omega)]
  rw [if_neg (show ¬ (if (l3.length : Int) < (l4.length : Int) then (l4.length : Int) else (l3.length : Int)) > 100 by split <;> omega), if_neg (show ¬ (a > 1000 ∨ szS a l1 l2 > 1000 ∨ l3.length > 100 ∨ l4.length > 100) by omega)]
  have o : outS (szS a l1 l2 + 1) = litOut (szS a l1 l2) := by
    funext l
    unfold outS litOut
    congr 1
  have o2 : wrongS (szS a l1 l2 + 1) = latBad (szS a l1 l2) := by
    funext x
    unfold wrongS latBad
    rw [o]
  have o3 : gatesBad (st2 a l1.length) l2 = gsBad (a + l1.length) l2 := by
    unfold gatesBad gsBad
    rw [Bool.eq_iff_iff, List.any_eq_true, List.any_eq_true]
    have hp : ∀ i ∈ List.range l2.length, gateBad (st2 a l1.length) i (rd_T67 l2 i) = gBad (a + l1.length) i (rd_T67 l2 i) := by
      intro i hi
      rw [List.mem_range] at hi
      unfold gateBad gBad
      rw [e2, w64 (a + l1.length + 1 + i) (by omega) (by omega), w64 _ (by omega) (by omega)]
      congr 1
      exact decide_eq_decide.2 (by omega)
    constructor
    · rintro ⟨i, hi, h⟩; exact ⟨i, hi, by rw [← hp i hi]; exact h⟩
    · rintro ⟨i, hi, h⟩; exact ⟨i, hi, by rw [hp i hi]; exact h⟩
  rw [o, o2, o3]
  by_cases d3 : l3.any (litOut (szS a l1 l2)) = true
  · rw [if_pos d3, if_pos (Or.inl d3)]
  rw [if_neg d3]
  by_cases d4 : l4.any (litOut (szS a l1 l2)) = true
  · rw [if_pos d4, if_pos (Or.inr (Or.inl d4))]
  rw [if_neg d4]
  by_cases d5 : l1.any (latBad (szS a l1 l2)) = true
  · rw [if_pos d5, if_pos (Or.inr (Or.inr (Or.inl d5)))]
  rw [if_neg d5]
  by_cases d6 : gsBad (a + l1.length) l2 = true
  · rw [if_pos d6, if_pos (Or.inr (Or.inr (Or.inr d6)))]
  · rw [if_neg d6, if_neg (by simp [d3, d4, d5, d6])]
-- ref02's comparisons of equal circuits
theorem checkR_ok (a : Int) (l1 : List S86) (l2 : List S67) (l3 l4 : List Int) (h : checkR a l1 l2 l3 l4 = 0) : 0 ≤ a ∧ a ≤ 1000 ∧ szS a l1 l2 ≤ 1000 := by
  unfold checkR at h
  by_cases c0 : a < 0
  · rw [if_pos c0] at h; omega
  rw [if_neg c0] at h
  by_cases c1 : a > 1000 ∨ szS a l1 l2 > 1000 ∨ l3.length > 100 ∨ l4.length > 100
  · rw [if_pos c1] at h; omega
  · omega
theorem gvars_eq (a : Int) (l1 : List S86) (l2 : List S67) (l3 l4 : List Int) (hs : Small l1 l2 l3 l4) (hw : Wf a l1 l2 l3 l4) :
    gates_Vars.f a l1 l2 l3 l4 = some (if checkR a l1 l2 l3 l4 = 0 then (szS a l1 l2, 0) else (0, checkR a l1 l2 l3 l4)) := by
  have hs1 := hs.h1
  have hs2 := hs.h2
  unfold gates_Vars.f
  rw [gcheck_eq a l1 l2 l3 l4 hs hw]
  simp only [Option.bind_some]
  by_cases h : checkR a l1 l2 l3 l4 = 0
  · obtain ⟨h0, h1, h2⟩ := checkR_ok _ _ _ _ _ h
    unfold szS at h2
    rw [if_pos h, if_pos h]
    unfold st3 st2 st1 szS
    rw [w64 (1 + a) (by omega) (by omega), w64 (1 + a + l1.length) (by omega) (by omega), w64 (1 + a + l1.length + l2.length) (by omega) (by omega), w64 _ (by omega) (by omega)]
    congr 2; omega
  · rw [if_neg h, if_neg h]
-- a valid circuit
def Gates (base : Nat) (gs : List S67) : Prop := ∀ (i : Nat) (h : i < gs.length), 0 ≤ gs[i].f1 ∧ gs[i].f1 ≤ gs[i].f0 ∧ gs[i].f0 / 2 < (base + i : Nat)
structure Good (a : Int) (l1 : List S86) (l2 : List S67) (l3 l4 : List Int) : Prop where
  a0 : 0 ≤ a
  a1 : a ≤ 1000
  n : szS a l1 l2 ≤ 1000
  g : Gates (1 + a.toNat + l1.length) l2
  l : ∀ x ∈ l1, (0 ≤ x.f0 ∧ x.f0 / 2 ≤ szS a l1 l2) ∧ (0 ≤ x.f1 ∧ x.f1 ≤ 2)
  b : ∀ x ∈ l3, 0 ≤ x ∧ x / 2 ≤ szS a l1 l2
  c : ∀ x ∈ l4, 0 ≤ x ∧ x / 2 ≤ szS a l1 l2
theorem litOut_in {n l : Int} (h : litOut n l = false) : 0 ≤ l ∧ l / 2 ≤ n := by
  simp only [litOut, Bool.or_eq_false_iff, decide_eq_false_iff_not] at h
  omega
theorem good_of (a : Int) (l1 : List S86) (l2 : List S67) (l3 l4 : List Int) (h : checkR a l1 l2 l3 l4 = 0) : Good a l1 l2 l3 l4 := by
  unfold checkR at h
  by_cases c0 : a < 0
  · rw [if_pos c0] at h; omega
  rw [if_neg c0] at h
  by_cases c1 : a > 1000 ∨ szS a l1 l2 > 1000 ∨ l3.length > 100 ∨ l4.length > 100
  · rw [if_pos c1] at h; omega
  rw [if_neg c1] at h
  by_cases c2 : l3.any (litOut (szS a l1 l2)) = true ∨ l4.any (litOut (szS a l1 l2)) = true ∨ l1.any (latBad (szS a l1 l2)) = true ∨ gsBad (a + l1.length) l2 = true
  · rw [if_pos c2] at h; omega
  have d3 : l3.any (litOut (szS a l1 l2)) = false := by
    cases e : l3.any (litOut (szS a l1 l2)) with
    | false => rfl
    | true => exact absurd (Or.inl e) c2
  have d4 : l4.any (litOut (szS a l1 l2)) = false := by
    cases e : l4.any (litOut (szS a l1 l2)) with
    | false => rfl
    | true => exact absurd (Or.inr (Or.inl e)) c2
  have d1 : l1.any (latBad (szS a l1 l2)) = false := by
    cases e : l1.any (latBad (szS a l1 l2)) with
    | false => rfl
    | true => exact absurd (Or.inr (Or.inr (Or.inl e))) c2
  have d2 : gsBad (a + l1.length) l2 = false := by
    cases e : gsBad (a + l1.length) l2 with
    | false => rfl
    | true => exact absurd (Or.inr (Or.inr (Or.inr e))) c2
  refine ⟨by omega, by omega, by omega, ?_, ?_, ?_, ?_⟩
  · intro i hi
    have := List.any_eq_false.1 d2 i (List.mem_range.2 hi)
    rw [rdA_at l2 i hi] at this
    simp [gBad] at this
    omega
  · intro x hx
    have := List.any_eq_false.1 d1 x hx
    simp only [latBad, Bool.not_eq_true, Bool.or_eq_false_iff, decide_eq_false_iff_not] at this
    exact ⟨litOut_in this.1.1, by omega⟩
  · intro x hx
    exact litOut_in (by simpa using List.any_eq_false.1 d3 x hx)
  · intro x hx
    exact litOut_in (by simpa using List.any_eq_false.1 d4 x hx)
theorem check_of (a : Int) (l1 : List S86) (l2 : List S67) (l3 l4 : List Int) (h : Good a l1 l2 l3 l4) (h3 : l3.length ≤ 100) (h4 : l4.length ≤ 100) : checkR a l1 l2 l3 l4 = 0 := by
  have ha0 := h.a0
  have ha1 := h.a1
  have hn := h.n
  unfold checkR
  rw [if_neg (by omega), if_neg (by omega), if_neg]
  rintro (c | c | c | c)
  · obtain ⟨x, hx, hb⟩ := List.any_eq_true.1 c
    have := h.b x hx
    simp [litOut] at hb
    omega
  · obtain ⟨x, hx, hb⟩ := List.any_eq_true.1 c
    have := h.c x hx
    simp [litOut] at hb
    omega
  · obtain ⟨x, hx, hb⟩ := List.any_eq_true.1 c
    have := h.l x hx
    simp [latBad, litOut] at hb
    omega
  · obtain ⟨i, hi, hb⟩ := List.any_eq_true.1 c
    have hi := List.mem_range.1 hi
    have := h.g i hi
    rw [rdA_at l2 i hi] at hb
    simp [gBad] at hb
    omega
-- two-valued frames
def valV (l : List Bool) (x : Int) : Bool := (rdOf false l (x / 2)) != decide (x % 2 = 1)
def frameV : List Bool → List S67 → List Bool
  | acc, [] => acc
  | acc, g :: gs => frameV (acc ++ [valV acc g.f0 && valV acc g.f1]) gs
theorem frameV_len : ∀ (gs : List S67) (acc : List Bool), (frameV acc gs).length = acc.length + gs.length
  | [], acc => rfl
  | g :: gs, acc => by rw [frameV, frameV_len gs]; simp; omega
theorem frameV_snoc : ∀ (gs : List S67) (acc : List Bool) (g : S67), frameV acc (gs ++ [g]) = frameV acc gs ++ [valV (frameV acc gs) g.f0 && valV (frameV acc gs) g.f1]
  | [], acc, g => rfl
  | x :: gs, acc, g => by rw [List.cons_append, frameV, frameV_snoc gs]; rfl
theorem vof_eq (l : List Bool) (x : Int) (h0 : 0 ≤ x) (h1 : x / 2 < l.length) (h2 : l.length ≤ 100000) : values_of.f l x = some (valV l x) := by
  unfold values_of.f valV
  rw [if_pos (by omega), if_pos h1, band1 x h0 (by omega)]
  congr 2
theorem valV_app (l m : List Bool) (x : Int) (h0 : 0 ≤ x) (h1 : x / 2 < l.length) : valV (l ++ m) x = valV l x := by
  unfold valV rdOf
  have : (x / 2).toNat < l.length := by omega
  simp [List.getD, List.getElem?_append_left this]
theorem gatesV_eq : ∀ (gs : List S67) (acc : List Bool), Gates acc.length gs → acc.length + gs.length ≤ 100000 → gatesV (acc ++ List.replicate gs.length false) acc.length gs = some (frameV acc gs)
  | [], acc, _, _ => by simp [gatesV, frameV]
  | g :: gs, acc, hg, hb => by
    have h0 := hg 0 (by simp)
    simp only [List.getElem_cons_zero, Nat.add_zero] at h0
    have hl : (acc ++ List.replicate (g :: gs).length false).length = acc.length + (gs.length + 1) := by simp
    simp only [List.length_cons] at hb
    simp only [gatesV, frameV]
    rw [vof_eq _ g.f0 (by omega) (by rw [hl]; omega) (by rw [hl]; omega), vof_eq _ g.f1 (by omega) (by rw [hl]; omega) (by rw [hl]; omega), valV_app acc _ _ (by omega) (by omega), valV_app acc _ _ (by omega) (by omega)]
    simp only [Option.bind_some]
    have e : (if valV acc g.f0 = true then some (valV acc g.f1) else some false) = some (valV acc g.f0 && valV acc g.f1) := by cases valV acc g.f0 <;> simp
    rw [e]
    simp only [Option.bind_some]
    have hg' : Gates (acc ++ [valV acc g.f0 && valV acc g.f1]).length gs := fun i hi => by
      have := hg (i + 1) (by simpa using hi)
      simp only [List.getElem_cons_succ] at this
      exact ⟨this.1, this.2.1, by simp; omega⟩
    have ih := gatesV_eq gs (acc ++ [valV acc g.f0 && valV acc g.f1]) hg' (by simp; omega)
    have e2 : (acc ++ List.replicate (g :: gs).length false).set acc.length (valV acc g.f0 && valV acc g.f1) = (acc ++ [valV acc g.f0 && valV acc g.f1]) ++ List.replicate gs.length false := by
      rw [List.set_append, if_neg (by omega), Nat.sub_self, List.length_cons, List.replicate_succ, List.set_cons_zero, List.append_assoc]
      rfl
    rw [e2, ← ih]
    simp
def allV (a : Int) (l1 : List S86) (l2 : List S67) (l3 l4 : List Int) (st inp : List Bool) : List Bool × Int :=
  if checkR a l1 l2 l3 l4 = 0 then (if st.length = l1.length ∧ (inp.length : Int) = a then (frameV (false :: (inp ++ st)) l2, 0) else ([], 2)) else ([], checkR a l1 l2 l3 l4)
theorem vall_eq (a : Int) (l1 : List S86) (l2 : List S67) (l3 l4 : List Int) (st inp : List Bool) (hs : Small l1 l2 l3 l4) (hw : Wf a l1 l2 l3 l4) :
    values_All.f a l1 l2 l3 l4 st inp = some (allV a l1 l2 l3 l4 st inp) := by
  unfold values_All.f allV
  rw [gvars_eq a l1 l2 l3 l4 hs hw]
  simp only [Option.bind_some]
  by_cases c : checkR a l1 l2 l3 l4 = 0
  · rw [if_pos c, if_pos c]
    simp only [if_true]
    by_cases d : st.length = l1.length ∧ (inp.length : Int) = a
    · have hg := good_of a l1 l2 l3 l4 c
      have ha0 := hg.a0
      have ha1 := hg.a1
      have hn := hg.n
      rw [if_pos d, if_pos d, if_pos (by unfold szS at hn ⊢; constructor <;> omega)]
      have h1 : (false :: (inp ++ st)).length = 1 + a.toNat + l1.length := by simp; omega
      have := gatesV_eq l2 (false :: (inp ++ st)) (by rw [h1]; exact hg.g) (by rw [h1]; unfold szS at hn; omega)
      have e1 : (false :: (inp ++ (st ++ List.replicate l2.length false))) = (false :: (inp ++ st)) ++ List.replicate l2.length false := by simp
      rw [e1, show 1 + inp.length + st.length = (false :: (inp ++ st)).length by simp; omega, this]
      rfl
    · rw [if_neg d, if_neg d]
  · rw [if_neg c, if_neg c, if_neg c]
theorem vsame_l0 (a b : List Bool) (hab : a.length = b.length) (hl : a.length ≤ 100000) (d : Nat) : ∀ (k j : Nat), j + d = a.length → d < k →
    spiritlevelref04_Same.l0 k a b (j : Int) = some (decide (a.drop j = b.drop j)) := by
  induction d with
  | zero =>
    intro k j hj hk
    obtain ⟨k, rfl⟩ : ∃ m, k = m + 1 := ⟨k - 1, by omega⟩
    simp only [spiritlevelref04_Same.l0]
    rw [if_neg (by omega), List.drop_of_length_le (by omega), List.drop_of_length_le (by omega)]; rfl
  | succ d ih =>
    intro k j hj hk
    obtain ⟨k, rfl⟩ : ∃ m, k = m + 1 := ⟨k - 1, by omega⟩
    have h1 : j < a.length := by omega
    have h2 : j < b.length := by omega
    have ra : rdOf false a (j : Int) = a[j] := by simp [rdOf, List.getD, h1]
    have rb : rdOf false b (j : Int) = b[j] := by simp [rdOf, List.getD, h2]
    simp only [spiritlevelref04_Same.l0]
    rw [if_pos (by omega), if_pos (by omega), if_pos (show (j : Int) < (b.length : Int) by omega), ra, rb, List.drop_eq_getElem_cons (l := a) h1, List.drop_eq_getElem_cons (l := b) h2, w64 ((j : Int) + 1) (by omega) (by omega), show ((j : Int) + 1) = ((j + 1 : Nat) : Int) by omega, ih k (j + 1) (by omega) (by omega)]
    by_cases c : a[j] = b[j]
    · rw [if_neg (by simp [c]), c]
      simp only [List.cons.injEq, true_and]
    · rw [if_pos (by simp [c])]
      have : ¬ (a[j] :: List.drop (j + 1) a = b[j] :: List.drop (j + 1) b) := fun h => c (List.cons.inj h).1
      rw [decide_eq_false this]
theorem vsame_eq (k : Nat) (a b : List Bool) (hl : a.length ≤ 100000) (hk : a.length < k) : spiritlevelref04_Same.f k a b = some (decide (a = b)) := by
  unfold spiritlevelref04_Same.f
  by_cases c : a.length = b.length
  · rw [if_pos (by omega)]
    have := vsame_l0 a b c hl a.length k 0 (by omega) hk
    simpa using this
  · rw [if_neg (by omega)]
    have : a ≠ b := fun h => c (by rw [h])
    simp [this]
theorem vasked_eq (k : Nat) (a : Int) (l1 : List S86) (l2 : List S67) (l3 l4 : List Int) (st inp : List Bool) (hs : Small l1 l2 l3 l4) (hw : Wf a l1 l2 l3 l4) (hk : 300 ≤ k) :
    spiritlevelref04_Asked.f k a l1 l2 l3 l4 st inp = some (allV a l1 l2 l3 l4 st inp).2 := by
  unfold spiritlevelref04_Asked.f allV
  rw [rcheck_eq k a l1 l2 l3 l4 hs hw hk]
  simp only [Option.bind_some]
  by_cases c : checkR a l1 l2 l3 l4 = 0
  · rw [if_pos c, if_pos c]
    by_cases c1 : st.length = l1.length
    · rw [if_pos (by omega)]
      by_cases c2 : (inp.length : Int) = a
      · rw [if_pos c2, if_pos ⟨c1, c2⟩]
      · rw [if_neg c2, if_neg (fun h => c2 h.2)]
    · rw [if_neg (by omega), if_neg (fun h => c1 h.1)]
  · rw [if_neg c, if_neg c]
theorem allV_ok {a : Int} {l1 : List S86} {l2 : List S67} {l3 l4 : List Int} {st inp : List Bool} (h : (allV a l1 l2 l3 l4 st inp).2 = 0) :
    checkR a l1 l2 l3 l4 = 0 ∧ st.length = l1.length ∧ (inp.length : Int) = a ∧ allV a l1 l2 l3 l4 st inp = (frameV (false :: (inp ++ st)) l2, 0) := by
  unfold allV at h ⊢
  by_cases c : checkR a l1 l2 l3 l4 = 0
  · rw [if_pos c] at h ⊢
    by_cases d : st.length = l1.length ∧ (inp.length : Int) = a
    · rw [if_pos d] at h ⊢; exact ⟨c, d.1, d.2, rfl⟩
    · rw [if_neg d] at h; simp at h
  · rw [if_neg c] at h; exact absurd h c
theorem vframe_len {a : Int} {l1 : List S86} {l2 : List S67} {st inp : List Bool} (h1 : st.length = l1.length) (h2 : (inp.length : Int) = a) : ((frameV (false :: (inp ++ st)) l2).length : Int) = 1 + szS a l1 l2 := by
  rw [frameV_len]; unfold szS; simp; omega
theorem rval_eq (l : List Bool) (x : Int) (h0 : 0 ≤ x) (h1 : x / 2 < l.length) (h2 : l.length ≤ 100000) : spiritlevelref04_Value.f l x = some (valV l x) := by
  unfold spiritlevelref04_Value.f valV
  rw [Int.tdiv_eq_ediv_of_nonneg h0, w64 (x / 2) (by omega) (by omega), if_pos (by omega), if_pos h1, Int.tmod_eq_emod_of_nonneg h0]
  rfl
theorem listV_eq (fr : List Bool) (hf : fr.length ≤ 100000) : ∀ (ls : List Int), (∀ x ∈ ls, 0 ≤ x ∧ x / 2 < fr.length) → listV fr ls = some (ls.map (valV fr))
  | [], _ => rfl
  | x :: l, h => by
    obtain ⟨h0, h1⟩ := h x (by simp)
    rw [listV, vof_eq fr x h0 h1 hf, Option.bind_some, listV_eq fr hf l (fun y hy => h y (by simp [hy]))]
    rfl
def litsV (a : Int) (l1 : List S86) (l2 : List S67) (l3 l4 : List Int) (st inp : List Bool) (ls : List Int) : List Bool × Int :=
  if (allV a l1 l2 l3 l4 st inp).2 = 0 then (ls.map (valV (allV a l1 l2 l3 l4 st inp).1), 0) else ([], (allV a l1 l2 l3 l4 st inp).2)
theorem listF_eq (a : Int) (l1 : List S86) (l2 : List S67) (l3 l4 : List Int) (st inp : List Bool) (ls : List Int) (hs : Small l1 l2 l3 l4) (hw : Wf a l1 l2 l3 l4) (hl : checkR a l1 l2 l3 l4 = 0 → ∀ x ∈ ls, 0 ≤ x ∧ x / 2 ≤ szS a l1 l2) :
    listF a l1 l2 l3 l4 st inp ls = some (litsV a l1 l2 l3 l4 st inp ls) := by
  unfold listF litsV
  rw [vall_eq a l1 l2 l3 l4 st inp hs hw, Option.bind_some]
  by_cases c : (allV a l1 l2 l3 l4 st inp).2 = 0
  · obtain ⟨c0, e1, e2, e⟩ := allV_ok c
    have hg := good_of a l1 l2 l3 l4 c0
    have hn := hg.n
    have hlen := vframe_len (l2 := l2) e1 e2
    rw [if_pos c, if_pos c, e]
    dsimp only
    rw [listV_eq _ (by omega) ls (fun x hx => by have := hl c0 x hx; omega), Option.bind_some]
  · rw [if_neg c, if_neg c]
theorem vnext_eq (a : Int) (l1 : List S86) (l2 : List S67) (l3 l4 : List Int) (st inp : List Bool) (hs : Small l1 l2 l3 l4) (hw : Wf a l1 l2 l3 l4) :
    values_Next.f a l1 l2 l3 l4 st inp = some (litsV a l1 l2 l3 l4 st inp (l1.map fun x => x.f0)) := by
  have := hs.h1
  unfold values_Next.f
  rw [if_pos (by omega), listF_eq a l1 l2 l3 l4 st inp _ hs hw]
  intro c0 x hx
  obtain ⟨y, hy, rfl⟩ := List.mem_map.1 hx
  exact ((good_of a l1 l2 l3 l4 c0).l y hy).1
def propsV (a : Int) (l1 : List S86) (l2 : List S67) (l3 l4 : List Int) (st inp : List Bool) : Bool × List Bool × Int :=
  if (allV a l1 l2 l3 l4 st inp).2 = 0 then (!(l4.any fun x => !(valV (allV a l1 l2 l3 l4 st inp).1 x)), l3.map (valV (allV a l1 l2 l3 l4 st inp).1), 0) else (false, [], (allV a l1 l2 l3 l4 st inp).2)
theorem vprops_eq (a : Int) (l1 : List S86) (l2 : List S67) (l3 l4 : List Int) (st inp : List Bool) (hs : Small l1 l2 l3 l4) (hw : Wf a l1 l2 l3 l4) :
    values_Props.f a l1 l2 l3 l4 st inp = some (propsV a l1 l2 l3 l4 st inp) := by
  have h3 := hs.h3
  have h4 := hs.h4
  unfold values_Props.f
  rw [if_pos ⟨by omega, by omega⟩, listF_eq a l1 l2 l3 l4 st inp l3 hs hw (fun c0 => (good_of a l1 l2 l3 l4 c0).b), Option.bind_some, listF_eq a l1 l2 l3 l4 st inp l4 hs hw (fun c0 => (good_of a l1 l2 l3 l4 c0).c)]
  unfold litsV propsV
  by_cases c : (allV a l1 l2 l3 l4 st inp).2 = 0
  · rw [if_pos c, if_pos c, if_pos c]
    dsimp only
    rw [if_pos rfl, Option.bind_some, List.any_map]
    rfl
  · rw [if_neg c, if_neg c]
    dsimp only
    first | rfl | rw [if_neg c]
theorem vOf_eq (l : List Bool) (x : Int) (h0 : 0 ≤ x) (h1 : x / 2 < l.length) (h2 : l.length ≤ 100000) : values_Of.f l x = some (valV l x, 0) := by
  unfold values_Of.f
  rw [if_neg (by omega), if_neg (by omega), vof_eq l x h0 h1 h2]
  rfl
-- an AND that is built, and its value
theorem bx_eq (y : Int) (h0 : 0 ≤ y) (h1 : y < 9223372036854775807) : Go.bits .xor .i64 y 1 = if y % 2 = 0 then y + 1 else y - 1 := bxor1 y h0 h1
theorem bx_bx (y : Int) (h0 : 0 ≤ y) (h1 : y < 9223372036854775800) : Go.bits .xor .i64 (Go.bits .xor .i64 y 1) 1 = y := by
  rw [bx_eq y h0 (by omega)]
  split
  · rw [bx_eq _ (by omega) (by omega), if_neg (by omega)]; omega
  · rw [bx_eq _ (by omega) (by omega), if_pos (by omega)]; omega
theorem bx_val (F : List Bool) (y : Int) (h0 : 0 ≤ y) (h1 : y < 9223372036854775807) : valV F (Go.bits .xor .i64 y 1) = !valV F y := by
  rw [bx_eq y h0 h1]
  unfold valV
  split
  · rename_i h
    rw [show (y + 1) / 2 = y / 2 by omega, decide_eq_true (show (y + 1) % 2 = 1 by omega), decide_eq_false (show ¬ y % 2 = 1 by omega)]
    cases rdOf false F (y / 2) <;> rfl
  · rename_i h
    rw [show (y - 1) / 2 = y / 2 by omega, decide_eq_false (show ¬ (y - 1) % 2 = 1 by omega), decide_eq_true (show y % 2 = 1 by omega)]
    cases rdOf false F (y / 2) <;> rfl
theorem frameV_app : ∀ (g1 g2 : List S67) (acc : List Bool), frameV acc (g1 ++ g2) = frameV (frameV acc g1) g2
  | [], _, _ => rfl
  | g :: g1, g2, acc => by
    rw [List.cons_append, frameV, frameV, frameV_app g1 g2]
theorem frameV_pre : ∀ (gs : List S67) (acc : List Bool), ∃ E, frameV acc gs = acc ++ E
  | [], acc => ⟨[], by rw [frameV, List.append_nil]⟩
  | g :: gs, acc => by
    obtain ⟨E, h⟩ := frameV_pre gs (acc ++ [valV acc g.f0 && valV acc g.f1])
    exact ⟨_, by rw [frameV, h, List.append_assoc]⟩
theorem rdOf_app (l m : List Bool) (i : Nat) (h : i < l.length) : rdOf false (l ++ m) (i : Int) = rdOf false l (i : Int) := by
  simp [rdOf, List.getD, List.getElem?_append_left h]
theorem frame_at {acc : List Bool} {gs : List S67} (hg : Gates acc.length gs) (i : Nat) (hi : i < gs.length) :
    rdOf false (frameV acc gs) ((acc.length + i : Nat) : Int) = (valV (frameV acc gs) gs[i].f0 && valV (frameV acc gs) gs[i].f1) := by
  have e : gs = gs.take i ++ ([gs[i]] ++ gs.drop (i + 1)) := by
    rw [List.singleton_append, ← List.drop_eq_getElem_cons hi, List.take_append_drop]
  have hF : frameV acc gs = frameV (frameV acc (gs.take i) ++ [valV (frameV acc (gs.take i)) gs[i].f0 && valV (frameV acc (gs.take i)) gs[i].f1]) (gs.drop (i + 1)) := by
    conv => lhs; rw [e, frameV_app, frameV_app]
    rfl
  have hl : (frameV acc (gs.take i)).length = acc.length + i := by rw [frameV_len, List.length_take]; omega
  obtain ⟨E, hE⟩ := frameV_pre (gs.drop (i + 1)) (frameV acc (gs.take i) ++ [valV (frameV acc (gs.take i)) gs[i].f0 && valV (frameV acc (gs.take i)) gs[i].f1])
  obtain ⟨h1, h2, h3⟩ := hg i hi
  rw [hF, hE, List.append_assoc, valV_app _ _ _ (by omega) (by rw [hl]; omega), valV_app _ _ _ (by omega) (by rw [hl]; omega)]
  rw [show acc.length + i = (frameV acc (gs.take i)).length from hl.symm]
  simp [rdOf, List.getD]
theorem findG_some {first : Int} {gs : List S67} {x y l : Int} (h : findG first gs x y = some l) : ∃ (i : Nat) (hi : i < gs.length), l = 2 * (first + (i : Int)) ∧ gs[i].f0 = x ∧ gs[i].f1 = y := by
  unfold findG at h
  obtain ⟨i, hi, rfl⟩ := Option.map_eq_some_iff.1 h
  obtain ⟨hlt, hp, _⟩ := List.findIdx?_eq_some_iff_getElem.1 hi
  have := of_decide_eq_true hp
  exact ⟨i, hlt, rfl, this.1, this.2⟩
theorem mxmn_val (F : List Bool) (x y : Int) : (valV F (mx x y) && valV F (mn x y)) = (valV F x && valV F y) := by
  unfold mx mn
  rcases Int.lt_trichotomy x y with h | h | h
  · rw [if_pos h, if_neg (by omega), Bool.and_comm]
  · subst h; simp
  · rw [if_neg (by omega), if_pos h]
theorem val_even (F : List Bool) (i : Int) : valV F (2 * i) = rdOf false F i := by
  unfold valV
  rw [show 2 * i / 2 = i by omega, decide_eq_false (show ¬ (2 * i) % 2 = 1 by omega)]
  cases rdOf false F i <;> rfl
theorem val_0 (F : List Bool) (h : rdOf false F 0 = false) : valV F 0 = false := by
  have := val_even F 0
  rw [show (2 : Int) * 0 = 0 from rfl] at this
  rw [this, h]
theorem val_1 (F : List Bool) (h : rdOf false F 0 = false) : valV F 1 = true := by
  unfold valV
  rw [show (1 : Int) / 2 = 0 from rfl, h]; rfl
theorem andP_cases (first : Int) (gs : List S67) (x y : Int) : (andP first gs x y).1 = gs ∨ ((andP first gs x y) = (gs ++ [⟨mx x y, mn x y⟩], 2 * (first + (gs.length : Int))) ∧ x ≠ 0 ∧ y ≠ 0 ∧ x ≠ 1 ∧ y ≠ 1 ∧ x ≠ y ∧ x ≠ Go.bits .xor .i64 y 1 ∧ findG first gs (mx x y) (mn x y) = none) := by
  unfold andP
  split
  · exact Or.inl rfl
  · rename_i c1
    split
    · exact Or.inl rfl
    · rename_i c2
      split
      · exact Or.inl rfl
      · rename_i c3
        cases e : findG first gs (mx x y) (mn x y) with
        | some l => exact Or.inl rfl
        | none => exact Or.inr ⟨rfl, fun h => c1 (Or.inl h), fun h => c1 (Or.inr (Or.inl h)), fun h => c2 (Or.inl h), c3, fun h => c2 (Or.inr h), fun h => c1 (Or.inr (Or.inr h)), rfl⟩
theorem frame0 {acc : List Bool} (gs : List S67) (hp : 0 < acc.length) (h : rdOf false acc 0 = false) : rdOf false (frameV acc gs) 0 = false := by
  obtain ⟨E, hE⟩ := frameV_pre gs acc
  rw [hE]
  exact (rdOf_app acc E 0 hp).trans h
theorem andP_val {acc : List Bool} {gs : List S67} {first x y : Int} (hb : (acc.length : Int) = first) (hp : 0 < acc.length) (ha : rdOf false acc 0 = false) (hg : Gates acc.length gs) (x0 : 0 ≤ x) (x1 : x / 2 < (acc.length : Int) + gs.length) (y0 : 0 ≤ y) (y1 : y / 2 < (acc.length : Int) + gs.length) (hlen : acc.length + gs.length ≤ 100000) :
    valV (frameV acc (andP first gs x y).1) (andP first gs x y).2 = (valV (frameV acc gs) x && valV (frameV acc gs) y) := by
  have hF0 := frame0 gs hp ha
  unfold andP
  by_cases c1 : x = 0 ∨ y = 0 ∨ x = Go.bits .xor .i64 y 1
  · rw [if_pos c1]
    dsimp only
    rw [val_0 _ hF0]
    rcases c1 with rfl | rfl | h
    · rw [val_0 _ hF0]; rfl
    · rw [val_0 _ hF0, Bool.and_false]
    · rw [h, bx_val _ y y0 (by omega)]; cases valV (frameV acc gs) y <;> rfl
  rw [if_neg c1]
  by_cases c2 : x = 1 ∨ x = y
  · rw [if_pos c2]
    rcases c2 with rfl | rfl
    · rw [val_1 _ hF0]; rfl
    · rw [Bool.and_self]
  rw [if_neg c2]
  by_cases c3 : y = 1
  · rw [if_pos c3]
    subst c3
    rw [val_1 _ hF0, Bool.and_true]
  rw [if_neg c3]
  cases e : findG first gs (mx x y) (mn x y) with
  | some l =>
    obtain ⟨i, hi, rfl, g0, g1⟩ := findG_some e
    dsimp only
    rw [val_even, ← hb, show (acc.length : Int) + (i : Int) = ((acc.length + i : Nat) : Int) by omega, frame_at hg i hi, g0, g1, mxmn_val]
  | none =>
    dsimp only
    have hl := frameV_len gs acc
    rw [val_even, ← hb, frameV_snoc, show (acc.length : Int) + (gs.length : Int) = ((frameV acc gs).length : Int) by omega, ← mxmn_val (frameV acc gs) x y]
    simp [rdOf, List.getD]
theorem okH_of {a : Int} {l1 : List S86} {l2 : List S67} {l3 l4 : List Int} (hg : Good a l1 l2 l3 l4) (hs : Small l1 l2 l3 l4) : okH a l1 l2 l3 l4 = true := by
  have h0 := hg.a0
  have h1 := hg.a1
  have s1 := hs.h1
  have s2 := hs.h2
  have s3 := hs.h3
  have s4 := hs.h4
  unfold okH
  rw [Bool.and_eq_true, decide_eq_true_eq, List.all_eq_true]
  refine ⟨by omega, fun g hgm => ?_⟩
  obtain ⟨i, hi, rfl⟩ := List.getElem_of_mem hgm
  obtain ⟨b1, b2, b3⟩ := hg.g i hi
  unfold okG
  rw [decide_eq_true_eq]
  omega
structure Fine (first : Int) (gs : List S67) : Prop where
  ok : ∀ (i : Nat) (h : i < gs.length), 2 ≤ gs[i].f1 ∧ gs[i].f1 < gs[i].f0 ∧ gs[i].f0 ≠ Go.bits .xor .i64 gs[i].f1 1 ∧ gs[i].f0 / 2 < first + (i : Int)
  one : ∀ (i j : Nat) (hi : i < gs.length) (hj : j < gs.length), i < j → ¬ (gs[i].f0 = gs[j].f0 ∧ gs[i].f1 = gs[j].f1)
theorem fine_nil (first : Int) : Fine first [] := ⟨fun i h => absurd h (by simp), fun i j hi => absurd hi (by simp)⟩
theorem findG_miss {first : Int} {gs : List S67} {p q : Int} (h : findG first gs p q = none) (i : Nat) (hi : i < gs.length) : ¬ (gs[i].f0 = p ∧ gs[i].f1 = q) := by
  unfold findG at h
  rw [Option.map_eq_none_iff, List.findIdx?_eq_none_iff] at h
  have := h _ (List.getElem_mem hi)
  simpa using this
theorem fine_step {first : Int} {gs : List S67} {x y : Int} (hf : 1 ≤ first) (h : Fine first gs) (x0 : 0 ≤ x) (x1 : x / 2 < first + (gs.length : Int)) (y0 : 0 ≤ y) (y1 : y / 2 < first + (gs.length : Int)) (hx : x < 1000000) (hy : y < 1000000) :
    Fine first (andP first gs x y).1 ∧ 0 ≤ (andP first gs x y).2 ∧ (andP first gs x y).2 / 2 < first + ((andP first gs x y).1.length : Int) := by
  rcases andP_cases first gs x y with e | ⟨e, c0, c1, c2, c3, c4, c5, c6⟩
  · rw [e]
    refine ⟨h, ?_⟩
    unfold andP
    split
    · dsimp only; omega
    · split
      · dsimp only; omega
      · split
        · dsimp only; omega
        · split
          · rename_i l hl
            obtain ⟨i, hi, rfl, -, -⟩ := findG_some hl
            dsimp only; omega
          · rename_i hl
            dsimp only
            exfalso
            unfold andP at e
            simp_all
  · rw [e]
    dsimp only
    have hm : 2 ≤ mn x y ∧ mn x y < mx x y ∧ mx x y / 2 < first + (gs.length : Int) ∧ mx x y ≠ Go.bits .xor .i64 (mn x y) 1 := by
      have h2 : y ≠ Go.bits .xor .i64 x 1 := fun h => c5 (by rw [h, bx_bx x x0 (by omega)])
      unfold mx mn
      split <;> split <;> first | omega | (refine ⟨by omega, by omega, by omega, ?_⟩; assumption)
    refine ⟨⟨fun i hi => ?_, fun i j hi hj hij => ?_⟩, by omega, by rw [List.length_append, List.length_singleton]; omega⟩
    · by_cases c : i < gs.length
      · rw [List.getElem_append_left c]
        exact h.ok i c
      · have hi2 : i = gs.length := by rw [List.length_append, List.length_singleton] at hi; omega
        subst hi2
        simp only [List.getElem_concat_length]
        exact ⟨hm.1, hm.2.1, hm.2.2.2, hm.2.2.1⟩
    · have hjl : j ≤ gs.length := by rw [List.length_append, List.length_singleton] at hj; omega
      have hil : i < gs.length := by omega
      rw [List.getElem_append_left hil]
      by_cases c : j < gs.length
      · rw [List.getElem_append_left c]
        exact h.one i j hil c hij
      · have hj2 : j = gs.length := by omega
        subst hj2
        simp only [List.getElem_concat_length]
        exact findG_miss c6 i hil
theorem sgn_lit {T : List Int} {B : Int} (hT : ∀ t ∈ T, 0 ≤ t ∧ t / 2 < B) (hB : B ≤ 100000) (l : Int) (h0 : 0 ≤ l) (h1 : l / 2 < T.length) (h2 : l ≤ 1000000) : 0 ≤ sgnP T l ∧ sgnP T l / 2 < B := by
  have hm := hT _ (rd_mem T (l / 2) (by omega) h1)
  rw [sgnP_eq T l h0 (by omega) hm.1 (by omega)]
  unfold notH
  split
  · exact hm
  · split <;> omega
structure InvB (first : Int) (k : Nat) (s : List S67 × List Int) : Prop where
  fine : Fine first s.1
  len : s.2.length = k
  cnt : s.1.length = 0 ∨ first + (s.1.length : Int) ≤ (k : Int)
  lits : ∀ t ∈ s.2, 0 ≤ t ∧ t / 2 < first + (s.1.length : Int)
theorem inv_step {first : Int} {ands : List S67} {given : List Int} {ins : Int} {k : Nat} (hf : 1 ≤ first) (ha : okA first ands = true) (hg : badG ins given k = false) (hk : (k : Int) < first + (ands.length : Int)) (hN : first + (ands.length : Int) ≤ 50000) {s : List S67 × List Int} (h : InvB first k s) : InvB first (k + 1) (stepB first ands given s) := by
  obtain ⟨h1, h2, h3, h4⟩ := h
  have hB : first + (s.1.length : Int) ≤ 100000 := by omega
  unfold stepB
  rw [h2]
  by_cases c : 0 ≤ rd given (k : Int)
  · rw [if_pos c]
    have hb := badG_not hg c
    have hs := sgn_lit h4 hB _ c (by rw [h2]; omega) (by omega)
    refine ⟨h1, by dsimp only; rw [List.length_append, List.length_singleton, h2], by dsimp only; omega, fun t ht => ?_⟩
    rcases List.mem_append.1 ht with ht | ht
    · exact h4 t ht
    · rw [List.mem_singleton.1 ht]; exact hs
  · rw [if_neg c]
    by_cases c1 : (k : Int) < first
    · rw [if_pos c1]
      refine ⟨h1, by dsimp only; rw [List.length_append, List.length_singleton, h2], by dsimp only; omega, fun t ht => ?_⟩
      rcases List.mem_append.1 ht with ht | ht
      · exact h4 t ht
      · rw [List.mem_singleton.1 ht]; dsimp only; omega
    · rw [if_neg c1]
      obtain ⟨i, hi⟩ : ∃ i : Nat, (i : Int) = (k : Int) - first := ⟨((k : Int) - first).toNat, by omega⟩
      obtain ⟨a0, a1, a2, a3⟩ := okA_at ha i (by omega)
      rw [← hi]
      have hs := sgn_lit h4 hB _ a0 (by rw [h2]; omega) (by omega)
      have ht := sgn_lit h4 hB _ a2 (by rw [h2]; omega) (by omega)
      generalize sgnP s.2 (rd_T67 ands (i : Int)).f0 = x at *
      generalize sgnP s.2 (rd_T67 ands (i : Int)).f1 = y at *
      obtain ⟨f1, f2, f3⟩ := fine_step hf h1 hs.1 hs.2 ht.1 ht.2 (by omega) (by omega)
      have hl := andP_len first s.1 x y
      have hge : s.1.length ≤ (andP first s.1 x y).1.length := by
        rcases andP_cases first s.1 x y with e | ⟨e, -⟩
        · rw [e]; exact Nat.le_refl _
        · rw [e]; simp
      refine ⟨f1, by dsimp only; rw [List.length_append, List.length_singleton, h2], by dsimp only; omega, fun t ht => ?_⟩
      rcases List.mem_append.1 ht with ht | ht
      · have := h4 t ht; dsimp only; omega
      · rw [List.mem_singleton.1 ht]; exact ⟨f2, f3⟩
theorem inv_run {first : Int} {ands : List S67} {given : List Int} {ins : Int} (hf : 1 ≤ first) (ha : okA first ands = true) (hN : first + (ands.length : Int) ≤ 50000) : ∀ k : Nat, (k : Int) ≤ first + (ands.length : Int) → (∀ v : Nat, v < k → badG ins given v = false) → InvB first k (runB first ands given k)
  | 0, _, _ => ⟨fine_nil first, rfl, Or.inl rfl, fun t ht => absurd ht (by simp [runB])⟩
  | k + 1, hk, hg => inv_step hf ha (hg k (by omega)) (by omega) hN (inv_run hf ha hN k (by omega) (fun v hv => hg v (by omega)))
theorem okC_of {a : Int} {l1 : List S86} {l2 : List S67} {l3 l4 g : List Int} (hg : Good a l1 l2 l3 l4) (hs : Small l1 l2 l3 l4) (h : g.length ≤ 60000) : okC a l1 l2 l3 l4 g = true := by
  have ho := okH_of hg hs
  unfold okC okA
  simp only [Bool.and_eq_true, decide_eq_true_eq, List.all_eq_true]
  refine ⟨⟨⟨⟨⟨ho, fun i hi => ?_⟩, h⟩, fun x hx => ?_⟩, fun x hx => ?_⟩, fun x hx => ?_⟩
  · have hi := List.mem_range.1 hi
    obtain ⟨b1, b2, b3⟩ := hg.g i hi
    have er : rd_T67 l2 (i : Int) = l2[i] := by simp [rd_T67, List.getD, hi]
    have := hg.a0
    rw [er]; omega
  · have := (hg.l x hx).1; unfold szS at this; omega
  · have := hg.b x hx; unfold szS at this; omega
  · have := hg.c x hx; unfold szS at this; omega
theorem lens_of {a : Int} {l1 : List S86} {l2 : List S67} {l3 l4 : List Int} (h : checkR a l1 l2 l3 l4 = 0) : l3.length ≤ 100 ∧ l4.length ≤ 100 := by
  unfold checkR at h
  by_cases c0 : a < 0
  · rw [if_pos c0] at h; omega
  · rw [if_neg c0] at h
    by_cases c1 : a > 1000 ∨ szS a l1 l2 > 1000 ∨ l3.length > 100 ∨ l4.length > 100
    · rw [if_pos c1] at h; omega
    · omega
theorem built_good {a : Int} {l1 : List S86} {l2 G : List S67} {l3 l4 T : List Int} {N : Nat} (hg : Good a l1 l2 l3 l4) (hi : InvB (a + (l1.length : Int) + 1) N (G, T)) (hN : (N : Int) = szS a l1 l2 + 1) :
    Good a (l1.map (fun x => (⟨sgnP T x.f0, x.f1⟩ : S86))) G (l3.map (sgnP T)) (l4.map (sgnP T)) ∧ G.length ≤ l2.length := by
  obtain ⟨h1, h2, h3, h4⟩ := hi
  dsimp only at h1 h2 h3 h4
  have ha0 := hg.a0
  have ha1 := hg.a1
  have hn := hg.n
  have hG : G.length ≤ l2.length := by unfold szS at hN; omega
  have hz : szS a (l1.map (fun x => (⟨sgnP T x.f0, x.f1⟩ : S86))) G = a + (l1.length : Int) + (G.length : Int) := by unfold szS; rw [List.length_map]
  have hB : a + (l1.length : Int) + 1 + (G.length : Int) ≤ 100000 := by unfold szS at hn; omega
  have key : ∀ x : Int, 0 ≤ x → x / 2 ≤ szS a l1 l2 → 0 ≤ sgnP T x ∧ sgnP T x / 2 ≤ a + (l1.length : Int) + (G.length : Int) := fun x x0 x1 => by
    have := sgn_lit h4 hB x x0 (by omega) (by omega)
    omega
  refine ⟨⟨ha0, ha1, by rw [hz]; unfold szS at hn; omega, fun i hi => ?_, fun x hx => ?_, fun x hx => ?_, fun x hx => ?_⟩, hG⟩
  · obtain ⟨b1, b2, b3, b4⟩ := h1.ok i hi
    rw [List.length_map]
    refine ⟨by omega, by omega, by omega⟩
  · obtain ⟨y, hy, rfl⟩ := List.mem_map.1 hx
    obtain ⟨b1, b2⟩ := hg.l y hy
    rw [hz]
    exact ⟨key _ b1.1 b1.2, b2⟩
  · obtain ⟨y, hy, rfl⟩ := List.mem_map.1 hx
    obtain ⟨b1, b2⟩ := hg.b y hy
    rw [hz]
    exact key _ b1 b2
  · obtain ⟨y, hy, rfl⟩ := List.mem_map.1 hx
    obtain ⟨b1, b2⟩ := hg.c y hy
    rw [hz]
    exact key _ b1 b2
theorem good_wf {a : Int} {l1 : List S86} {l2 : List S67} {l3 l4 : List Int} (hg : Good a l1 l2 l3 l4) (h2 : l2.length ≤ 130) : Wf a l1 l2 l3 l4 := by
  have ha0 := hg.a0
  have ha1 := hg.a1
  have hn := hg.n
  refine ⟨by omega, fun x hx => ?_, fun x hx => ?_, fun x hx => ?_, fun x hx => ?_⟩
  · have := hg.l x hx; omega
  · obtain ⟨i, hi, rfl⟩ := List.getElem_of_mem hx
    obtain ⟨b1, b2, b3⟩ := hg.g i hi
    unfold szS at hn
    omega
  · have := hg.b x hx; omega
  · have := hg.c x hx; omega
def litL (a : Int) (n : Nat) : List Int := (List.range n).map (fun j : Nat => 2 * (a + 1 + (j : Int)))
def litR (n : Nat) : List Int := (List.range n).map (fun j : Nat => 2 * ((j : Int) + 1))
theorem litL_succ (a : Int) (n : Nat) : litL a (n + 1) = litL a n ++ [2 * (a + 1 + (n : Int))] := by simp [litL, List.range_succ]
theorem litR_succ (n : Nat) : litR (n + 1) = litR n ++ [2 * ((n : Int) + 1)] := by simp [litR, List.range_succ]
theorem litL_len (a : Int) (n : Nat) : (litL a n).length = n := by simp [litL]
theorem litR_len (n : Nat) : (litR n).length = n := by simp [litR]
theorem idx_l1 (a : Int) (a0 : 0 ≤ a) (a1 : a ≤ 10000) (l1 : List S86) (l2 : List S67) (l3 l4 : List Int) (s p lit : Int) (rows : List (List Int)) (n : Nat) (hn : n ≤ 10000) (d : Nat) : ∀ (k j : Nat), j + d = n → d < k → lift_Identity.l1 k (n : Int) (j : Int) a l1 l2 l3 l4 s p (litL a j) rows lit = some (s, p, litL a n, rows, litL a n, [], lit, 0) := by
  induction d with
  | zero =>
    intro k j hj hk
    obtain ⟨k, rfl⟩ : ∃ m, k = m + 1 := ⟨k - 1, by omega⟩
    simp only [lift_Identity.l1]
    obtain rfl : j = n := by omega
    rw [if_neg (by omega)]
    unfold slices_Clone_int_int.f
    rw [if_pos (by rw [litL_len]; omega)]
    rfl
  | succ d ih =>
    intro k j hj hk
    obtain ⟨k, rfl⟩ : ∃ m, k = m + 1 := ⟨k - 1, by omega⟩
    simp only [lift_Identity.l1]
    rw [if_pos (by omega), if_pos (by rw [litL_len]; omega), w64 (a + 1) (by omega) (by omega), w64 (a + 1 + (j : Int)) (by omega) (by omega), w64 (2 * (a + 1 + (j : Int))) (by omega) (by omega), w64 ((j : Int) + 1) (by omega) (by omega), ← litL_succ, show (j : Int) + 1 = ((j + 1 : Nat) : Int) by omega]
    exact ih k (j + 1) (by omega) (by omega)
theorem idx_l0 (A : Nat) (hA : A ≤ 10000) (l1 : List S86) (l2 : List S67) (l3 l4 : List Int) (s p lit : Int) (hn : l1.length ≤ 10000) (d : Nat) : ∀ (k v : Nat), v + d = A → d + l1.length + 1 < k → lift_Identity.l0 k ((v : Int) + 1) (A : Int) l1 l2 l3 l4 s p [litR v] lit = some (s, p, litL (A : Int) l1.length, [litR A], litL (A : Int) l1.length, [], lit, 0) := by
  induction d with
  | zero =>
    intro k v hv hk
    obtain ⟨k, rfl⟩ : ∃ m, k = m + 1 := ⟨k - 1, by omega⟩
    simp only [lift_Identity.l0]
    obtain rfl : v = A := by omega
    rw [if_neg (by omega)]
    exact idx_l1 (v : Int) (by omega) (by omega) l1 l2 l3 l4 s p lit _ l1.length hn l1.length k 0 (by omega) (by omega)
  | succ d ih =>
    intro k v hv hk
    obtain ⟨k, rfl⟩ : ∃ m, k = m + 1 := ⟨k - 1, by omega⟩
    simp only [lift_Identity.l0]
    have er : rd_L4 [litR v] 0 = litR v := rfl
    have es : ([litR v] : List (List Int)).set (0 : Int).toNat (litR v ++ [2 * ((v : Int) + 1)]) = [litR (v + 1)] := by rw [litR_succ]; rfl
    rw [er, if_pos (by omega), if_pos (by simp), if_pos (by rw [litR_len]; omega), w64 (2 * ((v : Int) + 1)) (by omega) (by omega), es, w64 ((v : Int) + 1 + 1) (by omega) (by omega), show (v : Int) + 1 + 1 = ((v + 1 : Nat) : Int) + 1 by omega]
    exact ih k (v + 1) (by omega) (by omega)
theorem idx_eq (k : Nat) (A : Nat) (l1 : List S86) (l2 : List S67) (l3 l4 : List Int) (hs : Small l1 l2 l3 l4) (hw : Wf (A : Int) l1 l2 l3 l4) (hc : checkR (A : Int) l1 l2 l3 l4 = 0) (hk : 2000 ≤ k) : lift_Identity.f k (A : Int) l1 l2 l3 l4 = some (0, 1, litL (A : Int) l1.length, [litR A], litL (A : Int) l1.length, [], 1, 0) := by
  have hg := good_of _ l1 l2 l3 l4 hc
  have ha0 := hg.a0
  have ha1 := hg.a1
  have hs1 := hs.h1
  unfold lift_Identity.f
  rw [gcheck_eq _ l1 l2 l3 l4 hs hw, Option.bind_some, hc, if_pos rfl, if_pos (by decide)]
  have := idx_l0 A (by omega) l1 l2 l3 l4 0 1 1 (by omega) A k 0 (by omega) (by omega)
  exact this
theorem isl_eq (A : Nat) (hA : A ≤ 1000) (L : List S86) (G : List S67) (B C : List Int) (i : Nat) (hi : i < L.length) (hL : L.length ≤ 1000) : lift_isLatch.f (A : Int) L G B C (2 * ((A : Int) + 1 + (i : Int))) = some true := by
  unfold lift_isLatch.f
  rw [w64 ((A : Int) + 1) (by omega) (by omega), w64 (2 * ((A : Int) + 1)) (by omega) (by omega), w64 ((A : Int) + 1 + (L.length : Int)) (by omega) (by omega), w64 (2 * ((A : Int) + 1 + (L.length : Int))) (by omega) (by omega), if_pos (by omega), decide_eq_true (by omega)]
theorem litL_rd (a : Int) (n j : Nat) (h : j < n) : rd (litL a n) (j : Int) = 2 * (a + 1 + (j : Int)) := by rw [rd_at _ j (by rw [litL_len]; exact h)]; simp [litL]
theorem litR_rd (n j : Nat) (h : j < n) : rd (litR n) (j : Int) = 2 * ((j : Int) + 1) := by rw [rd_at _ j (by rw [litR_len]; exact h)]; simp [litR]
theorem predOk (k : Nat) (hk : 3 ≤ k) (n : Int) (h0 : 0 ≤ n) (h1 : n ≤ 1000) : preds_Check.f k n [] 1 = some 0 := by
  obtain ⟨k, rfl⟩ : ∃ m, k = m + 1 + 1 := ⟨k - 2, by omega⟩
  unfold preds_Check.f
  rw [if_neg (by omega), decide_eq_false (by omega)]
  simp only [preds_Check.j0, preds_Check.l0]
  rw [if_neg (by decide), if_neg (by rw [w64 _ (by simp; omega) (by simp; omega)]; simp; omega), if_neg (by simp), if_neg (by decide), if_neg]
  rw [w64 (n + (([] : List S67).length : Int)) (by simp; omega) (by simp; omega)]
  simp [wrap64]
  omega
theorem fits_l3 (A : Nat) (hA : A ≤ 1000) (l1 : List S86) (hl : l1.length ≤ 1000) (l2 : List S67) (l3 l4 : List Int) (p q : Int) (x y : List Int) (z : List (List Int)) (d : Nat) : ∀ (k j : Nat), j + d = l1.length → d + 5 < k →
    lift_fits.l3 k true (litL (A : Int) l1.length) (l1.length : Int) (j : Int) (A : Int) l1 l2 l3 l4 p q x z y [] 1 = some true := by
  induction d with
  | zero =>
    intro k j hj hk
    obtain ⟨k, rfl⟩ : ∃ m, k = m + 1 := ⟨k - 1, by omega⟩
    rw [lift_fits.l3, if_neg (by omega), if_pos rfl, predOk k (by omega) _ (by omega) (by omega)]
    rfl
  | succ d ih =>
    intro k j hj hk
    obtain ⟨k, rfl⟩ : ∃ m, k = m + 1 := ⟨k - 1, by omega⟩
    have hjl : j < l1.length := by omega
    rw [lift_fits.l3, if_pos (by omega), if_pos (by omega), if_pos (by rw [litL_len]; omega), if_pos rfl, litL_rd _ _ _ hjl, if_neg (by omega), isl_eq A hA l1 l2 l3 l4 j hjl hl, Option.bind_some, w64 ((j : Int) + 1) (by omega) (by omega)]
    exact_mod_cast ih k (j + 1) (by omega) (by omega)
theorem fits_l1e (A : Nat) (hA : A ≤ 1000) (l1 : List S86) (hl : l1.length ≤ 1000) (l2 : List S67) (l3 l4 : List Int) (A2 : Int) (L : List S86) (G : List S67) (B C : List Int) (p q : Int) (x : List Int) (z z2 : List (List Int)) (k : Nat) (hk : l1.length + 10 < k) :
    lift_fits.l1 k true z2 1 1 (A : Int) l1 l2 l3 l4 A2 L G B C p q x z (litL (A : Int) l1.length) [] 1 = some true := by
  obtain ⟨k, rfl⟩ : ∃ m, k = m + 1 := ⟨k - 1, by omega⟩
  rw [lift_fits.l1, if_neg (by decide), litL_len]
  exact_mod_cast fits_l3 A hA l1 hl l2 l3 l4 p q x _ z l1.length k 0 (by omega) (by omega)
theorem fits_l2 (A : Nat) (hA : A ≤ 1000) (l1 : List S86) (hl : l1.length ≤ 1000) (l2 : List S67) (l3 l4 : List Int) (L : List S86) (G : List S67) (B C : List Int) (p q : Int) (x : List Int) (z z2 : List (List Int)) (d : Nat) : ∀ (k j : Nat), j + d = A → d + l1.length + 20 < k →
    lift_fits.l2 k true z2 1 0 (litR A) (A : Int) (j : Int) (A : Int) l1 l2 l3 l4 (A : Int) L G B C p q x z (litL (A : Int) l1.length) [] 1 = some true := by
  induction d with
  | zero =>
    intro k j hj hk
    obtain ⟨k, rfl⟩ : ∃ m, k = m + 1 := ⟨k - 1, by omega⟩
    rw [lift_fits.l2, if_neg (by omega), w64 (0 + 1) (by decide) (by decide)]
    exact fits_l1e A hA l1 hl l2 l3 l4 A L G B C p q x z z2 k (by omega)
  | succ d ih =>
    intro k j hj hk
    obtain ⟨k, rfl⟩ : ∃ m, k = m + 1 := ⟨k - 1, by omega⟩
    have hjl : j < A := by omega
    rw [lift_fits.l2, if_pos (by omega), if_pos (by omega), if_pos (by rw [litR_len]; omega), if_pos rfl, litR_rd _ _ hjl, if_pos (by omega), if_pos (by rw [Int.tmod_eq_emod_of_nonneg (by omega)]; omega), w64 (2 * (A : Int)) (by omega) (by omega), decide_eq_true (by omega), w64 ((j : Int) + 1) (by omega) (by omega)]
    exact_mod_cast ih k (j + 1) (by omega) (by omega)
theorem fits_l0 (A : Nat) (hA : A ≤ 1000) (l1 : List S86) (hl : l1.length ≤ 1000) (l2 : List S67) (l3 l4 : List Int) (L : List S86) (hL : L.length = l1.length) (G : List S67) (B C : List Int) (p q : Int) (x : List Int) (d : Nat) : ∀ (k j : Nat), j + d = l1.length → d + A + l1.length + 30 < k →
    lift_fits.l0 k true (litL (A : Int) l1.length) (l1.length : Int) (j : Int) (A : Int) l1 l2 l3 l4 (A : Int) L G B C p q x [litR A] (litL (A : Int) l1.length) [] 1 = some true := by
  induction d with
  | zero =>
    intro k j hj hk
    obtain ⟨k, rfl⟩ : ∃ m, k = m + 1 + 1 + 1 := ⟨k - 3, by omega⟩
    have er : rd_L4 [litR A] 0 = litR A := rfl
    rw [lift_fits.l0, if_neg (by omega), lift_fits.l1, if_pos (by simp), if_pos (by decide), if_pos (by simp), if_pos rfl, er, litR_len, lift_fits.j4, litR_len]
    have e : ((A : Int) == (A : Int)) = true := by simp
    rw [e]
    exact_mod_cast fits_l2 A hA l1 hl l2 l3 l4 L G B C p q x [litR A] [litR A] A k 0 (by omega) (by omega)
  | succ d ih =>
    intro k j hj hk
    obtain ⟨k, rfl⟩ : ∃ m, k = m + 1 := ⟨k - 1, by omega⟩
    have hjl : j < l1.length := by omega
    rw [lift_fits.l0, if_pos (by omega), if_pos (by omega), if_pos (by rw [litL_len]; omega), if_pos rfl, litL_rd _ _ _ hjl, if_neg (by omega), if_neg (by omega), isl_eq A hA L G B C j (by omega) (by omega), Option.bind_some, w64 ((j : Int) + 1) (by omega) (by omega)]
    exact_mod_cast ih k (j + 1) (by omega) (by omega)
theorem chk_eq (k : Nat) (A : Nat) (hA : A ≤ 1000) (l1 : List S86) (l2 : List S67) (l3 l4 : List Int) (L : List S86) (G : List S67) (B C : List Int) (hs : Small l1 l2 l3 l4) (hw : Wf (A : Int) l1 l2 l3 l4) (hc : checkR (A : Int) l1 l2 l3 l4 = 0) (hs' : Small L G B C) (hw' : Wf (A : Int) L G B C) (hc' : checkR (A : Int) L G B C = 0) (hL : L.length = l1.length) (hk : 5000 ≤ k) :
    lift_Check.f k (A : Int) l1 l2 l3 l4 (A : Int) L G B C 0 1 (litL (A : Int) L.length) [litR A] (litL (A : Int) L.length) [] 1 = some 0 := by
  have h1 := hs.h1
  obtain ⟨k, rfl⟩ : ∃ m, k = m + 1 + 1 := ⟨k - 2, by omega⟩
  unfold lift_Check.f lift_fits.f
  rw [gcheck_eq _ l1 l2 l3 l4 hs hw, hc, gcheck_eq _ L G B C hs' hw', hc', Option.bind_some, if_pos rfl, Option.bind_some, if_pos rfl, if_pos (by decide), if_pos (by decide), if_pos (by decide), lift_fits.j0, if_pos (by decide), litL_len, if_pos (by omega), if_pos rfl, hL, lift_fits.j1]
  have e : ((([litR A] : List (List Int)).length : Int) != wrap64 (0 + 1)) = false := by rw [w64 (0 + 1) (by decide) (by decide)]; simp
  rw [e, if_neg (by decide), litL_len, decide_eq_true (by decide)]
  have := fits_l0 A hA l1 (by omega) l2 l3 l4 L hL G B C 0 1 (litL (A : Int) l1.length) l1.length k 0 (by omega) (by omega)
  rw [Int.ofNat_zero] at this
  rw [this, Option.bind_some, if_pos rfl]
-- building keeps all values
theorem fine_gates {first : Int} {gs : List S67} {n : Nat} (hb : (n : Int) = first) (h : Fine first gs) : Gates n gs := fun i hi => by
  obtain ⟨a, b, -, d⟩ := h.ok i hi
  omega
theorem notH_val (F : List Bool) (t : Int) (h0 : 0 ≤ t) : valV F (notH t) = !valV F t := by
  unfold notH valV
  by_cases c : t % 2 = 0
  · rw [if_pos c, show (t + 1) / 2 = t / 2 by omega, decide_eq_true (show (t + 1) % 2 = 1 by omega), decide_eq_false (show ¬ t % 2 = 1 by omega)]
    cases rdOf false F (t / 2) <;> rfl
  · rw [if_neg c, show (t - 1) / 2 = t / 2 by omega, decide_eq_false (show ¬ (t - 1) % 2 = 1 by omega), decide_eq_true (show t % 2 = 1 by omega)]
    cases rdOf false F (t / 2) <;> rfl
theorem sgn_val (F O : List Bool) (T : List Int) (l : Int) (h0 : 0 ≤ l) (h1 : l ≤ 1000000000) (t0 : 0 ≤ rd T (l / 2)) (t1 : rd T (l / 2) ≤ 1000000000) (e : valV F (rd T (l / 2)) = rdOf false O (l / 2)) : valV F (sgnP T l) = valV O l := by
  rw [sgnP_eq T l h0 h1 t0 t1]
  by_cases c : l % 2 = 0
  · rw [if_pos c, e, valV, decide_eq_false (show ¬ l % 2 = 1 by omega)]
    cases rdOf false O (l / 2) <;> rfl
  · rw [if_neg c, notH_val F _ t0, e, valV, decide_eq_true (show l % 2 = 1 by omega)]
    cases rdOf false O (l / 2) <;> rfl
theorem andP_keep {acc : List Bool} {gs : List S67} {first x y : Int} (t : Int) (t0 : 0 ≤ t) (t1 : t / 2 < (acc.length : Int) + gs.length) : valV (frameV acc (andP first gs x y).1) t = valV (frameV acc gs) t := by
  rcases andP_cases first gs x y with h | ⟨h, -⟩
  · rw [h]
  · rw [h]
    dsimp only
    rw [frameV_snoc, valV_app _ _ _ t0 (by rw [frameV_len]; omega)]
theorem val_run {acc : List Bool} {first ins : Int} {ands : List S67} {given : List Int} (hb : (acc.length : Int) = first) (hp : 0 < acc.length) (ha0 : rdOf false acc 0 = false) (ha : okA first ands = true) (hG : Gates acc.length ands) (hN : first + (ands.length : Int) ≤ 50000)
    (hbad : ∀ v : Nat, (v : Int) < first + (ands.length : Int) → badG ins given v = false) (hcons : ∀ v : Nat, (v : Int) < first + (ands.length : Int) → 0 ≤ rd given (v : Int) → rdOf false (frameV acc ands) (v : Int) = valV (frameV acc ands) (rd given (v : Int))) :
    ∀ k : Nat, (k : Int) ≤ first + (ands.length : Int) → ∀ v : Nat, v < k → valV (frameV acc (runB first ands given k).1) (rd (runB first ands given k).2 (v : Int)) = rdOf false (frameV acc ands) (v : Int) := by
  intro k
  induction k with
  | zero => intro _ v hv; omega
  | succ k ih =>
    intro hk v hv
    have ih := ih (by omega)
    obtain ⟨i1, i2, i3, i4⟩ := inv_run (first := first) (ands := ands) (given := given) (ins := ins) (by omega) ha hN k (by omega) (fun v hv => hbad v (by omega))
    have hbk := hbad k (by omega)
    rw [runB]
    generalize runB first ands given k = s at ih i1 i2 i3 i4 ⊢
    obtain ⟨G, T⟩ := s
    dsimp only at ih i1 i2 i3 i4 ⊢
    have hg1 := fine_gates hb i1
    have hT : ∀ u : Nat, u < k → 0 ≤ rd T (u : Int) ∧ rd T (u : Int) / 2 < first + (G.length : Int) := fun u hu => i4 _ (rd_mem T (u : Int) (by omega) (by omega))
    have old : ∀ (x : Int) (u : Nat), u < k → rd (T ++ [x]) (u : Int) = rd T (u : Int) := fun x u hu => rd_left T [x] (u : Int) (by omega) (by omega)
    have new : ∀ x : Int, rd (T ++ [x]) (k : Int) = x := fun x => by rw [← i2]; simp [rd, List.getD]
    have lit : ∀ l : Int, 0 ≤ l → l ≤ 1000000 → l / 2 < (k : Int) → valV (frameV acc G) (sgnP T l) = valV (frameV acc ands) l := fun l h0 h1 h2 => by
      obtain ⟨u, hu⟩ : ∃ u : Nat, l / 2 = (u : Int) := ⟨(l / 2).toNat, by omega⟩
      have := hT u (by omega)
      exact sgn_val _ _ T l h0 (by omega) (by rw [hu]; omega) (by rw [hu]; omega) (by rw [hu]; exact ih u (by omega))
    unfold stepB
    dsimp only
    rw [i2]
    by_cases c : 0 ≤ rd given (k : Int)
    · rw [if_pos c]
      dsimp only
      rcases Nat.lt_or_ge v k with h | h
      · rw [old _ v h]; exact ih v h
      · obtain rfl : v = k := by omega
        have hb2 := badG_not hbk c
        rw [new, lit _ c (by omega) (by omega), hcons v (by omega) c]
    · rw [if_neg c]
      by_cases d : (k : Int) < first
      · rw [if_pos d]
        dsimp only
        rcases Nat.lt_or_ge v k with h | h
        · rw [old _ v h]; exact ih v h
        · obtain rfl : v = k := by omega
          obtain ⟨E, hE⟩ := frameV_pre G acc
          obtain ⟨E2, hE2⟩ := frameV_pre ands acc
          rw [new, val_even, hE, hE2, rdOf_app acc E v (by omega), rdOf_app acc E2 v (by omega)]
      · rw [if_neg d]
        dsimp only
        obtain ⟨i, hi⟩ : ∃ i : Nat, (k : Int) - first = (i : Int) := ⟨((k : Int) - first).toNat, by omega⟩
        have hil : i < ands.length := by omega
        rw [hi, rdA_at ands i hil]
        obtain ⟨g0, g1, g2⟩ := hG i hil
        have p0 : 0 ≤ ands[i].f0 := by omega
        have sx := sgn_lit (B := first + (G.length : Int)) i4 (by omega) ands[i].f0 p0 (by omega) (by omega)
        have sy := sgn_lit (B := first + (G.length : Int)) i4 (by omega) ands[i].f1 g0 (by omega) (by omega)
        rcases Nat.lt_or_ge v k with h | h
        · have := hT v h
          rw [old _ v h, andP_keep _ this.1 (by omega)]
          exact ih v h
        · obtain rfl : v = k := by omega
          rw [new, andP_val hb hp ha0 hg1 sx.1 (by omega) sy.1 (by omega) (by omega), lit _ p0 (by omega) (by omega), lit _ g0 (by omega) (by omega), show (v : Int) = ((acc.length + i : Nat) : Int) by omega, frame_at hG i hil]
theorem built_of {a : Int} {l1 : List S86} {l2 : List S67} {l3 l4 g : List Int} (hs : Small l1 l2 l3 l4) (c : checkR a l1 l2 l3 l4 = 0) (hgl : (g.length : Int) = szS a l1 l2 + 1) (hgb : ∀ v : Nat, v < g.length → badG a g v = false) :
    checkR a (l1.map (fun x => (⟨sgnP (builtP a l1 l2 g).2 x.f0, x.f1⟩ : S86))) (builtP a l1 l2 g).1 (l3.map (sgnP (builtP a l1 l2 g).2)) (l4.map (sgnP (builtP a l1 l2 g).2)) = 0 ∧ Small (l1.map (fun x => (⟨sgnP (builtP a l1 l2 g).2 x.f0, x.f1⟩ : S86))) (builtP a l1 l2 g).1 (l3.map (sgnP (builtP a l1 l2 g).2)) (l4.map (sgnP (builtP a l1 l2 g).2)) ∧ Wf a (l1.map (fun x => (⟨sgnP (builtP a l1 l2 g).2 x.f0, x.f1⟩ : S86))) (builtP a l1 l2 g).1 (l3.map (sgnP (builtP a l1 l2 g).2)) (l4.map (sgnP (builtP a l1 l2 g).2)) ∧ (builtP a l1 l2 g).2.length = g.length := by
  have hg := good_of a l1 l2 l3 l4 c
  have ha0 := hg.a0
  have ha1 := hg.a1
  have hn := hg.n
  have hs1 := hs.h1
  have hs2 := hs.h2
  have hs3 := hs.h3
  have hs4 := hs.h4
  have hA : okA (a + (l1.length : Int) + 1) l2 = true := by
    have := okC_of (g := g) hg hs (by unfold szS at *; omega)
    unfold okC at this
    simp only [Bool.and_eq_true] at this
    exact this.1.1.1.1.2
  have hinv : InvB (a + (l1.length : Int) + 1) g.length (builtP a l1 l2 g) := inv_run (by omega) hA (by unfold szS at hn; omega) g.length (by unfold szS at hgl; omega) hgb
  generalize builtP a l1 l2 g = bp at *
  obtain ⟨G, T⟩ := bp
  obtain ⟨hgx, hGl⟩ := built_good hg hinv hgl
  have hlx := lens_of c
  have hT : T.length = g.length := hinv.len
  dsimp only
  have hsx : Small (l1.map (fun x => (⟨sgnP T x.f0, x.f1⟩ : S86))) G (l3.map (sgnP T)) (l4.map (sgnP T)) := ⟨by rw [List.length_map]; omega, by omega, by rw [List.length_map]; omega, by rw [List.length_map]; omega⟩
  exact ⟨check_of a _ G _ _ hgx (by rw [List.length_map]; omega) (by rw [List.length_map]; omega), hsx, good_wf hgx hsx.h2, hT⟩
theorem al26 : spiritlevellaw26_alive.f = some true := by decide +kernel
theorem hbuild_ok {a : Int} {l1 : List S86} {l2 : List S67} {l3 l4 g : List Int} (hs : Small l1 l2 l3 l4) (hw : Wf a l1 l2 l3 l4) (c : checkR a l1 l2 l3 l4 = 0) (hgl : (g.length : Int) = szS a l1 l2 + 1) (hgb : ∀ v : Nat, v < g.length → badG a g v = false) :
    hash_Build.f a l1 l2 l3 l4 g = some (a, l1.map (fun x => ⟨sgnP (builtP a l1 l2 g).2 x.f0, x.f1⟩), (builtP a l1 l2 g).1, l3.map (sgnP (builtP a l1 l2 g).2), l4.map (sgnP (builtP a l1 l2 g).2), (builtP a l1 l2 g).2, 0) := by
  have hg := good_of a l1 l2 l3 l4 c
  have hn := hg.n
  unfold hash_Build.f
  rw [gvars_eq a l1 l2 l3 l4 hs hw, if_pos c, Option.bind_some]
  dsimp only
  rw [if_pos rfl, if_pos ⟨okC_of hg hs (by omega), rfl⟩, if_neg]
  rintro (h | h)
  · exact h hgl
  · obtain ⟨v, hv, hb⟩ := List.any_eq_true.1 h
    rw [hgb v (List.mem_range.1 hv)] at hb
    exact absurd hb (by decide)
theorem built_vals {a : Int} {l1 : List S86} {l2 : List S67} {l3 l4 g : List Int} {st inp : List Bool} (hs : Small l1 l2 l3 l4) (c : checkR a l1 l2 l3 l4 = 0) (e1 : st.length = l1.length) (e2 : (inp.length : Int) = a) (hgl : (g.length : Int) = szS a l1 l2 + 1) (hgb : ∀ v : Nat, v < g.length → badG a g v = false)
    (hc : ∀ v : Nat, v < g.length → 0 ≤ rd g (v : Int) → rdOf false (frameV (false :: (inp ++ st)) l2) (v : Int) = valV (frameV (false :: (inp ++ st)) l2) (rd g (v : Int))) :
    (∀ v : Nat, v < g.length → valV (frameV (false :: (inp ++ st)) (builtP a l1 l2 g).1) (rd (builtP a l1 l2 g).2 (v : Int)) = rdOf false (frameV (false :: (inp ++ st)) l2) (v : Int) ∧ 0 ≤ rd (builtP a l1 l2 g).2 (v : Int) ∧ rd (builtP a l1 l2 g).2 (v : Int) / 2 < ((frameV (false :: (inp ++ st)) (builtP a l1 l2 g).1).length : Int)) ∧
    (∀ l : Int, 0 ≤ l → l / 2 ≤ szS a l1 l2 → valV (frameV (false :: (inp ++ st)) (builtP a l1 l2 g).1) (sgnP (builtP a l1 l2 g).2 l) = valV (frameV (false :: (inp ++ st)) l2) l) := by
  have hg := good_of a l1 l2 l3 l4 c
  have ha0 := hg.a0
  have ha1 := hg.a1
  have hn := hg.n
  have hs1 := hs.h1
  have hs2 := hs.h2
  have hA : okA (a + (l1.length : Int) + 1) l2 = true := by
    have := okC_of (g := g) hg hs (by unfold szS at *; omega)
    unfold okC at this
    simp only [Bool.and_eq_true] at this
    exact this.1.1.1.1.2
  have hinv : InvB (a + (l1.length : Int) + 1) g.length (builtP a l1 l2 g) := inv_run (by omega) hA (by unfold szS at hn; omega) g.length (by unfold szS at hgl; omega) hgb
  have hacc : ((false :: (inp ++ st)).length : Int) = a + (l1.length : Int) + 1 := by simp; omega
  have hgat : Gates (false :: (inp ++ st)).length l2 := by
    have := hg.g
    rwa [show 1 + a.toNat + l1.length = (false :: (inp ++ st)).length by omega] at this
  have hcnt := built_good hg (N := g.length) (G := (builtP a l1 l2 g).1) (T := (builtP a l1 l2 g).2) hinv hgl
  have hrun := val_run (acc := false :: (inp ++ st)) (first := a + (l1.length : Int) + 1) (ins := a) (ands := l2) (given := g) hacc (by simp) rfl hA hgat (by unfold szS at hn; omega) (fun v hv => hgb v (by unfold szS at hgl; omega)) (fun v hv => hc v (by unfold szS at hgl; omega)) g.length (by unfold szS at hgl; omega)
  change ∀ v : Nat, v < g.length → valV (frameV (false :: (inp ++ st)) (builtP a l1 l2 g).1) (rd (builtP a l1 l2 g).2 (v : Int)) = _ at hrun
  have hlenF := frameV_len (builtP a l1 l2 g).1 (false :: (inp ++ st))
  have hGl := hcnt.2
  obtain ⟨i1, i2, i3, i4⟩ := hinv
  have hT : ∀ v : Nat, v < g.length → 0 ≤ rd (builtP a l1 l2 g).2 (v : Int) ∧ rd (builtP a l1 l2 g).2 (v : Int) / 2 < ((frameV (false :: (inp ++ st)) (builtP a l1 l2 g).1).length : Int) := fun v hv => by
    have := i4 _ (rd_mem (builtP a l1 l2 g).2 (v : Int) (by omega) (by omega))
    omega
  refine ⟨fun v hv => ⟨hrun v hv, hT v hv⟩, fun l h0 h1 => ?_⟩
  obtain ⟨u, hu⟩ : ∃ u : Nat, l / 2 = (u : Int) := ⟨(l / 2).toNat, by omega⟩
  have h2 := hT u (by omega)
  exact sgn_val _ _ _ l h0 (by omega) (by rw [hu]; exact h2.1) (by rw [hu]; unfold szS at *; omega) (by rw [hu]; exact hrun u (by omega))
theorem first_bad (p : Nat → Bool) (N : Nat) : ∃ n, n ≤ N ∧ (∀ v : Nat, v < n → p v = false) ∧ (n < N → p n = true) := by
  induction N with
  | zero => exact ⟨0, by omega, fun v hv => by omega, fun h => by omega⟩
  | succ N ih =>
    obtain ⟨n, h1, h2, h3⟩ := ih
    by_cases c : n < N
    · exact ⟨n, by omega, h2, fun _ => h3 c⟩
    · obtain rfl : n = N := by omega
      cases e : p n with
      | true => exact ⟨n, by omega, h2, fun _ => e⟩
      | false =>
        refine ⟨n + 1, by omega, fun v hv => ?_, fun h => by omega⟩
        rcases Nat.lt_or_ge v n with h | h
        · exact h2 v h
        · rw [show v = n by omega]; exact e
theorem pass_of (k A : Nat) (l1 : List S86) (l2 : List S67) (l3 l4 : List Int) (st inp : List Bool) (hs : Small l1 l2 l3 l4) (hw : Wf (A : Int) l1 l2 l3 l4) (c0 : checkR (A : Int) l1 l2 l3 l4 = 0) (e1 : st.length = l1.length) (e2 : (inp.length : Int) = (A : Int)) (hk : 80000 ≤ k) :
    ∃ (L : List S86) (G : List S67) (B C : List Int), hash_Pass.f k (A : Int) l1 l2 l3 l4 = some ((A : Int), L, G, B, C, 0, 1, litL (A : Int) L.length, [litR A], litL (A : Int) L.length, [], 1, 0) ∧ lift_Check.f k (A : Int) l1 l2 l3 l4 (A : Int) L G B C 0 1 (litL (A : Int) L.length) [litR A] (litL (A : Int) L.length) [] 1 = some 0 ∧
      values_Props.f (A : Int) L G B C st inp = some (!(l4.any fun x => !(valV (frameV (false :: (inp ++ st)) l2) x)), l3.map (valV (frameV (false :: (inp ++ st)) l2)), 0) ∧ values_Next.f (A : Int) L G B C st inp = some (l1.map (fun x => valV (frameV (false :: (inp ++ st)) l2) x.f0), 0) := by
  have hg := good_of _ l1 l2 l3 l4 c0
  have ha0 := hg.a0
  have ha1 := hg.a1
  have hn := hg.n
  have hs1 := hs.h1
  obtain ⟨N, hN⟩ : ∃ N : Nat, (N : Int) = szS (A : Int) l1 l2 + 1 := ⟨(szS (A : Int) l1 l2 + 1).toNat, by unfold szS; omega⟩
  have hlen : (List.replicate N (-1 : Int)).length = N := List.length_replicate
  have hr : ∀ v : Nat, v < N → rd (List.replicate N (-1)) (v : Int) = -1 := fun v hv => by rw [rd_at _ v (by rw [hlen]; exact hv)]; simp
  have hgb : ∀ v : Nat, v < (List.replicate N (-1 : Int)).length → badG (A : Int) (List.replicate N (-1)) v = false := fun v hv => by
    unfold badG
    rw [hr v (by omega), decide_eq_false (by decide), decide_eq_false (by omega), decide_eq_false (by decide)]
    rfl
  have hgl : ((List.replicate N (-1 : Int)).length : Int) = szS (A : Int) l1 l2 + 1 := by rw [hlen]; exact hN
  have hB := hbuild_ok hs hw c0 hgl hgb
  obtain ⟨hcx, hsx, hwx, hT⟩ := built_of hs c0 hgl hgb
  obtain ⟨-, hv⟩ := built_vals hs c0 e1 e2 hgl hgb (fun v hv h0 => by rw [hr v (by omega)] at h0; omega)
  have hrep : slices_Repeat_int_int.f [-1] (N : Int) = some (List.replicate N (-1)) := by
    unfold slices_Repeat_int_int.f
    rw [if_pos ⟨rfl, by unfold szS at hN; omega, by omega⟩, Int.toNat_natCast]
    rfl
  generalize (builtP (A : Int) l1 l2 (List.replicate N (-1))).1 = G at *
  generalize (builtP (A : Int) l1 l2 (List.replicate N (-1))).2 = T at *
  have hLl : (l1.map (fun x => (⟨sgnP T x.f0, x.f1⟩ : S86))).length = l1.length := List.length_map ..
  have hall : allV (A : Int) (l1.map (fun x => (⟨sgnP T x.f0, x.f1⟩ : S86))) G (l3.map (sgnP T)) (l4.map (sgnP T)) st inp = (frameV (false :: (inp ++ st)) G, 0) := by
    unfold allV
    rw [if_pos hcx, if_pos ⟨by rw [hLl]; exact e1, e2⟩]
  refine ⟨_, _, _, _, ?_, chk_eq k A (by omega) l1 l2 l3 l4 _ _ _ _ hs hw c0 hsx hwx hcx hLl (by omega), ?_, ?_⟩
  · unfold hash_Pass.f
    rw [gvars_eq _ l1 l2 l3 l4 hs hw, Option.bind_some, if_pos c0]
    dsimp only
    rw [if_pos rfl, w64 (szS (A : Int) l1 l2 + 1) (by omega) (by omega), ← hN, hrep, Option.bind_some, hB, Option.bind_some]
    dsimp only
    rw [idx_eq k A _ _ _ _ hsx hwx hcx (by omega), Option.bind_some]
  · rw [vprops_eq _ _ _ _ _ st inp hsx hwx]
    unfold propsV
    rw [hall, if_pos rfl, List.map_map, List.any_map]
    have h3 : l3.map (valV (frameV (false :: (inp ++ st)) G) ∘ sgnP T) = l3.map (valV (frameV (false :: (inp ++ st)) l2)) := List.map_congr_left (fun x hx => hv x (hg.b x hx).1 (hg.b x hx).2)
    have h4 : (l4.any ((fun x => !(valV (frameV (false :: (inp ++ st)) G) x)) ∘ sgnP T)) = l4.any (fun x => !(valV (frameV (false :: (inp ++ st)) l2) x)) := by
      rw [Bool.eq_iff_iff, List.any_eq_true, List.any_eq_true]
      constructor
      · rintro ⟨x, hx, h⟩
        refine ⟨x, hx, ?_⟩
        rw [Function.comp, hv x (hg.c x hx).1 (hg.c x hx).2] at h
        exact h
      · rintro ⟨x, hx, h⟩
        refine ⟨x, hx, ?_⟩
        rw [Function.comp, hv x (hg.c x hx).1 (hg.c x hx).2]
        exact h
    rw [h3, h4]
  · rw [vnext_eq _ _ _ _ _ st inp hsx hwx]
    unfold litsV
    rw [hall, if_pos rfl, List.map_map, List.map_map]
    have h3 : l1.map ((valV (frameV (false :: (inp ++ st)) G) ∘ fun x => x.f0) ∘ fun x => (⟨sgnP T x.f0, x.f1⟩ : S86)) = l1.map (fun x => valV (frameV (false :: (inp ++ st)) l2) x.f0) := List.map_congr_left (fun x hx => hv x.f0 (hg.l x hx).1.1 (hg.l x hx).1.2)
    rw [h3]
theorem rest_of (A : Nat) (l1 : List S86) (l2 : List S67) (l3 l4 g : List Int) (st inp : List Bool) (hs : Small l1 l2 l3 l4) (hw : Wf (A : Int) l1 l2 l3 l4) (hok : (allV (A : Int) l1 l2 l3 l4 st inp).2 = 0) (h13 : g.length ≤ 1300) :
    ∃ (x1 j : Int) (XL : List S86) (XG : List S67) (XB XD T : List Int) (F F2 : List Bool) (n : Nat), hash_Build.f (A : Int) l1 l2 l3 l4 g = some (x1, XL, XG, XB, XD, T, j) ∧ (j = 0 → RF (A : Int) l1 l2 l3 l4 g st inp x1 XL XG XB XD T F F2 n) := by
  obtain ⟨c0, e1, e2, hall⟩ := allV_ok hok
  have hg := good_of _ l1 l2 l3 l4 c0
  have ha0 := hg.a0
  have ha1 := hg.a1
  have hn := hg.n
  have hs1 := hs.h1
  have hs2 := hs.h2
  have hlen := vframe_len (l2 := l2) e1 e2
  by_cases cb : (g.length : Int) ≠ szS (A : Int) l1 l2 + 1 ∨ (List.range g.length).any (badG (A : Int) g) = true
  · refine ⟨0, 2, [], [], [], [], [], [], [], 0, ?_, fun h => absurd h (by decide)⟩
    unfold hash_Build.f
    rw [gvars_eq _ l1 l2 l3 l4 hs hw, Option.bind_some, if_pos c0]
    dsimp only
    rw [if_pos rfl, if_pos ⟨okC_of hg hs (by omega), rfl⟩, if_pos cb]
  have hgl : (g.length : Int) = szS (A : Int) l1 l2 + 1 := Classical.not_not.1 (fun h => cb (Or.inl h))
  have hgb : ∀ v : Nat, v < g.length → badG (A : Int) g v = false := fun v hv => by
    cases e : badG (A : Int) g v with
    | false => rfl
    | true => exact absurd (Or.inr (List.any_eq_true.2 ⟨v, List.mem_range.2 hv, e⟩)) cb
  obtain ⟨hcx, hsx, hwx, hT⟩ := built_of hs c0 hgl hgb
  have hsz : szS (A : Int) l1 l2 = (A : Int) + l1.length + l2.length := rfl
  obtain ⟨n, n1, n2, n3⟩ := first_bad (fun v => decide (0 ≤ rd g (v : Int)) && (rdOf false (frameV (false :: (inp ++ st)) l2) (v : Int) != valV (frameV (false :: (inp ++ st)) l2) (rd g (v : Int)))) (frameV (false :: (inp ++ st)) l2).length
  have inr : ∀ v : Nat, v < g.length → 0 ≤ rd g (v : Int) → rd g (v : Int) / 2 < ((frameV (false :: (inp ++ st)) l2).length : Int) := fun v hv h0 => by
    have := badG_not (hgb v hv) h0
    omega
  have agree : ∀ v : Nat, v < n → 0 ≤ rd g (v : Int) → rdOf false (frameV (false :: (inp ++ st)) l2) (v : Int) = valV (frameV (false :: (inp ++ st)) l2) (rd g (v : Int)) := fun v hv h0 => by
    have := n2 v hv
    simp only [decide_eq_true h0, Bool.true_and, bne_eq_false_iff_eq] at this
    exact this
  refine ⟨_, 0, _, _, _, _, _, frameV (false :: (inp ++ st)) l2, frameV (false :: (inp ++ st)) (builtP (A : Int) l1 l2 g).1, n, hbuild_ok hs hw c0 hgl hgb, fun _ => ⟨?_, ?_, by omega, by omega, by omega, n1, ?_, ?_, ?_⟩⟩
  · rw [vall_eq _ l1 l2 l3 l4 st inp hs hw, hall]
  · rw [vall_eq _ _ _ _ _ st inp hsx hwx]
    unfold allV
    rw [if_pos hcx, if_pos ⟨by rw [List.length_map]; exact e1, e2⟩]
  · intro v hv h0
    rw [rval_eq _ _ h0 (inr v (by omega) h0) (by omega), agree v hv h0]
  · intro h
    have := n3 h
    simp only [Bool.and_eq_true, decide_eq_true_eq] at this
    refine ⟨this.1, ?_⟩
    rw [rval_eq _ _ this.1 (inr n (by omega) this.1) (by omega)]
    have h2 := this.2
    revert h2
    cases rdOf false (frameV (false :: (inp ++ st)) l2) (n : Int) <;> cases valV (frameV (false :: (inp ++ st)) l2) (rd g (n : Int)) <;> simp
  · intro hnn v hv
    obtain ⟨hv1, -⟩ := built_vals hs c0 e1 e2 hgl hgb (fun v hv h0 => agree v (by omega) h0)
    obtain ⟨h1, h2, h3⟩ := hv1 v (by omega)
    have hl2 := frameV_len (builtP (A : Int) l1 l2 g).1 (false :: (inp ++ st))
    have hsx2 := hsx.h2
    have hacc : ((false :: (inp ++ st)).length : Int) = (A : Int) + (l1.length : Int) + 1 := by simp; omega
    rw [vOf_eq _ _ h2 h3 (by omega), h1]
theorem hf_of (k A : Nat) (l1 : List S86) (l2 : List S67) (l3 l4 g : List Int) (st inp : List Bool) (hs : Small l1 l2 l3 l4) (hw : Wf (A : Int) l1 l2 l3 l4) (hok : (allV (A : Int) l1 l2 l3 l4 st inp).2 = 0) (h13 : g.length ≤ 1300) (hk : 80000 ≤ k) :
    ∃ (p1 p6 p7 p12 : Int) (PL : List S86) (PG : List S67) (PB PD Pf : List Int) (Pi : List (List Int)) (Pl : List Int) (Pg : List S67) (x1 j : Int) (XL : List S86) (XG : List S67) (XB XD T : List Int) (F F2 Bv S : List Bool) (r : Bool) (n : Nat), HF k (A : Int) l1 l2 l3 l4 g st inp p1 p6 p7 p12 PL PG PB PD Pf Pi Pl Pg x1 j XL XG XB XD T F F2 Bv S r n := by
  obtain ⟨c0, e1, e2, hall⟩ := allV_ok hok
  obtain ⟨L, G, B, C, h1, h2, h3, h4⟩ := pass_of k A l1 l2 l3 l4 st inp hs hw c0 e1 e2 hk
  obtain ⟨x1, j, XL, XG, XB, XD, T, F, F2, n, h5, h6⟩ := rest_of A l1 l2 l3 l4 g st inp hs hw hok h13
  have hs1 := hs.h1
  have hs3 := hs.h3
  have sm : ∀ l : List Bool, l.length ≤ 200 → spiritlevelref04_Same.f k l l = some true := fun l hl => by
    rw [vsame_eq k l l (by omega) (by omega), decide_eq_true rfl]
  refine ⟨_, _, _, _, _, _, _, _, _, _, _, _, x1, j, XL, XG, XB, XD, T, F, F2, _, _, _, n, h1, ?_, h3, ?_, h4, sm _ (by rw [List.length_map]; omega), sm _ (by rw [List.length_map]; omega), h2, h5, h6⟩
  · rw [vprops_eq _ l1 l2 l3 l4 st inp hs hw]
    unfold propsV
    rw [if_pos hok, hall]
  · rw [vnext_eq _ l1 l2 l3 l4 st inp hs hw]
    unfold litsV
    rw [if_pos hok, hall, List.map_map]
    rfl
theorem hashValues_all (a0_0 : Int) (A0_1 : Option Addr) (c0_1 : Nat) (l0_1 : List (S86)) (A0_2 : Option Addr) (c0_2 : Nat) (l0_2 : List (S67)) (A0_3 : Option Addr) (c0_3 : Nat) (l0_3 : List Int) (A0_4 : Option Addr) (c0_4 : Nat) (l0_4 : List Int) (A1 : Option Addr) (c1 : Nat) (l1 : List Int) (A2 : Option Addr) (c2 : Nat) (l2 : List Bool) (A3 : Option Addr) (c3 : Nat) (l3 : List Bool) (w : World) (hr0_1 : Kd.C k86 w A0_1 l0_1.length l0_1) (hc0_1 : l0_1.length ≤ c0_1) (hr0_2 : Kd.C k67 w A0_2 l0_2.length l0_2) (hc0_2 : l0_2.length ≤ c0_2) (hr0_3 : Kd.C (Kd.int .i64) w A0_3 l0_3.length l0_3) (hc0_3 : l0_3.length ≤ c0_3) (hr0_4 : Kd.C (Kd.int .i64) w A0_4 l0_4.length l0_4) (hc0_4 : l0_4.length ≤ c0_4) (hr1 : Kd.C (Kd.int .i64) w A1 l1.length l1) (hc1 : l1.length ≤ c1) (hr2 : Kd.C Kd.bool w A2 l2.length l2) (hc2 : l2.length ≤ c2) (hr3 : Kd.C Kd.bool w A3 l3.length l3) (hc3 : l3.length ≤ c3) (ok0_0 : (Lit.int .i64 a0_0).wf = true) (ok0_1 : l0_1.length ≤ 9223372036854775807 ∧ l0_1.length * 16 ≤ 140737488351232 ∧ ∀ x0_ ∈ l0_1, ((Lit.int .i64 x0_.f0).wf = true) ∧ ((Lit.int .i64 x0_.f1).wf = true)) (ok0_2 : l0_2.length ≤ 9223372036854775807 ∧ l0_2.length * 16 ≤ 140737488351232 ∧ ∀ x0_ ∈ l0_2, ((Lit.int .i64 x0_.f0).wf = true) ∧ ((Lit.int .i64 x0_.f1).wf = true)) (ok0_3 : l0_3.length ≤ 9223372036854775807 ∧ l0_3.length * 8 ≤ 140737488351232 ∧ ∀ x0_ ∈ l0_3, (Lit.int .i64 x0_).wf = true) (ok0_4 : l0_4.length ≤ 9223372036854775807 ∧ l0_4.length * 8 ≤ 140737488351232 ∧ ∀ x0_ ∈ l0_4, (Lit.int .i64 x0_).wf = true) (ok1 : l1.length ≤ 9223372036854775807 ∧ l1.length * 8 ≤ 140737488351232 ∧ ∀ x0_ ∈ l1, (Lit.int .i64 x0_).wf = true) (ok2 : l2.length ≤ 9223372036854775807 ∧ l2.length * 1 ≤ 140737488351232 ∧ ∀ x0_ ∈ l2, True) (ok3 : l3.length ≤ 9223372036854775807 ∧ l3.length * 1 ≤ 140737488351232 ∧ ∀ x0_ ∈ l3, True) :
    Calls Try.prog 7 #[.agg #[.int .i64 a0_0, .slice A0_1 l0_1.length c0_1, .slice A0_2 l0_2.length c0_2, .slice A0_3 l0_3.length c0_3, .slice A0_4 l0_4.length c0_4], .slice A1 l1.length c1, .slice A2 l2.length c2, .slice A3 l3.length c3] w fun e w' => e = .returned (.bool true) ∧ Below w.heap.size w w' := by
  have hw : Wf a0_0 l0_1 l0_2 l0_3 l0_4 := ⟨wf_i64 ok0_0, fun x hx => ⟨wf_i64 (ok0_1.2.2 x hx).1, wf_i64 (ok0_1.2.2 x hx).2⟩, fun x hx => ⟨wf_i64 (ok0_2.2.2 x hx).1, wf_i64 (ok0_2.2.2 x hx).2⟩, fun x hx => wf_i64 (ok0_3.2.2 x hx), fun x hx => wf_i64 (ok0_4.2.2 x hx)⟩
  obtain ⟨g, hg, hsm⟩ := great_eq a0_0 l0_1 l0_2 l0_3 l0_4
  have has : g = false → spiritlevelref04_Asked.f 80000 a0_0 l0_1 l0_2 l0_3 l0_4 l2 l3 = some (allV a0_0 l0_1 l0_2 l0_3 l0_4 l2 l3).2 := fun h => vasked_eq 80000 a0_0 l0_1 l0_2 l0_3 l0_4 l2 l3 (hsm h).1 hw (by omega)
  by_cases c : g = false ∧ l1.length ≤ 1300 ∧ (allV a0_0 l0_1 l0_2 l0_3 l0_4 l2 l3).2 = 0
  · obtain ⟨d1, d2, d3⟩ := c
    obtain ⟨c0, -, -, -⟩ := allV_ok d3
    have ha := (good_of _ _ _ _ _ c0).a0
    obtain ⟨A, rfl⟩ : ∃ A : Nat, a0_0 = (A : Int) := ⟨a0_0.toNat, by omega⟩
    obtain ⟨p1, p6, p7, p12, PL, PG, PB, PD, Pf, Pi, Pl, Pg, x1, j, XL, XG, XB, XD, T, F, F2, Bv, S, r, n, h⟩ := hf_of 80000 A l0_1 l0_2 l0_3 l0_4 l1 l2 l3 (hsm d1).1 hw d3 d2 (by omega)
    exact values_walk 80000 (A : Int) p1 p6 p7 p12 x1 j A0_1 c0_1 l0_1 A0_2 c0_2 l0_2 A0_3 c0_3 l0_3 A0_4 c0_4 l0_4 A1 c1 l1 A2 c2 l2 A3 c3 l3 PL PG PB PD Pf Pi Pl Pg XL XG XB XD T F F2 Bv S r g _ n w hr0_1 hc0_1 hr0_2 hc0_2 hr0_3 hc0_3 hr0_4 hc0_4 hr1 hc1 hr2 hc2 hr3 hc3 al26 hg has (fun _ _ _ => h)
  · exact values_walk 80000 a0_0 0 0 0 0 0 0 A0_1 c0_1 l0_1 A0_2 c0_2 l0_2 A0_3 c0_3 l0_3 A0_4 c0_4 l0_4 A1 c1 l1 A2 c2 l2 A3 c3 l3 [] [] [] [] [] [] [] [] [] [] [] [] [] [] [] [] [] false g _ 0 w hr0_1 hc0_1 hr0_2 hc0_2 hr0_3 hc0_3 hr0_4 hc0_4 hr1 hc1 hr2 hc2 hr3 hc3 al26 hg has (fun x y z => absurd ⟨x, y, z⟩ c)
end Go.Proofs.Ytnbccfecmpocaaa.Pure
