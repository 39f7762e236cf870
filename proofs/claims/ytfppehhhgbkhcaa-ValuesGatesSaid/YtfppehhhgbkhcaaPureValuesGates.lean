/- Each gate is the AND of its parts, inputs and latches have their values, 0 is false, and Next and Props are values of literals; for every valid circuit that is not great, a state and inputs. -/
import Derived.Test.YtfppehhhgbkhcaaQValuesGatesH
namespace Go.Proofs.Ytfppehhhgbkhcaa.Pure
open Go.RowKit Go.Proofs.Ytfppehhhgbkhcaa.QValuesGatesW Go.Proofs.Ytfppehhhgbkhcaa.QValuesGates Go.Proofs.YtfppehhhgbkhcaaW.PrintWords Go.Proofs.YtfppehhhgbkhcaaW.PrintLast
set_option linter.unusedSimpArgs false
set_option linter.unusedVariables false
theorem w64 (n : Int) (h : -9223372036854775808 ≤ n) (h2 : n ≤ 9223372036854775807) : wrap64 n = n := by unfold wrap64; omega
theorem rd_at (l : List Int) (j : Nat) (h : j < l.length) : rd l (j : Int) = l[j] := by simp [rd, List.getD, h]
theorem wf_i64 {x : Int} (h : (Lit.int .i64 x).wf = true) : -9223372036854775808 ≤ x ∧ x ≤ 9223372036854775807 := by
  simp [Lit.wf, IntKind.min, IntKind.max, IntKind.signed, IntKind.bits] at h
  omega
theorem wf_u8 {x : Int} (h : (Lit.int .u8 x).wf = true) : 0 ≤ x ∧ x ≤ 255 := by
  simp [Lit.wf, IntKind.min, IntKind.max, IntKind.signed, IntKind.bits] at h
  omega
theorem band1 (a : Int) (h0 : 0 ≤ a) (h1 : a < 9223372036854775807) : Go.bits .and .i64 a 1 = a % 2 := by
  have := bits_mask .i64 63 (by decide) (fun n h h' => by rw [IntKind.wrap_i64]; omega) 1 (by decide) a h0 (by omega)
  simpa using this

theorem xorNat (n : Nat) : n ^^^ 1 = if n % 2 = 0 then n + 1 else n - 1 := by
  have h1 : (n ^^^ 1) / 2 = n / 2 := by rw [Nat.xor_div_two]; simp
  have h2 : (n ^^^ 1) % 2 = (n + 1) % 2 := by
    have h := @Nat.xor_mod_two_eq_one n 1
    rcases Nat.mod_two_eq_zero_or_one n with e | e <;> rcases Nat.mod_two_eq_zero_or_one (n ^^^ 1) with e' | e' <;> simp [e, e'] at h <;> omega
  split <;> omega
theorem i64_nat (n : Nat) (h : n < 9223372036854775808) : IntKind.i64.wrap (n : Int) = n := by rw [IntKind.wrap_i64]; omega
theorem bxor1 (a : Int) (h0 : 0 ≤ a) (h1 : a < 9223372036854775807) : Go.bits .xor .i64 a 1 = if a % 2 = 0 then a + 1 else a - 1 := by
  obtain ⟨n, rfl⟩ := Int.eq_ofNat_of_zero_le h0
  have e : Go.bits .xor .i64 (n : Int) 1 = ((n ^^^ 1 : Nat) : Int) := by
    have hx : n ^^^ 1 < 9223372036854775808 := by rw [xorNat]; split <;> omega
    have hb : (1 : Int) = ((1 : Nat) : Int) := rfl
    rw [hb]
    have hc : ((BitVec.ofInt 64 (n : Int)) ^^^ (BitVec.ofInt 64 ((1 : Nat) : Int))).toNat = n ^^^ 1 := by
      rw [BitVec.ofInt_natCast, BitVec.ofInt_natCast, BitVec.toNat_xor, BitVec.toNat_ofNat, BitVec.toNat_ofNat, Nat.mod_eq_of_lt (by omega), Nat.mod_eq_of_lt (by omega)]
    have := i64_nat _ hx
    rw [← hc] at this ⊢
    exact this
  rw [e, xorNat]
  split <;> split <;> omega

-- ref02: what the reference of layer 2 and gates.Check come to, for circuits that are not great
def litOut (n l : Int) : Bool := decide (l < 0) || decide (l / 2 > n)
def latBad (n : Int) (x : S52) : Bool := litOut n x.f0 || decide (x.f1 < 0) || decide (x.f1 > 2)
def gBad (m : Int) (i : Nat) (g : S33) : Bool := decide (g.f1 < 0) || decide (g.f0 < g.f1) || decide (g.f0 / 2 > m + i)
def gsBad (m : Int) (l : List S33) : Bool := (List.range l.length).any fun i => gBad m i (rd_T33 l i)
def szS (a : Int) (l1 : List S52) (l2 : List S33) : Int := a + l1.length + l2.length
def checkR (a : Int) (l1 : List S52) (l2 : List S33) (l3 l4 : List Int) : Int :=
  if a < 0 then 8 else if a > 1000 ∨ szS a l1 l2 > 1000 ∨ l3.length > 100 ∨ l4.length > 100 then 4
  else if l3.any (litOut (szS a l1 l2)) = true ∨ l4.any (litOut (szS a l1 l2)) = true ∨ l1.any (latBad (szS a l1 l2)) = true ∨ gsBad (a + l1.length) l2 = true then 8 else 0
/-- The lengths of a circuit that is not great. -/
structure Small (l1 : List S52) (l2 : List S33) (l3 l4 : List Int) : Prop where
  h1 : l1.length ≤ 60
  h2 : l2.length ≤ 130
  h3 : l3.length ≤ 110
  h4 : l4.length ≤ 110
/-- All numbers of a circuit are int64. -/
structure Wf (a : Int) (l1 : List S52) (l2 : List S33) (l3 l4 : List Int) : Prop where
  w0 : -9223372036854775808 ≤ a ∧ a ≤ 9223372036854775807
  w1 : ∀ x ∈ l1, (-9223372036854775808 ≤ x.f0 ∧ x.f0 ≤ 9223372036854775807) ∧ (-9223372036854775808 ≤ x.f1 ∧ x.f1 ≤ 9223372036854775807)
  w2 : ∀ x ∈ l2, (-9223372036854775808 ≤ x.f0 ∧ x.f0 ≤ 9223372036854775807) ∧ (-9223372036854775808 ≤ x.f1 ∧ x.f1 ≤ 9223372036854775807)
  w3 : ∀ x ∈ l3, -9223372036854775808 ≤ x ∧ x ≤ 9223372036854775807
  w4 : ∀ x ∈ l4, -9223372036854775808 ≤ x ∧ x ≤ 9223372036854775807
theorem great_eq (a : Int) (l1 : List S52) (l2 : List S33) (l3 l4 : List Int) :
    ∃ b, spiritlevelref02_Great.f a l1 l2 l3 l4 = some b ∧ (b = false → Small l1 l2 l3 l4 ∧ (a ≤ 40 ∨ 996 ≤ a)) := by
  unfold spiritlevelref02_Great.f
  by_cases c1 : (l1.length : Int) > 60
  · exact ⟨true, by rw [if_pos c1], by simp⟩
  by_cases c2 : (l2.length : Int) > 120
  · exact ⟨true, by rw [if_neg c1, if_pos c2], by simp⟩
  by_cases c3 : (l3.length : Int) > 110
  · exact ⟨true, by rw [if_neg c1, if_neg c2, if_pos c3], by simp⟩
  by_cases c4 : (l4.length : Int) > 110
  · exact ⟨true, by rw [if_neg c1, if_neg c2, if_neg c3, if_pos c4], by simp⟩
  by_cases c5 : a > 40
  · exact ⟨decide (a < 996), by rw [if_neg c1, if_neg c2, if_neg c3, if_neg c4, if_pos c5], fun h => ⟨⟨by omega, by omega, by omega, by omega⟩, by simp at h; omega⟩⟩
  · exact ⟨false, by rw [if_neg c1, if_neg c2, if_neg c3, if_neg c4, if_neg c5], fun _ => ⟨⟨by omega, by omega, by omega, by omega⟩, by omega⟩⟩
theorem literals_l0 (l : List Int) (n : Int) (hw : ∀ x ∈ l, -9223372036854775808 ≤ x ∧ x ≤ 9223372036854775807) (hl : l.length ≤ 100000) (d : Nat) : ∀ (k j : Nat), j + d = l.length → d < k →
    spiritlevelref02_literals.l0 k l n (j : Int) = some (!(l.drop j).any (litOut n)) := by
  induction d with
  | zero =>
    intro k j hj hk
    obtain ⟨k, rfl⟩ : ∃ m, k = m + 1 := ⟨k - 1, by omega⟩
    simp only [spiritlevelref02_literals.l0]
    rw [if_neg (by omega), List.drop_of_length_le (by omega)]; rfl
  | succ d ih =>
    intro k j hj hk
    obtain ⟨k, rfl⟩ : ∃ m, k = m + 1 := ⟨k - 1, by omega⟩
    have hlt : j < l.length := by omega
    have hwj := hw l[j] (List.getElem_mem hlt)
    simp only [spiritlevelref02_literals.l0]
    rw [if_pos (by omega), if_pos (by omega), rd_at l j hlt, List.drop_eq_getElem_cons hlt, List.any_cons]
    by_cases c : l[j] < 0
    · rw [if_pos c]; simp [litOut, c]
    · rw [if_neg c, Int.tdiv_eq_ediv_of_nonneg (by omega), w64 _ (by omega) (by omega)]
      by_cases c2 : l[j] / 2 > n
      · rw [if_pos c2]; simp [litOut, c2]
      · rw [if_neg c2, w64 _ (by omega) (by omega), show ((j : Int) + 1) = ((j + 1 : Nat) : Int) by omega, ih k (j + 1) (by omega) (by omega)]
        have : litOut n l[j] = false := by simp [litOut]; omega
        rw [this]; simp
theorem literals_eq (k : Nat) (l : List Int) (n : Int) (hw : ∀ x ∈ l, -9223372036854775808 ≤ x ∧ x ≤ 9223372036854775807) (hl : l.length ≤ 100000) (hk : l.length < k) :
    spiritlevelref02_literals.f k l n = some (!l.any (litOut n)) := by
  have := literals_l0 l n hw hl l.length k 0 (by omega) hk
  simpa [spiritlevelref02_literals.f] using this
theorem rdL_at (l : List S52) (j : Nat) (h : j < l.length) : rd_T52 l (j : Int) = l[j] := by simp [rd_T52, List.getD, h]
theorem rdA_at (l : List S33) (j : Nat) (h : j < l.length) : rd_T33 l (j : Int) = l[j] := by simp [rd_T33, List.getD, h]
theorem check_l1 (a : Int) (l1 : List S52) (l2 : List S33) (l3 l4 : List Int) (hs : Small l1 l2 l3 l4) (hw : Wf a l1 l2 l3 l4) (h0 : 0 ≤ a) (h1 : a ≤ 1000) (d : Nat) : ∀ (k j : Nat), j + d = l2.length → d < k →
    spiritlevelref02_Check.l1 k (j : Int) a l1 l2 l3 l4 = some (if ((List.range' j d).any fun i => gBad (a + l1.length) i (rd_T33 l2 i)) = true then 8 else 0) := by
  have hs1 := hs.h1
  have hs2 := hs.h2
  induction d with
  | zero =>
    intro k j hj hk
    obtain ⟨k, rfl⟩ : ∃ m, k = m + 1 := ⟨k - 1, by omega⟩
    simp only [spiritlevelref02_Check.l1]
    rw [if_neg (by omega)]; rfl
  | succ d ih =>
    intro k j hj hk
    obtain ⟨k, rfl⟩ : ∃ m, k = m + 1 := ⟨k - 1, by omega⟩
    have hlt : j < l2.length := by omega
    have hwj := hw.w2 l2[j] (List.getElem_mem hlt)
    simp only [spiritlevelref02_Check.l1]
    rw [if_pos (by omega), if_pos (by omega), List.range'_succ, List.any_cons, rdA_at l2 j hlt]
    by_cases c : l2[j].f1 < 0
    · rw [if_pos c, if_pos (by simp [gBad, c])]
    rw [if_neg c]
    by_cases c2 : l2[j].f0 < l2[j].f1
    · rw [if_pos c2, if_pos (by simp [gBad, c2])]
    rw [if_neg c2, Int.tdiv_eq_ediv_of_nonneg (by omega), w64 (l2[j].f0 / 2) (by omega) (by omega), w64 (a + l1.length) (by omega) (by omega), w64 (a + l1.length + j) (by omega) (by omega)]
    by_cases c3 : l2[j].f0 / 2 > a + l1.length + j
    · rw [if_pos c3, if_pos (by simp [gBad, c3])]
    rw [if_neg c3, w64 _ (by omega) (by omega), show ((j : Int) + 1) = ((j + 1 : Nat) : Int) by omega, ih k (j + 1) (by omega) (by omega)]
    have : gBad (a + l1.length) j l2[j] = false := by simp [gBad]; omega
    rw [this]; rfl
theorem check_l0 (a n : Int) (l1 : List S52) (l2 : List S33) (l3 l4 : List Int) (hs : Small l1 l2 l3 l4) (hw : Wf a l1 l2 l3 l4) (h0 : 0 ≤ a) (h1 : a ≤ 1000) (d : Nat) : ∀ (k j : Nat), j + d = l1.length → d + l2.length + 5 < k →
    spiritlevelref02_Check.l0 k n (j : Int) a l1 l2 l3 l4 = some (if (l1.drop j).any (latBad n) = true ∨ gsBad (a + l1.length) l2 = true then 8 else 0) := by
  have hs1 := hs.h1
  have hs2 := hs.h2
  induction d with
  | zero =>
    intro k j hj hk
    obtain ⟨k, rfl⟩ : ∃ m, k = m + 1 := ⟨k - 1, by omega⟩
    simp only [spiritlevelref02_Check.l0]
    rw [if_neg (by omega), List.drop_of_length_le (by omega), show (0 : Int) = ((0 : Nat) : Int) from rfl, check_l1 a l1 l2 l3 l4 hs hw h0 h1 l2.length k 0 (by omega) (by omega)]
    simp [gsBad, List.range_eq_range']
  | succ d ih =>
    intro k j hj hk
    obtain ⟨k, rfl⟩ : ∃ m, k = m + 1 := ⟨k - 1, by omega⟩
    have hlt : j < l1.length := by omega
    have hwj := hw.w1 l1[j] (List.getElem_mem hlt)
    simp only [spiritlevelref02_Check.l0]
    rw [if_pos (by omega), if_pos (by omega), List.drop_eq_getElem_cons hlt, List.any_cons, rdL_at l1 j hlt, literals_eq k _ n (by simp; exact hwj.1) (by simp) (by simp; omega)]
    simp only [Option.bind_some, List.any_cons, List.any_nil, Bool.or_false]
    by_cases c : litOut n l1[j].f0 = true
    · rw [if_neg (by simp [c]), if_pos (by simp [latBad, c])]
    rw [if_pos (by simp [c])]
    by_cases c2 : l1[j].f1 < 0
    · rw [if_pos c2, if_pos (by simp [latBad, c2])]
    rw [if_neg c2]
    by_cases c3 : l1[j].f1 > 2
    · rw [if_pos c3, if_pos (by simp [latBad, c3])]
    rw [if_neg c3, w64 _ (by omega) (by omega), show ((j : Int) + 1) = ((j + 1 : Nat) : Int) by omega, ih k (j + 1) (by omega) (by omega)]
    have : latBad n l1[j] = false := by simp [latBad, c]; omega
    simp [this]
theorem size_eq (a : Int) (l1 : List S52) (l2 : List S33) (l3 l4 : List Int) (hs : Small l1 l2 l3 l4) (h0 : 0 ≤ a) (h1 : a ≤ 1000) : spiritlevelref02_Size.f a l1 l2 l3 l4 = some (szS a l1 l2) := by
  have hs1 := hs.h1
  have hs2 := hs.h2
  unfold spiritlevelref02_Size.f szS
  rw [w64 (a + l1.length) (by omega) (by omega), w64 _ (by omega) (by omega)]
theorem rcheck_eq (k : Nat) (a : Int) (l1 : List S52) (l2 : List S33) (l3 l4 : List Int) (hs : Small l1 l2 l3 l4) (hw : Wf a l1 l2 l3 l4) (hk : 300 ≤ k) :
    spiritlevelref02_Check.f k a l1 l2 l3 l4 = some (checkR a l1 l2 l3 l4) := by
  have hs1 := hs.h1
  have hs2 := hs.h2
  have hs3 := hs.h3
  have hs4 := hs.h4
  obtain ⟨k, rfl⟩ : ∃ m, k = m + 3 := ⟨k - 3, by omega⟩
  unfold spiritlevelref02_Check.f checkR
  by_cases c0 : a < 0
  · rw [if_pos c0, if_pos c0]
  rw [if_neg c0, if_neg c0]
  have j0 : spiritlevelref02_Check.j0 (k + 3) true a l1 l2 l3 l4 = some 4 := by simp [spiritlevelref02_Check.j0]
  by_cases c1 : a > 1000
  · rw [if_pos c1, if_pos (Or.inl c1), j0]
  rw [if_neg c1, size_eq a l1 l2 l3 l4 hs (by omega) (by omega)]
  simp only [Option.bind_some]
  by_cases c2 : szS a l1 l2 > 1000
  · rw [if_pos c2, if_pos (Or.inr (Or.inl c2)), j0]
  rw [if_neg c2]
  by_cases c3 : (l3.length : Int) > 100
  · rw [if_pos c3, if_pos (by omega), j0]
  rw [if_neg c3]
  by_cases c4 : (l4.length : Int) > 100
  · rw [decide_eq_true c4, if_pos (by omega), j0]
  rw [decide_eq_false c4, if_neg (by omega)]
  simp only [spiritlevelref02_Check.j0]
  rw [if_neg (by decide), size_eq a l1 l2 l3 l4 hs (by omega) (by omega)]
  simp only [Option.bind_some]
  rw [literals_eq _ l3 _ hw.w3 (by omega) (by omega)]
  simp only [Option.bind_some]
  by_cases d3 : l3.any (litOut (szS a l1 l2)) = true
  · rw [if_neg (by simp [d3]), if_pos (Or.inl d3)]; simp [spiritlevelref02_Check.j1]
  rw [if_pos (by simp [d3]), literals_eq _ l4 _ hw.w4 (by omega) (by omega)]
  simp only [Option.bind_some]
  by_cases d4 : l4.any (litOut (szS a l1 l2)) = true
  · rw [if_pos (Or.inr (Or.inl d4)), d4]; simp [spiritlevelref02_Check.j1]
  have d4' : l4.any (litOut (szS a l1 l2)) = false := by simpa using d4
  rw [d4']
  simp only [spiritlevelref02_Check.j1, Bool.not_false, Bool.not_true]
  rw [if_neg (by decide), show (0 : Int) = ((0 : Nat) : Int) from rfl, check_l0 a _ l1 l2 l3 l4 hs hw (by omega) (by omega) l1.length _ 0 (by omega) (by omega)]
  simp [d3]
theorem gcheck_eq (a : Int) (l1 : List S52) (l2 : List S33) (l3 l4 : List Int) (hs : Small l1 l2 l3 l4) (hw : Wf a l1 l2 l3 l4) :
    gates_Check.f a l1 l2 l3 l4 = some (checkR a l1 l2 l3 l4) := by
  have hs1 := hs.h1
  have hs2 := hs.h2
  unfold gates_Check.f checkR
  congr 1
  by_cases c0 : a < 0
  · rw [if_pos c0, if_pos c0]
  rw [if_neg c0, if_neg c0]
  by_cases c1 : a > 1000
  · rw [if_pos c1, if_pos (Or.inl c1)]
  have e3 : st3 a l1.length l2.length = szS a l1 l2 + 1 := by
    unfold st3 st2 st1 szS
    rw [w64 (1 + a) (by omega) (by omega), w64 (1 + a + l1.length) (by omega) (by omega), w64 _ (by omega) (by omega)]
    omega
  have e2 : st2 a l1.length = a + l1.length + 1 := by
    unfold st2 st1
    rw [w64 (1 + a) (by omega) (by omega), w64 _ (by omega) (by omega)]
    omega
  have hz : 0 ≤ szS a l1 l2 ∧ szS a l1 l2 ≤ 1190 := by unfold szS; omega
  rw [if_neg c1, e3, w64 (szS a l1 l2 + 1 - 1) (by omega) (by omega), Int.add_sub_cancel]
  by_cases c2 : szS a l1 l2 > 1000
  · rw [if_pos c2, if_pos (Or.inr (Or.inl c2))]
  rw [if_neg c2]
  by_cases c3 : l3.length > 100 ∨ l4.length > 100
  · rw [if_pos (show (if (l3.length : Int) < (l4.length : Int) then (l4.length : Int) else (l3.length : Int)) > 100 by split <;> omega), if_pos (show a > 1000 ∨ szS a l1 l2 > 1000 ∨ l3.length > 100 ∨ l4.length > 100 by omega)]
  rw [if_neg (show ¬ (if (l3.length : Int) < (l4.length : Int) then (l4.length : Int) else (l3.length : Int)) > 100 by split <;> omega), if_neg (show ¬ (a > 1000 ∨ szS a l1 l2 > 1000 ∨ l3.length > 100 ∨ l4.length > 100) by omega)]
  have o : outS (szS a l1 l2 + 1) = litOut (szS a l1 l2) := by
    funext l
    unfold outS litOut
    congr 1
  have o2 : wrongS (szS a l1 l2 + 1) = latBad (szS a l1 l2) := by
    funext x
    unfold wrongS latBad
    rw [o]
  have o3 : gatesBad (st2 a l1.length) l2 = gsBad (a + l1.length) l2 := by
    unfold gatesBad gsBad
    rw [Bool.eq_iff_iff, List.any_eq_true, List.any_eq_true]
    have hp : ∀ i ∈ List.range l2.length, gateBad (st2 a l1.length) i (rd_T33 l2 i) = gBad (a + l1.length) i (rd_T33 l2 i) := by
      intro i hi
      rw [List.mem_range] at hi
      unfold gateBad gBad
      rw [e2, w64 (a + l1.length + 1 + i) (by omega) (by omega), w64 _ (by omega) (by omega)]
      congr 1
      exact decide_eq_decide.2 (by omega)
    constructor
    · rintro ⟨i, hi, h⟩; exact ⟨i, hi, by rw [← hp i hi]; exact h⟩
    · rintro ⟨i, hi, h⟩; exact ⟨i, hi, by rw [hp i hi]; exact h⟩
  rw [o, o2, o3]
  by_cases d3 : l3.any (litOut (szS a l1 l2)) = true
  · rw [if_pos d3, if_pos (Or.inl d3)]
  rw [if_neg d3]
  by_cases d4 : l4.any (litOut (szS a l1 l2)) = true
  · rw [if_pos d4, if_pos (Or.inr (Or.inl d4))]
  rw [if_neg d4]
  by_cases d5 : l1.any (latBad (szS a l1 l2)) = true
  · rw [if_pos d5, if_pos (Or.inr (Or.inr (Or.inl d5)))]
  rw [if_neg d5]
  by_cases d6 : gsBad (a + l1.length) l2 = true
  · rw [if_pos d6, if_pos (Or.inr (Or.inr (Or.inr d6)))]
  · rw [if_neg d6, if_neg (by simp [d3, d4, d5, d6])]

-- ref02's comparisons of equal circuits
theorem checkR_ok (a : Int) (l1 : List S52) (l2 : List S33) (l3 l4 : List Int) (h : checkR a l1 l2 l3 l4 = 0) : 0 ≤ a ∧ a ≤ 1000 ∧ szS a l1 l2 ≤ 1000 := by
  unfold checkR at h
  by_cases c0 : a < 0
  · rw [if_pos c0] at h; omega
  rw [if_neg c0] at h
  by_cases c1 : a > 1000 ∨ szS a l1 l2 > 1000 ∨ l3.length > 100 ∨ l4.length > 100
  · rw [if_pos c1] at h; omega
  · omega
theorem gvars_eq (a : Int) (l1 : List S52) (l2 : List S33) (l3 l4 : List Int) (hs : Small l1 l2 l3 l4) (hw : Wf a l1 l2 l3 l4) :
    gates_Vars.f a l1 l2 l3 l4 = some (if checkR a l1 l2 l3 l4 = 0 then (szS a l1 l2, 0) else (0, checkR a l1 l2 l3 l4)) := by
  have hs1 := hs.h1
  have hs2 := hs.h2
  unfold gates_Vars.f
  rw [gcheck_eq a l1 l2 l3 l4 hs hw]
  simp only [Option.bind_some]
  by_cases h : checkR a l1 l2 l3 l4 = 0
  · obtain ⟨h0, h1, h2⟩ := checkR_ok _ _ _ _ _ h
    unfold szS at h2
    rw [if_pos h, if_pos h]
    unfold st3 st2 st1 szS
    rw [w64 (1 + a) (by omega) (by omega), w64 (1 + a + l1.length) (by omega) (by omega), w64 (1 + a + l1.length + l2.length) (by omega) (by omega), w64 _ (by omega) (by omega)]
    congr 2; omega
  · rw [if_neg h, if_neg h]

/-- The gates are in order, behind so many variables. -/
def Gates (base : Nat) (gs : List S33) : Prop := ∀ (i : Nat) (h : i < gs.length), 0 ≤ gs[i].f1 ∧ gs[i].f1 ≤ gs[i].f0 ∧ gs[i].f0 / 2 < (base + i : Nat)
/-- What a valid circuit gives. -/
structure Good (a : Int) (l1 : List S52) (l2 : List S33) (l3 l4 : List Int) : Prop where
  a0 : 0 ≤ a
  a1 : a ≤ 1000
  n : szS a l1 l2 ≤ 1000
  g : Gates (1 + a.toNat + l1.length) l2
  l : ∀ x ∈ l1, (0 ≤ x.f0 ∧ x.f0 / 2 ≤ szS a l1 l2) ∧ (0 ≤ x.f1 ∧ x.f1 ≤ 2)
  b : ∀ x ∈ l3, 0 ≤ x ∧ x / 2 ≤ szS a l1 l2
  c : ∀ x ∈ l4, 0 ≤ x ∧ x / 2 ≤ szS a l1 l2
theorem litOut_in {n l : Int} (h : litOut n l = false) : 0 ≤ l ∧ l / 2 ≤ n := by
  simp only [litOut, Bool.or_eq_false_iff, decide_eq_false_iff_not] at h
  omega
theorem good_of (a : Int) (l1 : List S52) (l2 : List S33) (l3 l4 : List Int) (h : checkR a l1 l2 l3 l4 = 0) : Good a l1 l2 l3 l4 := by
  unfold checkR at h
  by_cases c0 : a < 0
  · rw [if_pos c0] at h; omega
  rw [if_neg c0] at h
  by_cases c1 : a > 1000 ∨ szS a l1 l2 > 1000 ∨ l3.length > 100 ∨ l4.length > 100
  · rw [if_pos c1] at h; omega
  rw [if_neg c1] at h
  by_cases c2 : l3.any (litOut (szS a l1 l2)) = true ∨ l4.any (litOut (szS a l1 l2)) = true ∨ l1.any (latBad (szS a l1 l2)) = true ∨ gsBad (a + l1.length) l2 = true
  · rw [if_pos c2] at h; omega
  have d3 : l3.any (litOut (szS a l1 l2)) = false := by
    cases e : l3.any (litOut (szS a l1 l2)) with
    | false => rfl
    | true => exact absurd (Or.inl e) c2
  have d4 : l4.any (litOut (szS a l1 l2)) = false := by
    cases e : l4.any (litOut (szS a l1 l2)) with
    | false => rfl
    | true => exact absurd (Or.inr (Or.inl e)) c2
  have d1 : l1.any (latBad (szS a l1 l2)) = false := by
    cases e : l1.any (latBad (szS a l1 l2)) with
    | false => rfl
    | true => exact absurd (Or.inr (Or.inr (Or.inl e))) c2
  have d2 : gsBad (a + l1.length) l2 = false := by
    cases e : gsBad (a + l1.length) l2 with
    | false => rfl
    | true => exact absurd (Or.inr (Or.inr (Or.inr e))) c2
  refine ⟨by omega, by omega, by omega, ?_, ?_, ?_, ?_⟩
  · intro i hi
    have := List.any_eq_false.1 d2 i (List.mem_range.2 hi)
    rw [rdA_at l2 i hi] at this
    simp [gBad] at this
    omega
  · intro x hx
    have := List.any_eq_false.1 d1 x hx
    simp only [latBad, Bool.not_eq_true, Bool.or_eq_false_iff, decide_eq_false_iff_not] at this
    exact ⟨litOut_in this.1.1, by omega⟩
  · intro x hx
    exact litOut_in (by simpa using List.any_eq_false.1 d3 x hx)
  · intro x hx
    exact litOut_in (by simpa using List.any_eq_false.1 d4 x hx)
theorem check_of (a : Int) (l1 : List S52) (l2 : List S33) (l3 l4 : List Int) (h : Good a l1 l2 l3 l4) (h3 : l3.length ≤ 100) (h4 : l4.length ≤ 100) : checkR a l1 l2 l3 l4 = 0 := by
  have ha0 := h.a0
  have ha1 := h.a1
  have hn := h.n
  unfold checkR
  rw [if_neg (by omega), if_neg (by omega), if_neg]
  rintro (c | c | c | c)
  · obtain ⟨x, hx, hb⟩ := List.any_eq_true.1 c
    have := h.b x hx
    simp [litOut] at hb
    omega
  · obtain ⟨x, hx, hb⟩ := List.any_eq_true.1 c
    have := h.c x hx
    simp [litOut] at hb
    omega
  · obtain ⟨x, hx, hb⟩ := List.any_eq_true.1 c
    have := h.l x hx
    simp [latBad, litOut] at hb
    omega
  · obtain ⟨i, hi, hb⟩ := List.any_eq_true.1 c
    have hi := List.mem_range.1 hi
    have := h.g i hi
    rw [rdA_at l2 i hi] at hb
    simp [gBad] at hb
    omega

-- two-valued frames
def valV (l : List Bool) (x : Int) : Bool := (rdOf false l (x / 2)) != decide (x % 2 = 1)
def frameV : List Bool → List S33 → List Bool
  | acc, [] => acc
  | acc, g :: gs => frameV (acc ++ [valV acc g.f0 && valV acc g.f1]) gs
theorem frameV_len : ∀ (gs : List S33) (acc : List Bool), (frameV acc gs).length = acc.length + gs.length
  | [], acc => rfl
  | g :: gs, acc => by rw [frameV, frameV_len gs]; simp; omega
theorem frameV_snoc : ∀ (gs : List S33) (acc : List Bool) (g : S33), frameV acc (gs ++ [g]) = frameV acc gs ++ [valV (frameV acc gs) g.f0 && valV (frameV acc gs) g.f1]
  | [], acc, g => rfl
  | x :: gs, acc, g => by rw [List.cons_append, frameV, frameV_snoc gs]; rfl
theorem vof_eq (l : List Bool) (x : Int) (h0 : 0 ≤ x) (h1 : x / 2 < l.length) (h2 : l.length ≤ 100000) : values_of.f l x = some (valV l x) := by
  unfold values_of.f valV
  rw [if_pos (by omega), if_pos h1, band1 x h0 (by omega)]
  congr 2
theorem valV_app (l m : List Bool) (x : Int) (h0 : 0 ≤ x) (h1 : x / 2 < l.length) : valV (l ++ m) x = valV l x := by
  unfold valV rdOf
  have : (x / 2).toNat < l.length := by omega
  simp [List.getD, List.getElem?_append_left this]
theorem gatesV_eq : ∀ (gs : List S33) (acc : List Bool), Gates acc.length gs → acc.length + gs.length ≤ 100000 → gatesV (acc ++ List.replicate gs.length false) acc.length gs = some (frameV acc gs)
  | [], acc, _, _ => by simp [gatesV, frameV]
  | g :: gs, acc, hg, hb => by
    have h0 := hg 0 (by simp)
    simp only [List.getElem_cons_zero, Nat.add_zero] at h0
    have hl : (acc ++ List.replicate (g :: gs).length false).length = acc.length + (gs.length + 1) := by simp
    simp only [List.length_cons] at hb
    simp only [gatesV, frameV]
    rw [vof_eq _ g.f0 (by omega) (by rw [hl]; omega) (by rw [hl]; omega), vof_eq _ g.f1 (by omega) (by rw [hl]; omega) (by rw [hl]; omega), valV_app acc _ _ (by omega) (by omega), valV_app acc _ _ (by omega) (by omega)]
    simp only [Option.bind_some]
    have e : (if valV acc g.f0 = true then some (valV acc g.f1) else some false) = some (valV acc g.f0 && valV acc g.f1) := by cases valV acc g.f0 <;> simp
    rw [e]
    simp only [Option.bind_some]
    have hg' : Gates (acc ++ [valV acc g.f0 && valV acc g.f1]).length gs := fun i hi => by
      have := hg (i + 1) (by simpa using hi)
      simp only [List.getElem_cons_succ] at this
      exact ⟨this.1, this.2.1, by simp; omega⟩
    have ih := gatesV_eq gs (acc ++ [valV acc g.f0 && valV acc g.f1]) hg' (by simp; omega)
    have e2 : (acc ++ List.replicate (g :: gs).length false).set acc.length (valV acc g.f0 && valV acc g.f1) = (acc ++ [valV acc g.f0 && valV acc g.f1]) ++ List.replicate gs.length false := by
      rw [List.set_append, if_neg (by omega), Nat.sub_self, List.length_cons, List.replicate_succ, List.set_cons_zero, List.append_assoc]
      rfl
    rw [e2, ← ih]
    simp
def allV (a : Int) (l1 : List S52) (l2 : List S33) (l3 l4 : List Int) (st inp : List Bool) : List Bool × Int :=
  if checkR a l1 l2 l3 l4 = 0 then (if st.length = l1.length ∧ (inp.length : Int) = a then (frameV (false :: (inp ++ st)) l2, 0) else ([], 2)) else ([], checkR a l1 l2 l3 l4)
theorem vall_eq (a : Int) (l1 : List S52) (l2 : List S33) (l3 l4 : List Int) (st inp : List Bool) (hs : Small l1 l2 l3 l4) (hw : Wf a l1 l2 l3 l4) :
    values_All.f a l1 l2 l3 l4 st inp = some (allV a l1 l2 l3 l4 st inp) := by
  unfold values_All.f allV
  rw [gvars_eq a l1 l2 l3 l4 hs hw]
  simp only [Option.bind_some]
  by_cases c : checkR a l1 l2 l3 l4 = 0
  · rw [if_pos c, if_pos c]
    simp only [if_true]
    by_cases d : st.length = l1.length ∧ (inp.length : Int) = a
    · have hg := good_of a l1 l2 l3 l4 c
      have ha0 := hg.a0
      have ha1 := hg.a1
      have hn := hg.n
      rw [if_pos d, if_pos d, if_pos (by unfold szS at hn ⊢; constructor <;> omega)]
      have h1 : (false :: (inp ++ st)).length = 1 + a.toNat + l1.length := by simp; omega
      have := gatesV_eq l2 (false :: (inp ++ st)) (by rw [h1]; exact hg.g) (by rw [h1]; unfold szS at hn; omega)
      have e1 : (false :: (inp ++ (st ++ List.replicate l2.length false))) = (false :: (inp ++ st)) ++ List.replicate l2.length false := by simp
      rw [e1, show 1 + inp.length + st.length = (false :: (inp ++ st)).length by simp; omega, this]
      rfl
    · rw [if_neg d, if_neg d]
  · rw [if_neg c, if_neg c, if_neg c]
theorem vsame_l0 (a b : List Bool) (hab : a.length = b.length) (hl : a.length ≤ 100000) (d : Nat) : ∀ (k j : Nat), j + d = a.length → d < k →
    spiritlevelref04_Same.l0 k a b (j : Int) = some (decide (a.drop j = b.drop j)) := by
  induction d with
  | zero =>
    intro k j hj hk
    obtain ⟨k, rfl⟩ : ∃ m, k = m + 1 := ⟨k - 1, by omega⟩
    simp only [spiritlevelref04_Same.l0]
    rw [if_neg (by omega), List.drop_of_length_le (by omega), List.drop_of_length_le (by omega)]; rfl
  | succ d ih =>
    intro k j hj hk
    obtain ⟨k, rfl⟩ : ∃ m, k = m + 1 := ⟨k - 1, by omega⟩
    have h1 : j < a.length := by omega
    have h2 : j < b.length := by omega
    have ra : rdOf false a (j : Int) = a[j] := by simp [rdOf, List.getD, h1]
    have rb : rdOf false b (j : Int) = b[j] := by simp [rdOf, List.getD, h2]
    simp only [spiritlevelref04_Same.l0]
    rw [if_pos (by omega), if_pos (by omega), if_pos (show (j : Int) < (b.length : Int) by omega), ra, rb, List.drop_eq_getElem_cons (l := a) h1, List.drop_eq_getElem_cons (l := b) h2, w64 ((j : Int) + 1) (by omega) (by omega), show ((j : Int) + 1) = ((j + 1 : Nat) : Int) by omega, ih k (j + 1) (by omega) (by omega)]
    by_cases c : a[j] = b[j]
    · rw [if_neg (by simp [c]), c]
      simp only [List.cons.injEq, true_and]
    · rw [if_pos (by simp [c])]
      have : ¬ (a[j] :: List.drop (j + 1) a = b[j] :: List.drop (j + 1) b) := fun h => c (List.cons.inj h).1
      rw [decide_eq_false this]
theorem vsame_eq (k : Nat) (a b : List Bool) (hl : a.length ≤ 100000) (hk : a.length < k) : spiritlevelref04_Same.f k a b = some (decide (a = b)) := by
  unfold spiritlevelref04_Same.f
  by_cases c : a.length = b.length
  · rw [if_pos (by omega)]
    have := vsame_l0 a b c hl a.length k 0 (by omega) hk
    simpa using this
  · rw [if_neg (by omega)]
    have : a ≠ b := fun h => c (by rw [h])
    simp [this]
theorem vasked_eq (k : Nat) (a : Int) (l1 : List S52) (l2 : List S33) (l3 l4 : List Int) (st inp : List Bool) (hs : Small l1 l2 l3 l4) (hw : Wf a l1 l2 l3 l4) (hk : 300 ≤ k) :
    spiritlevelref04_Asked.f k a l1 l2 l3 l4 st inp = some (allV a l1 l2 l3 l4 st inp).2 := by
  unfold spiritlevelref04_Asked.f allV
  rw [rcheck_eq k a l1 l2 l3 l4 hs hw hk]
  simp only [Option.bind_some]
  by_cases c : checkR a l1 l2 l3 l4 = 0
  · rw [if_pos c, if_pos c]
    by_cases c1 : st.length = l1.length
    · rw [if_pos (by omega)]
      by_cases c2 : (inp.length : Int) = a
      · rw [if_pos c2, if_pos ⟨c1, c2⟩]
      · rw [if_neg c2, if_neg (fun h => c2 h.2)]
    · rw [if_neg (by omega), if_neg (fun h => c1 h.1)]
  · rw [if_neg c, if_neg c]
theorem allV_ok {a : Int} {l1 : List S52} {l2 : List S33} {l3 l4 : List Int} {st inp : List Bool} (h : (allV a l1 l2 l3 l4 st inp).2 = 0) :
    checkR a l1 l2 l3 l4 = 0 ∧ st.length = l1.length ∧ (inp.length : Int) = a ∧ allV a l1 l2 l3 l4 st inp = (frameV (false :: (inp ++ st)) l2, 0) := by
  unfold allV at h ⊢
  by_cases c : checkR a l1 l2 l3 l4 = 0
  · rw [if_pos c] at h ⊢
    by_cases d : st.length = l1.length ∧ (inp.length : Int) = a
    · rw [if_pos d] at h ⊢; exact ⟨c, d.1, d.2, rfl⟩
    · rw [if_neg d] at h; simp at h
  · rw [if_neg c] at h; exact absurd h c
theorem great_l2 (a : Int) (l1 : List S52) (l2 : List S33) (l3 l4 : List Int) (h : spiritlevelref02_Great.f a l1 l2 l3 l4 = some false) : l2.length ≤ 120 := by
  unfold spiritlevelref02_Great.f at h
  by_cases c1 : (l1.length : Int) > 60
  · rw [if_pos c1] at h; simp at h
  rw [if_neg c1] at h
  by_cases c2 : (l2.length : Int) > 120
  · rw [if_pos c2] at h; simp at h
  · omega
theorem fit_eq (k : Nat) (a : Int) (l1 : List S52) (l2 : List S33) (l3 l4 : List Int) (st inp : List Bool) (hw : Wf a l1 l2 l3 l4) (hk : 300 ≤ k) :
    ∃ b, spiritlevellaw04_fit.f k a l1 l2 l3 l4 st inp = some b ∧ (b = true → Small l1 l2 l3 l4 ∧ l2.length ≤ 120 ∧ (allV a l1 l2 l3 l4 st inp).2 = 0) := by
  unfold spiritlevellaw04_fit.f
  obtain ⟨b, hb, hsm⟩ := great_eq a l1 l2 l3 l4
  rw [hb]
  simp only [Option.bind_some]
  cases b with
  | true => exact ⟨false, by rw [if_pos rfl], by simp⟩
  | false =>
    rw [if_neg (by decide)]
    obtain ⟨hs, -⟩ := hsm rfl
    by_cases c1 : (st.length : Int) ≤ 100
    · rw [if_pos c1]
      by_cases c2 : (inp.length : Int) ≤ 100
      · rw [if_pos c2, vasked_eq k a l1 l2 l3 l4 st inp hs hw hk]
        refine ⟨_, rfl, fun h => ⟨hs, great_l2 a l1 l2 l3 l4 hb, by simpa using h⟩⟩
      · exact ⟨false, by rw [if_neg c2], by simp⟩
    · exact ⟨false, by rw [if_neg c1], by simp⟩
theorem vframe_len {a : Int} {l1 : List S52} {l2 : List S33} {st inp : List Bool} (h1 : st.length = l1.length) (h2 : (inp.length : Int) = a) : ((frameV (false :: (inp ++ st)) l2).length : Int) = 1 + szS a l1 l2 := by
  rw [frameV_len]; unfold szS; simp; omega
theorem al60 (k : Nat) (hk : 60 ≤ k) : spiritlevellaw04_alive.f k = some true := by
  have al : spiritlevellaw04_alive.f 60 = some true := by decide +kernel
  obtain ⟨d, rfl⟩ := Nat.exists_eq_add_of_le hk
  induction d with
  | zero => exact al
  | succ d ih => exact spiritlevellaw04_alive.mono (60 + d) _ (ih (by omega))

-- the reference's frames, and lists of values
theorem listV_eq (fr : List Bool) (hf : fr.length ≤ 100000) : ∀ (ls : List Int), (∀ x ∈ ls, 0 ≤ x ∧ x / 2 < fr.length) → listV fr ls = some (ls.map (valV fr))
  | [], _ => rfl
  | x :: l, h => by
    obtain ⟨h0, h1⟩ := h x (by simp)
    rw [listV, vof_eq fr x h0 h1 hf, Option.bind_some, listV_eq fr hf l (fun y hy => h y (by simp [hy]))]
    rfl
/-- Values of literals in a frame, or the error. -/
def litsV (a : Int) (l1 : List S52) (l2 : List S33) (l3 l4 : List Int) (st inp : List Bool) (ls : List Int) : List Bool × Int :=
  if (allV a l1 l2 l3 l4 st inp).2 = 0 then (ls.map (valV (allV a l1 l2 l3 l4 st inp).1), 0) else ([], (allV a l1 l2 l3 l4 st inp).2)
theorem listF_eq (a : Int) (l1 : List S52) (l2 : List S33) (l3 l4 : List Int) (st inp : List Bool) (ls : List Int) (hs : Small l1 l2 l3 l4) (hw : Wf a l1 l2 l3 l4) (hl : checkR a l1 l2 l3 l4 = 0 → ∀ x ∈ ls, 0 ≤ x ∧ x / 2 ≤ szS a l1 l2) :
    listF a l1 l2 l3 l4 st inp ls = some (litsV a l1 l2 l3 l4 st inp ls) := by
  unfold listF litsV
  rw [vall_eq a l1 l2 l3 l4 st inp hs hw, Option.bind_some]
  by_cases c : (allV a l1 l2 l3 l4 st inp).2 = 0
  · obtain ⟨c0, e1, e2, e⟩ := allV_ok c
    have hg := good_of a l1 l2 l3 l4 c0
    have hn := hg.n
    have hlen := vframe_len (l2 := l2) e1 e2
    rw [if_pos c, if_pos c, e]
    dsimp only
    rw [listV_eq _ (by omega) ls (fun x hx => by have := hl c0 x hx; omega), Option.bind_some]
  · rw [if_neg c, if_neg c]
theorem vnext_eq (a : Int) (l1 : List S52) (l2 : List S33) (l3 l4 : List Int) (st inp : List Bool) (hs : Small l1 l2 l3 l4) (hw : Wf a l1 l2 l3 l4) :
    values_Next.f a l1 l2 l3 l4 st inp = some (litsV a l1 l2 l3 l4 st inp (l1.map fun x => x.f0)) := by
  have := hs.h1
  unfold values_Next.f
  rw [if_pos (by omega), listF_eq a l1 l2 l3 l4 st inp _ hs hw]
  intro c0 x hx
  obtain ⟨y, hy, rfl⟩ := List.mem_map.1 hx
  exact ((good_of a l1 l2 l3 l4 c0).l y hy).1
/-- The constraints, the bad literals and the error. -/
def propsV (a : Int) (l1 : List S52) (l2 : List S33) (l3 l4 : List Int) (st inp : List Bool) : Bool × List Bool × Int :=
  if (allV a l1 l2 l3 l4 st inp).2 = 0 then (!(l4.any fun x => !(valV (allV a l1 l2 l3 l4 st inp).1 x)), l3.map (valV (allV a l1 l2 l3 l4 st inp).1), 0) else (false, [], (allV a l1 l2 l3 l4 st inp).2)
theorem vprops_eq (a : Int) (l1 : List S52) (l2 : List S33) (l3 l4 : List Int) (st inp : List Bool) (hs : Small l1 l2 l3 l4) (hw : Wf a l1 l2 l3 l4) :
    values_Props.f a l1 l2 l3 l4 st inp = some (propsV a l1 l2 l3 l4 st inp) := by
  have h3 := hs.h3
  have h4 := hs.h4
  unfold values_Props.f
  rw [if_pos ⟨by omega, by omega⟩, listF_eq a l1 l2 l3 l4 st inp l3 hs hw (fun c0 => (good_of a l1 l2 l3 l4 c0).b), Option.bind_some, listF_eq a l1 l2 l3 l4 st inp l4 hs hw (fun c0 => (good_of a l1 l2 l3 l4 c0).c)]
  unfold litsV propsV
  by_cases c : (allV a l1 l2 l3 l4 st inp).2 = 0
  · rw [if_pos c, if_pos c, if_pos c]
    dsimp only
    rw [if_pos rfl, Option.bind_some, List.any_map]
    rfl
  · rw [if_neg c, if_neg c]
    dsimp only
    first | rfl | rw [if_neg c]
theorem kind_eq (a : Int) (l1 : List S52) (l2 : List S33) (l3 l4 : List Int) (hs : Small l1 l2 l3 l4) (hw : Wf a l1 l2 l3 l4) (c0 : checkR a l1 l2 l3 l4 = 0) (z : Int) (h1 : 1 ≤ z) (h2 : z ≤ szS a l1 l2) :
    gates_Kind.f a l1 l2 l3 l4 z = some (if 1 + a + l1.length ≤ z then (3, z - (1 + a + l1.length), 0) else if 1 + a ≤ z then (2, z - (1 + a), 0) else (1, z - 1, 0)) := by
  have hg := good_of a l1 l2 l3 l4 c0
  have ha := hg.a0
  have hn := hg.n
  unfold szS at h2 hn
  have e1 : st1 a = 1 + a := w64 _ (by omega) (by omega)
  have e2 : st2 a l1.length = 1 + a + l1.length := by unfold st2; rw [e1]; exact w64 _ (by omega) (by omega)
  have e3 : st3 a l1.length l2.length = 1 + a + l1.length + l2.length := by unfold st3; rw [e2]; exact w64 _ (by omega) (by omega)
  unfold gates_Kind.f
  rw [gcheck_eq a l1 l2 l3 l4 hs hw, Option.bind_some, if_pos c0, if_neg (by omega), e3, if_neg (by omega), e2, e1]
  by_cases c : 1 + a + (l1.length : Int) ≤ z
  · rw [if_pos c, if_pos c, w64 _ (by omega) (by omega)]
  rw [if_neg c, if_neg c]
  by_cases d : 1 + a ≤ z
  · rw [if_pos d, if_pos d, w64 _ (by omega) (by omega)]
  rw [if_neg d, if_neg d, if_pos h1, w64 _ (by omega) (by omega)]

theorem vOf_eq (l : List Bool) (x : Int) (h0 : 0 ≤ x) (h1 : x / 2 < l.length) (h2 : l.length ≤ 100000) : values_Of.f l x = some (valV l x, 0) := by
  unfold values_Of.f
  rw [if_neg (by omega), if_neg (by omega), vof_eq l x h0 h1 h2]
  rfl

theorem is_eq (l : List Bool) (x : Int) (h0 : 0 ≤ x) (h1 : x / 2 < l.length) (h2 : l.length ≤ 100000) : spiritlevellaw04_is.f l x = some (valV l x) := by
  unfold spiritlevellaw04_is.f
  rw [vOf_eq l x h0 h1 h2, Option.bind_some, if_pos rfl]
theorem frameV_pre : ∀ (gs : List S33) (acc : List Bool), ∃ t, frameV acc gs = acc ++ t
  | [], acc => ⟨[], by simp [frameV]⟩
  | g :: gs, acc => by
    obtain ⟨t, h⟩ := frameV_pre gs (acc ++ [valV acc g.f0 && valV acc g.f1])
    exact ⟨[valV acc g.f0 && valV acc g.f1] ++ t, by rw [frameV, h, List.append_assoc]⟩
theorem frameV_at : ∀ (gs : List S33) (acc : List Bool), Gates acc.length gs → ∀ (i : Nat) (h : i < gs.length), (frameV acc gs).getD (acc.length + i) false = (valV (frameV acc gs) gs[i].f0 && valV (frameV acc gs) gs[i].f1)
  | [], acc, _, i, h => absurd h (by simp)
  | g :: gs, acc, hg, i, h => by
    have h0 := hg 0 (by simp)
    simp only [List.getElem_cons_zero, Nat.add_zero] at h0
    cases i with
    | zero =>
      obtain ⟨t, ht⟩ := frameV_pre gs (acc ++ [valV acc g.f0 && valV acc g.f1])
      have e : frameV acc (g :: gs) = acc ++ ([valV acc g.f0 && valV acc g.f1] ++ t) := by rw [frameV, ht, List.append_assoc]
      rw [e, List.getElem_cons_zero, valV_app acc _ _ (by omega) (by omega), valV_app acc _ _ (by omega) (by omega)]
      simp [List.getD]
    | succ i =>
      have hl : (acc ++ [valV acc g.f0 && valV acc g.f1]).length = acc.length + 1 := by simp
      have ih := frameV_at gs (acc ++ [valV acc g.f0 && valV acc g.f1]) (by
        intro j hj
        have := hg (j + 1) (by simp; omega)
        simp only [List.getElem_cons_succ] at this
        rw [hl]
        refine ⟨this.1, this.2.1, ?_⟩
        have := this.2.2
        omega) i (by simpa using h)
      rw [frameV, List.getElem_cons_succ, ← ih, hl]
      congr 1
      omega
theorem vf_of (k : Nat) (a : Int) (l1 : List S52) (l2 : List S33) (l3 l4 : List Int) (st inp : List Bool) (hs : Small l1 l2 l3 l4) (hw : Wf a l1 l2 l3 l4) (hok : (allV a l1 l2 l3 l4 st inp).2 = 0) :
    VF k a l1 l2 l3 l4 st inp (frameV (false :: (inp ++ st)) l2) (szS a l1 l2).toNat (!(l4.any fun x => !(valV (frameV (false :: (inp ++ st)) l2) x))) (valV (frameV (false :: (inp ++ st)) l2)) := by
  obtain ⟨c0, e1, e2, hall⟩ := allV_ok hok
  have hg := good_of a l1 l2 l3 l4 c0
  have ha0 := hg.a0
  have ha1 := hg.a1
  have hn := hg.n
  have hs1 := hs.h1
  have hs2 := hs.h2
  have hs3 := hs.h3
  have hs4 := hs.h4
  have hlen := vframe_len (l2 := l2) e1 e2
  have hz : ((szS a l1 l2).toNat : Int) = szS a l1 l2 := by unfold szS; omega
  obtain ⟨t, ht⟩ := frameV_pre l2 (false :: (inp ++ st))
  have hbase : (false :: (inp ++ st)).length = 1 + a.toNat + l1.length := by simp; omega
  have hat := frameV_at l2 (false :: (inp ++ st)) (by rw [hbase]; exact hg.g)
  have hsz : szS a l1 l2 = a + l1.length + l2.length := rfl
  refine ⟨?_, ?_, ?_, ?_, by omega, by omega, e1.symm, by omega, ?_, ?_, ?_, ?_, ?_⟩
  · rw [vall_eq a l1 l2 l3 l4 st inp hs hw, hall]
  · rw [vnext_eq a l1 l2 l3 l4 st inp hs hw]
    unfold litsV
    rw [if_pos hok, hall, List.map_map]
    rfl
  · rw [vprops_eq a l1 l2 l3 l4 st inp hs hw]
    unfold propsV
    rw [if_pos hok, hall]
  · rw [gvars_eq a l1 l2 l3 l4 hs hw, if_pos c0, hz]
  · rw [ht]; rfl
  · intro v h1 h2
    have hk := kind_eq a l1 l2 l3 l4 hs hw c0 (v : Int) (by omega) (by omega)
    by_cases c : 1 + a + (l1.length : Int) ≤ (v : Int)
    · right; right
      have hi : v - (1 + a.toNat + l1.length) < l2.length := by omega
      have hg2 := hg.g _ hi
      have e : rd_T33 l2 ((v - (1 + a.toNat + l1.length) : Nat) : Int) = l2[v - (1 + a.toNat + l1.length)] := by simp [rd_T33, List.getD, hi]
      refine ⟨v - (1 + a.toNat + l1.length), hi, ?_, ?_, ?_, ?_⟩
      · rw [hk, if_pos c]
        congr 3
        omega
      · rw [e]; exact is_eq _ _ (by omega) (by omega) (by omega)
      · rw [e]; exact is_eq _ _ (by omega) (by omega) (by omega)
      · rw [e, ← hat _ hi, hbase]
        unfold rdOf
        rw [Int.toNat_natCast, show 1 + a.toNat + l1.length + (v - (1 + a.toNat + l1.length)) = v by omega]
    · by_cases d : 1 + a ≤ (v : Int)
      · right; left
        refine ⟨v - (1 + a.toNat), by omega, ?_, ?_⟩
        · rw [hk, if_neg c, if_pos d]
          congr 3
          omega
        · rw [ht]
          unfold rdOf
          rw [Int.toNat_natCast, Int.toNat_natCast]
          obtain ⟨j, rfl⟩ : ∃ j, v = 1 + a.toNat + j := ⟨v - (1 + a.toNat), by omega⟩
          rw [show 1 + a.toNat + j - (1 + a.toNat) = j by omega, show 1 + a.toNat + j = (inp.length + j) + 1 by omega]
          simp only [List.cons_append, List.getD_cons_succ, List.append_assoc]
          simp only [List.getD_eq_getElem?_getD]
          rw [List.getElem?_append_right (by omega), Nat.add_sub_cancel_left, List.getElem?_append_left (by omega)]
      · left
        refine ⟨v - 1, by omega, ?_, ?_⟩
        · rw [hk, if_neg c, if_neg d]
          congr 3
          omega
        · rw [ht]
          unfold rdOf
          rw [Int.toNat_natCast, Int.toNat_natCast]
          obtain ⟨j, rfl⟩ : ∃ j, v = j + 1 := ⟨v - 1, by omega⟩
          simp only [List.cons_append, List.getD_cons_succ, List.append_assoc, Nat.add_sub_cancel]
          simp only [List.getD_eq_getElem?_getD]
          rw [List.getElem?_append_left (by omega)]
  · intro i hi
    have := (hg.l l1[i] (List.getElem_mem hi)).1
    rw [show rd_T52 l1 (i : Int) = l1[i] by simp [rd_T52, List.getD, hi]]
    exact is_eq _ _ this.1 (by omega) (by omega)
  · intro i hi
    have := hg.b l3[i] (List.getElem_mem hi)
    rw [rd_at l3 i hi]
    exact is_eq _ _ this.1 (by omega) (by omega)
  · intro i hi hr
    have := hg.c l4[i] (List.getElem_mem hi)
    rw [rd_at l4 i hi, is_eq _ _ this.1 (by omega) (by omega)]
    simp only [Bool.not_eq_true', List.any_eq_false] at hr
    have := hr l4[i] (List.getElem_mem hi)
    simpa using this


theorem valuesGates_all (a0_0 : Int) (A0_1 : Option Addr) (c0_1 : Nat) (l0_1 : List (S52)) (A0_2 : Option Addr) (c0_2 : Nat) (l0_2 : List (S33)) (A0_3 : Option Addr) (c0_3 : Nat) (l0_3 : List Int) (A0_4 : Option Addr) (c0_4 : Nat) (l0_4 : List Int) (A1 : Option Addr) (c1 : Nat) (l1 : List Bool) (A2 : Option Addr) (c2 : Nat) (l2 : List Bool) (w : World) (hr0_1 : Kd.C k52 w A0_1 l0_1.length l0_1) (hc0_1 : l0_1.length ≤ c0_1) (hr0_2 : Kd.C k33 w A0_2 l0_2.length l0_2) (hc0_2 : l0_2.length ≤ c0_2) (hr0_3 : Kd.C (Kd.int .i64) w A0_3 l0_3.length l0_3) (hc0_3 : l0_3.length ≤ c0_3) (hr0_4 : Kd.C (Kd.int .i64) w A0_4 l0_4.length l0_4) (hc0_4 : l0_4.length ≤ c0_4) (hr1 : Kd.C Kd.bool w A1 l1.length l1) (hc1 : l1.length ≤ c1) (hr2 : Kd.C Kd.bool w A2 l2.length l2) (hc2 : l2.length ≤ c2) (ok0_0 : (Lit.int .i64 a0_0).wf = true) (ok0_1 : l0_1.length ≤ 9223372036854775807 ∧ l0_1.length * 16 ≤ 140737488351232 ∧ ∀ x0_ ∈ l0_1, ((Lit.int .i64 x0_.f0).wf = true) ∧ ((Lit.int .i64 x0_.f1).wf = true)) (ok0_2 : l0_2.length ≤ 9223372036854775807 ∧ l0_2.length * 16 ≤ 140737488351232 ∧ ∀ x0_ ∈ l0_2, ((Lit.int .i64 x0_.f0).wf = true) ∧ ((Lit.int .i64 x0_.f1).wf = true)) (ok0_3 : l0_3.length ≤ 9223372036854775807 ∧ l0_3.length * 8 ≤ 140737488351232 ∧ ∀ x0_ ∈ l0_3, (Lit.int .i64 x0_).wf = true) (ok0_4 : l0_4.length ≤ 9223372036854775807 ∧ l0_4.length * 8 ≤ 140737488351232 ∧ ∀ x0_ ∈ l0_4, (Lit.int .i64 x0_).wf = true) (ok1 : l1.length ≤ 9223372036854775807 ∧ l1.length * 1 ≤ 140737488351232 ∧ ∀ x0_ ∈ l1, True) (ok2 : l2.length ≤ 9223372036854775807 ∧ l2.length * 1 ≤ 140737488351232 ∧ ∀ x0_ ∈ l2, True) :
    Calls Try.prog 7 #[.agg #[.int .i64 a0_0, .slice A0_1 l0_1.length c0_1, .slice A0_2 l0_2.length c0_2, .slice A0_3 l0_3.length c0_3, .slice A0_4 l0_4.length c0_4], .slice A1 l1.length c1, .slice A2 l2.length c2] w fun e w' => e = .returned (.bool true) ∧ Below w.heap.size w w' := by
  have hw : Wf a0_0 l0_1 l0_2 l0_3 l0_4 := ⟨wf_i64 ok0_0, fun x hx => ⟨wf_i64 (ok0_1.2.2 x hx).1, wf_i64 (ok0_1.2.2 x hx).2⟩, fun x hx => ⟨wf_i64 (ok0_2.2.2 x hx).1, wf_i64 (ok0_2.2.2 x hx).2⟩, fun x hx => wf_i64 (ok0_3.2.2 x hx), fun x hx => wf_i64 (ok0_4.2.2 x hx)⟩
  obtain ⟨b, hb, hfit⟩ := fit_eq 5000 a0_0 l0_1 l0_2 l0_3 l0_4 l1 l2 hw (by omega)
  exact gates_walk 5000 a0_0 A0_1 c0_1 l0_1 A0_2 c0_2 l0_2 A0_3 c0_3 l0_3 A0_4 c0_4 l0_4 A1 c1 l1 A2 c2 l2 b _ _ _ _ w hr0_1 hc0_1 hr0_2 hc0_2 hr0_3 hc0_3 hr0_4 hc0_4 hr1 hc1 hr2 hc2 (al60 _ (by omega)) hb (fun h => vf_of 5000 a0_0 l0_1 l0_2 l0_3 l0_4 l1 l2 (hfit h).1 hw (hfit h).2.2)
end Go.Proofs.Ytfppehhhgbkhcaa.Pure
