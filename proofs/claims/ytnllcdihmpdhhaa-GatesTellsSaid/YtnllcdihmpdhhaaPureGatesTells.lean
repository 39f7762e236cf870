/- The program's Check, Vars and Kind equal the reference's for every circuit that is not great and every variable, and leave the circuit as it is. No further condition. -/
import Derived.Test.YtnllcdihmpdhhaaQGatesTellsx7
namespace Go.Proofs.Ytnllcdihmpdhhaa.Pure
open Go.RowKit Go.Proofs.Ytnllcdihmpdhhaa.QGatesTells Go.Proofs.YtnllcdihmpdhhaaW.PrintWords Go.Proofs.YtnllcdihmpdhhaaW.PrintLast
set_option linter.unusedSimpArgs false
set_option linter.unusedVariables false
-- ref02: what the reference of layer 2 and gates.Check come to, for circuits that are not great
theorem w64 (n : Int) (h : -9223372036854775808 ≤ n) (h2 : n ≤ 9223372036854775807) : wrap64 n = n := by unfold wrap64; omega
theorem rd_at (l : List Int) (j : Nat) (h : j < l.length) : rd l (j : Int) = l[j] := by simp [rd, List.getD, h]
theorem wf_i64 {x : Int} (h : (Lit.int .i64 x).wf = true) : -9223372036854775808 ≤ x ∧ x ≤ 9223372036854775807 := by
  simp [Lit.wf, IntKind.min, IntKind.max, IntKind.signed, IntKind.bits] at h
  omega
def litOut (n l : Int) : Bool := decide (l < 0) || decide (l / 2 > n)
def latBad (n : Int) (x : S53) : Bool := litOut n x.f0 || decide (x.f1 < 0) || decide (x.f1 > 2)
def gBad (m : Int) (i : Nat) (g : S50) : Bool := decide (g.f1 < 0) || decide (g.f0 < g.f1) || decide (g.f0 / 2 > m + i)
def gsBad (m : Int) (l : List S50) : Bool := (List.range l.length).any fun i => gBad m i (rd_T50 l i)
def szS (a : Int) (l1 : List S53) (l2 : List S50) : Int := a + l1.length + l2.length
def checkR (a : Int) (l1 : List S53) (l2 : List S50) (l3 l4 : List Int) : Int :=
  if a < 0 then 8 else if a > 1000 ∨ szS a l1 l2 > 1000 ∨ l3.length > 100 ∨ l4.length > 100 then 4
  else if l3.any (litOut (szS a l1 l2)) = true ∨ l4.any (litOut (szS a l1 l2)) = true ∨ l1.any (latBad (szS a l1 l2)) = true ∨ gsBad (a + l1.length) l2 = true then 8 else 0
/-- The lengths of a circuit that is not great. -/
structure Small (l1 : List S53) (l2 : List S50) (l3 l4 : List Int) : Prop where
  h1 : l1.length ≤ 60
  h2 : l2.length ≤ 120
  h3 : l3.length ≤ 110
  h4 : l4.length ≤ 110
/-- All numbers of a circuit are int64. -/
structure Wf (a : Int) (l1 : List S53) (l2 : List S50) (l3 l4 : List Int) : Prop where
  w0 : -9223372036854775808 ≤ a ∧ a ≤ 9223372036854775807
  w1 : ∀ x ∈ l1, (-9223372036854775808 ≤ x.f0 ∧ x.f0 ≤ 9223372036854775807) ∧ (-9223372036854775808 ≤ x.f1 ∧ x.f1 ≤ 9223372036854775807)
  w2 : ∀ x ∈ l2, (-9223372036854775808 ≤ x.f0 ∧ x.f0 ≤ 9223372036854775807) ∧ (-9223372036854775808 ≤ x.f1 ∧ x.f1 ≤ 9223372036854775807)
  w3 : ∀ x ∈ l3, -9223372036854775808 ≤ x ∧ x ≤ 9223372036854775807
  w4 : ∀ x ∈ l4, -9223372036854775808 ≤ x ∧ x ≤ 9223372036854775807
theorem great_eq (a : Int) (l1 : List S53) (l2 : List S50) (l3 l4 : List Int) :
    ∃ b, spiritlevelref02_Great.f a l1 l2 l3 l4 = some b ∧ (b = false → Small l1 l2 l3 l4 ∧ (a ≤ 40 ∨ 996 ≤ a)) := by
  unfold spiritlevelref02_Great.f
  by_cases c1 : (l1.length : Int) > 60
  · exact ⟨true, by rw [if_pos c1], by simp⟩
  by_cases c2 : (l2.length : Int) > 120
  · exact ⟨true, by rw [if_neg c1, if_pos c2], by simp⟩
  by_cases c3 : (l3.length : Int) > 110
  · exact ⟨true, by rw [if_neg c1, if_neg c2, if_pos c3], by simp⟩
  by_cases c4 : (l4.length : Int) > 110
  · exact ⟨true, by rw [if_neg c1, if_neg c2, if_neg c3, if_pos c4], by simp⟩
  by_cases c5 : a > 40
  · exact ⟨decide (a < 996), by rw [if_neg c1, if_neg c2, if_neg c3, if_neg c4, if_pos c5], fun h => ⟨⟨by omega, by omega, by omega, by omega⟩, by simp at h; omega⟩⟩
  · exact ⟨false, by rw [if_neg c1, if_neg c2, if_neg c3, if_neg c4, if_neg c5], fun _ => ⟨⟨by omega, by omega, by omega, by omega⟩, by omega⟩⟩
theorem literals_l0 (l : List Int) (n : Int) (hw : ∀ x ∈ l, -9223372036854775808 ≤ x ∧ x ≤ 9223372036854775807) (hl : l.length ≤ 100000) (d : Nat) : ∀ (k j : Nat), j + d = l.length → d < k →
    spiritlevelref02_literals.l0 k l n (j : Int) = some (!(l.drop j).any (litOut n)) := by
  induction d with
  | zero =>
    intro k j hj hk
    obtain ⟨k, rfl⟩ : ∃ m, k = m + 1 := ⟨k - 1, by omega⟩
    simp only [spiritlevelref02_literals.l0]
    rw [if_neg (by omega), List.drop_of_length_le (by omega)]; rfl
  | succ d ih =>
    intro k j hj hk
    obtain ⟨k, rfl⟩ : ∃ m, k = m + 1 := ⟨k - 1, by omega⟩
    have hlt : j < l.length := by omega
    have hwj := hw l[j] (List.getElem_mem hlt)
    simp only [spiritlevelref02_literals.l0]
    rw [if_pos (by omega), if_pos (by omega), rd_at l j hlt, List.drop_eq_getElem_cons hlt, List.any_cons]
    by_cases c : l[j] < 0
    · rw [if_pos c]; simp [litOut, c]
    · rw [if_neg c, Int.tdiv_eq_ediv_of_nonneg (by omega), w64 _ (by omega) (by omega)]
      by_cases c2 : l[j] / 2 > n
      · rw [if_pos c2]; simp [litOut, c2]
      · rw [if_neg c2, w64 _ (by omega) (by omega), show ((j : Int) + 1) = ((j + 1 : Nat) : Int) by omega, ih k (j + 1) (by omega) (by omega)]
        have : litOut n l[j] = false := by simp [litOut]; omega
        rw [this]; simp
theorem literals_eq (k : Nat) (l : List Int) (n : Int) (hw : ∀ x ∈ l, -9223372036854775808 ≤ x ∧ x ≤ 9223372036854775807) (hl : l.length ≤ 100000) (hk : l.length < k) :
    spiritlevelref02_literals.f k l n = some (!l.any (litOut n)) := by
  have := literals_l0 l n hw hl l.length k 0 (by omega) hk
  simpa [spiritlevelref02_literals.f] using this
theorem rdL_at (l : List S53) (j : Nat) (h : j < l.length) : rd_T53 l (j : Int) = l[j] := by simp [rd_T53, List.getD, h]
theorem rdA_at (l : List S50) (j : Nat) (h : j < l.length) : rd_T50 l (j : Int) = l[j] := by simp [rd_T50, List.getD, h]
theorem check_l1 (a : Int) (l1 : List S53) (l2 : List S50) (l3 l4 : List Int) (hs : Small l1 l2 l3 l4) (hw : Wf a l1 l2 l3 l4) (h0 : 0 ≤ a) (h1 : a ≤ 1000) (d : Nat) : ∀ (k j : Nat), j + d = l2.length → d < k →
    spiritlevelref02_Check.l1 k (j : Int) a l1 l2 l3 l4 = some (if ((List.range' j d).any fun i => gBad (a + l1.length) i (rd_T50 l2 i)) = true then 8 else 0) := by
  have hs1 := hs.h1
  have hs2 := hs.h2
  induction d with
  | zero =>
    intro k j hj hk
    obtain ⟨k, rfl⟩ : ∃ m, k = m + 1 := ⟨k - 1, by omega⟩
    simp only [spiritlevelref02_Check.l1]
    rw [if_neg (by omega)]; rfl
  | succ d ih =>
    intro k j hj hk
    obtain ⟨k, rfl⟩ : ∃ m, k = m + 1 := ⟨k - 1, by omega⟩
    have hlt : j < l2.length := by omega
    have hwj := hw.w2 l2[j] (List.getElem_mem hlt)
    simp only [spiritlevelref02_Check.l1]
    rw [if_pos (by omega), if_pos (by omega), List.range'_succ, List.any_cons, rdA_at l2 j hlt]
    by_cases c : l2[j].f1 < 0
    · rw [if_pos c, if_pos (by simp [gBad, c])]
    rw [if_neg c]
    by_cases c2 : l2[j].f0 < l2[j].f1
    · rw [if_pos c2, if_pos (by simp [gBad, c2])]
    rw [if_neg c2, Int.tdiv_eq_ediv_of_nonneg (by omega), w64 (l2[j].f0 / 2) (by omega) (by omega), w64 (a + l1.length) (by omega) (by omega), w64 (a + l1.length + j) (by omega) (by omega)]
    by_cases c3 : l2[j].f0 / 2 > a + l1.length + j
    · rw [if_pos c3, if_pos (by simp [gBad, c3])]
    rw [if_neg c3, w64 _ (by omega) (by omega), show ((j : Int) + 1) = ((j + 1 : Nat) : Int) by omega, ih k (j + 1) (by omega) (by omega)]
    have : gBad (a + l1.length) j l2[j] = false := by simp [gBad]; omega
    rw [this]; rfl
theorem check_l0 (a n : Int) (l1 : List S53) (l2 : List S50) (l3 l4 : List Int) (hs : Small l1 l2 l3 l4) (hw : Wf a l1 l2 l3 l4) (h0 : 0 ≤ a) (h1 : a ≤ 1000) (d : Nat) : ∀ (k j : Nat), j + d = l1.length → d + l2.length + 5 < k →
    spiritlevelref02_Check.l0 k n (j : Int) a l1 l2 l3 l4 = some (if (l1.drop j).any (latBad n) = true ∨ gsBad (a + l1.length) l2 = true then 8 else 0) := by
  have hs1 := hs.h1
  have hs2 := hs.h2
  induction d with
  | zero =>
    intro k j hj hk
    obtain ⟨k, rfl⟩ : ∃ m, k = m + 1 := ⟨k - 1, by omega⟩
    simp only [spiritlevelref02_Check.l0]
    rw [if_neg (by omega), List.drop_of_length_le (by omega), show (0 : Int) = ((0 : Nat) : Int) from rfl, check_l1 a l1 l2 l3 l4 hs hw h0 h1 l2.length k 0 (by omega) (by omega)]
    simp [gsBad, List.range_eq_range']
  | succ d ih =>
    intro k j hj hk
    obtain ⟨k, rfl⟩ : ∃ m, k = m + 1 := ⟨k - 1, by omega⟩
    have hlt : j < l1.length := by omega
    have hwj := hw.w1 l1[j] (List.getElem_mem hlt)
    simp only [spiritlevelref02_Check.l0]
    rw [if_pos (by omega), if_pos (by omega), List.drop_eq_getElem_cons hlt, List.any_cons, rdL_at l1 j hlt, literals_eq k _ n (by simp; exact hwj.1) (by simp) (by simp; omega)]
    simp only [Option.bind_some, List.any_cons, List.any_nil, Bool.or_false]
    by_cases c : litOut n l1[j].f0 = true
    · rw [if_neg (by simp [c]), if_pos (by simp [latBad, c])]
    rw [if_pos (by simp [c])]
    by_cases c2 : l1[j].f1 < 0
    · rw [if_pos c2, if_pos (by simp [latBad, c2])]
    rw [if_neg c2]
    by_cases c3 : l1[j].f1 > 2
    · rw [if_pos c3, if_pos (by simp [latBad, c3])]
    rw [if_neg c3, w64 _ (by omega) (by omega), show ((j : Int) + 1) = ((j + 1 : Nat) : Int) by omega, ih k (j + 1) (by omega) (by omega)]
    have : latBad n l1[j] = false := by simp [latBad, c]; omega
    simp [this]
theorem size_eq (a : Int) (l1 : List S53) (l2 : List S50) (l3 l4 : List Int) (hs : Small l1 l2 l3 l4) (h0 : 0 ≤ a) (h1 : a ≤ 1000) : spiritlevelref02_Size.f a l1 l2 l3 l4 = some (szS a l1 l2) := by
  have hs1 := hs.h1
  have hs2 := hs.h2
  unfold spiritlevelref02_Size.f szS
  rw [w64 (a + l1.length) (by omega) (by omega), w64 _ (by omega) (by omega)]
theorem rcheck_eq (k : Nat) (a : Int) (l1 : List S53) (l2 : List S50) (l3 l4 : List Int) (hs : Small l1 l2 l3 l4) (hw : Wf a l1 l2 l3 l4) (hk : 300 ≤ k) :
    spiritlevelref02_Check.f k a l1 l2 l3 l4 = some (checkR a l1 l2 l3 l4) := by
  have hs1 := hs.h1
  have hs2 := hs.h2
  have hs3 := hs.h3
  have hs4 := hs.h4
  obtain ⟨k, rfl⟩ : ∃ m, k = m + 3 := ⟨k - 3, by omega⟩
  unfold spiritlevelref02_Check.f checkR
  by_cases c0 : a < 0
  · rw [if_pos c0, if_pos c0]
  rw [if_neg c0, if_neg c0]
  have j0 : spiritlevelref02_Check.j0 (k + 3) true a l1 l2 l3 l4 = some 4 := by simp [spiritlevelref02_Check.j0]
  by_cases c1 : a > 1000
  · rw [if_pos c1, if_pos (Or.inl c1), j0]
  rw [if_neg c1, size_eq a l1 l2 l3 l4 hs (by omega) (by omega)]
  simp only [Option.bind_some]
  by_cases c2 : szS a l1 l2 > 1000
  · rw [if_pos c2, if_pos (Or.inr (Or.inl c2)), j0]
  rw [if_neg c2]
  by_cases c3 : (l3.length : Int) > 100
  · rw [if_pos c3, if_pos (by omega), j0]
  rw [if_neg c3]
  by_cases c4 : (l4.length : Int) > 100
  · rw [decide_eq_true c4, if_pos (by omega), j0]
  rw [decide_eq_false c4, if_neg (by omega)]
  simp only [spiritlevelref02_Check.j0]
  rw [if_neg (by decide), size_eq a l1 l2 l3 l4 hs (by omega) (by omega)]
  simp only [Option.bind_some]
  rw [literals_eq _ l3 _ hw.w3 (by omega) (by omega)]
  simp only [Option.bind_some]
  by_cases d3 : l3.any (litOut (szS a l1 l2)) = true
  · rw [if_neg (by simp [d3]), if_pos (Or.inl d3)]; simp [spiritlevelref02_Check.j1]
  rw [if_pos (by simp [d3]), literals_eq _ l4 _ hw.w4 (by omega) (by omega)]
  simp only [Option.bind_some]
  by_cases d4 : l4.any (litOut (szS a l1 l2)) = true
  · rw [if_pos (Or.inr (Or.inl d4)), d4]; simp [spiritlevelref02_Check.j1]
  have d4' : l4.any (litOut (szS a l1 l2)) = false := by simpa using d4
  rw [d4']
  simp only [spiritlevelref02_Check.j1, Bool.not_false, Bool.not_true]
  rw [if_neg (by decide), show (0 : Int) = ((0 : Nat) : Int) from rfl, check_l0 a _ l1 l2 l3 l4 hs hw (by omega) (by omega) l1.length _ 0 (by omega) (by omega)]
  simp [d3]
theorem gcheck_eq (a : Int) (l1 : List S53) (l2 : List S50) (l3 l4 : List Int) (hs : Small l1 l2 l3 l4) (hw : Wf a l1 l2 l3 l4) :
    gates_Check.f a l1 l2 l3 l4 = some (checkR a l1 l2 l3 l4) := by
  have hs1 := hs.h1
  have hs2 := hs.h2
  unfold gates_Check.f checkR
  congr 1
  by_cases c0 : a < 0
  · rw [if_pos c0, if_pos c0]
  rw [if_neg c0, if_neg c0]
  by_cases c1 : a > 1000
  · rw [if_pos c1, if_pos (Or.inl c1)]
  have e3 : st3 a l1.length l2.length = szS a l1 l2 + 1 := by
    unfold st3 st2 st1 szS
    rw [w64 (1 + a) (by omega) (by omega), w64 (1 + a + l1.length) (by omega) (by omega), w64 _ (by omega) (by omega)]
    omega
  have e2 : st2 a l1.length = a + l1.length + 1 := by
    unfold st2 st1
    rw [w64 (1 + a) (by omega) (by omega), w64 _ (by omega) (by omega)]
    omega
  have hz : 0 ≤ szS a l1 l2 ∧ szS a l1 l2 ≤ 1180 := by unfold szS; omega
  rw [if_neg c1, e3, w64 (szS a l1 l2 + 1 - 1) (by omega) (by omega), Int.add_sub_cancel]
  by_cases c2 : szS a l1 l2 > 1000
  · rw [if_pos c2, if_pos (Or.inr (Or.inl c2))]
  rw [if_neg c2]
  by_cases c3 : l3.length > 100 ∨ l4.length > 100
  · rw [if_pos (show (if (l3.length : Int) < (l4.length : Int) then (l4.length : Int) else (l3.length : Int)) > 100 by split <;> omega), if_pos (show a > 1000 ∨ szS a l1 l2 > 1000 ∨ l3.length > 100 ∨ l4.length > 100 by omega)]
  rw [if_neg (show ¬ (if (l3.length : Int) < (l4.length : Int) then (l4.length : Int) else (l3.length : Int)) > 100 by split <;> omega), if_neg (show ¬ (a > 1000 ∨ szS a l1 l2 > 1000 ∨ l3.length > 100 ∨ l4.length > 100) by omega)]
  have o : outS (szS a l1 l2 + 1) = litOut (szS a l1 l2) := by
    funext l
    unfold outS litOut
    congr 1
  have o2 : wrongS (szS a l1 l2 + 1) = latBad (szS a l1 l2) := by
    funext x
    unfold wrongS latBad
    rw [o]
  have o3 : gatesBad (st2 a l1.length) l2 = gsBad (a + l1.length) l2 := by
    unfold gatesBad gsBad
    rw [Bool.eq_iff_iff, List.any_eq_true, List.any_eq_true]
    have hp : ∀ i ∈ List.range l2.length, gateBad (st2 a l1.length) i (rd_T50 l2 i) = gBad (a + l1.length) i (rd_T50 l2 i) := by
      intro i hi
      rw [List.mem_range] at hi
      unfold gateBad gBad
      rw [e2, w64 (a + l1.length + 1 + i) (by omega) (by omega), w64 _ (by omega) (by omega)]
      congr 1
      exact decide_eq_decide.2 (by omega)
    constructor
    · rintro ⟨i, hi, h⟩; exact ⟨i, hi, by rw [← hp i hi]; exact h⟩
    · rintro ⟨i, hi, h⟩; exact ⟨i, hi, by rw [hp i hi]; exact h⟩
  rw [o, o2, o3]
  by_cases d3 : l3.any (litOut (szS a l1 l2)) = true
  · rw [if_pos d3, if_pos (Or.inl d3)]
  rw [if_neg d3]
  by_cases d4 : l4.any (litOut (szS a l1 l2)) = true
  · rw [if_pos d4, if_pos (Or.inr (Or.inl d4))]
  rw [if_neg d4]
  by_cases d5 : l1.any (latBad (szS a l1 l2)) = true
  · rw [if_pos d5, if_pos (Or.inr (Or.inr (Or.inl d5)))]
  rw [if_neg d5]
  by_cases d6 : gsBad (a + l1.length) l2 = true
  · rw [if_pos d6, if_pos (Or.inr (Or.inr (Or.inr d6)))]
  · rw [if_neg d6, if_neg (by simp [d3, d4, d5, d6])]

-- ref02's comparisons of equal circuits
theorem sameInts_l0 (l : List Int) (hl : l.length ≤ 100000) (d : Nat) : ∀ (k j : Nat), j + d = l.length → d < k → spiritlevelref02_SameInts.l0 k l l (j : Int) = some true := by
  induction d with
  | zero =>
    intro k j hj hk
    obtain ⟨k, rfl⟩ : ∃ m, k = m + 1 := ⟨k - 1, by omega⟩
    simp only [spiritlevelref02_SameInts.l0]
    rw [if_neg (by omega)]
  | succ d ih =>
    intro k j hj hk
    obtain ⟨k, rfl⟩ : ∃ m, k = m + 1 := ⟨k - 1, by omega⟩
    simp only [spiritlevelref02_SameInts.l0]
    rw [if_pos (by omega), if_pos (by omega), if_pos (by omega), if_pos trivial, w64 _ (by omega) (by omega), show ((j : Int) + 1) = ((j + 1 : Nat) : Int) by omega, ih k (j + 1) (by omega) (by omega)]
theorem sameInts_eq (k : Nat) (l : List Int) (hl : l.length ≤ 100000) (hk : l.length < k) : spiritlevelref02_SameInts.f k l l = some true := by
  unfold spiritlevelref02_SameInts.f
  rw [if_pos rfl]
  exact sameInts_l0 l hl l.length k 0 (by omega) hk
theorem same_l1 (a : Int) (l1 : List S53) (l2 : List S50) (l3 l4 : List Int) (hs : Small l1 l2 l3 l4) (d : Nat) : ∀ (k j : Nat), j + d = l2.length → d < k →
    spiritlevelref02_Same.l1 k (j : Int) a l1 l2 l3 l4 a l1 l2 l3 l4 = some true := by
  have hs2 := hs.h2
  induction d with
  | zero =>
    intro k j hj hk
    obtain ⟨k, rfl⟩ : ∃ m, k = m + 1 := ⟨k - 1, by omega⟩
    simp only [spiritlevelref02_Same.l1]
    rw [if_neg (by omega)]
  | succ d ih =>
    intro k j hj hk
    obtain ⟨k, rfl⟩ : ∃ m, k = m + 1 := ⟨k - 1, by omega⟩
    simp only [spiritlevelref02_Same.l1]
    rw [if_pos (by omega), if_pos (by omega), if_pos (by omega), if_neg (by simp), w64 _ (by omega) (by omega), show ((j : Int) + 1) = ((j + 1 : Nat) : Int) by omega, ih k (j + 1) (by omega) (by omega)]
theorem same_l0 (a : Int) (l1 : List S53) (l2 : List S50) (l3 l4 : List Int) (hs : Small l1 l2 l3 l4) (d : Nat) : ∀ (k j : Nat), j + d = l1.length → d + l2.length + 2 < k →
    spiritlevelref02_Same.l0 k (j : Int) a l1 l2 l3 l4 a l1 l2 l3 l4 = some true := by
  have hs1 := hs.h1
  induction d with
  | zero =>
    intro k j hj hk
    obtain ⟨k, rfl⟩ : ∃ m, k = m + 1 := ⟨k - 1, by omega⟩
    simp only [spiritlevelref02_Same.l0]
    rw [if_neg (by omega), show (0 : Int) = ((0 : Nat) : Int) from rfl, same_l1 a l1 l2 l3 l4 hs l2.length k 0 (by omega) (by omega)]
  | succ d ih =>
    intro k j hj hk
    obtain ⟨k, rfl⟩ : ∃ m, k = m + 1 := ⟨k - 1, by omega⟩
    simp only [spiritlevelref02_Same.l0]
    rw [if_pos (by omega), if_pos (by omega), if_pos (by omega), if_neg (by simp), w64 _ (by omega) (by omega), show ((j : Int) + 1) = ((j + 1 : Nat) : Int) by omega, ih k (j + 1) (by omega) (by omega)]
theorem same_eq (k : Nat) (a : Int) (l1 : List S53) (l2 : List S50) (l3 l4 : List Int) (hs : Small l1 l2 l3 l4) (hk : 300 ≤ k) :
    spiritlevelref02_Same.f k a l1 l2 l3 l4 a l1 l2 l3 l4 = some true := by
  have hs1 := hs.h1
  have hs2 := hs.h2
  have hs3 := hs.h3
  have hs4 := hs.h4
  obtain ⟨k, rfl⟩ : ∃ m, k = m + 1 := ⟨k - 1, by omega⟩
  unfold spiritlevelref02_Same.f
  rw [if_pos rfl, if_pos rfl, if_pos rfl, sameInts_eq _ l3 (by omega) (by omega)]
  simp only [Option.bind_some]
  rw [if_pos trivial, sameInts_eq _ l4 (by omega) (by omega)]
  simp only [Option.bind_some, Bool.not_true, spiritlevelref02_Same.j0]
  rw [if_neg (by decide), show (0 : Int) = ((0 : Nat) : Int) from rfl]
  exact same_l0 a l1 l2 l3 l4 hs l1.length k 0 (by omega) (by omega)
theorem twin_eq (a : Int) (l1 : List S53) (l2 : List S50) (l3 l4 : List Int) (hs : Small l1 l2 l3 l4) : spiritlevelref02_Twin.f a l1 l2 l3 l4 = some (a, l1, l2, l3, l4) := by
  have hs1 := hs.h1
  have hs2 := hs.h2
  have hs3 := hs.h3
  have hs4 := hs.h4
  unfold spiritlevelref02_Twin.f
  simp only [Option.bind_some, List.length_nil, List.nil_append, Nat.zero_add]
  rw [if_pos (by omega), if_pos (by omega), if_pos (by omega), if_pos (by omega)]

theorem checkR_ok (a : Int) (l1 : List S53) (l2 : List S50) (l3 l4 : List Int) (h : checkR a l1 l2 l3 l4 = 0) : 0 ≤ a ∧ a ≤ 1000 ∧ szS a l1 l2 ≤ 1000 := by
  unfold checkR at h
  by_cases c0 : a < 0
  · rw [if_pos c0] at h; omega
  rw [if_neg c0] at h
  by_cases c1 : a > 1000 ∨ szS a l1 l2 > 1000 ∨ l3.length > 100 ∨ l4.length > 100
  · rw [if_pos c1] at h; omega
  · omega
theorem rvars_eq (k : Nat) (a : Int) (l1 : List S53) (l2 : List S50) (l3 l4 : List Int) (hs : Small l1 l2 l3 l4) (hw : Wf a l1 l2 l3 l4) (hk : 300 ≤ k) :
    spiritlevelref02_Vars.f k a l1 l2 l3 l4 = some (if checkR a l1 l2 l3 l4 = 0 then (szS a l1 l2, 0) else (0, checkR a l1 l2 l3 l4)) := by
  unfold spiritlevelref02_Vars.f
  rw [rcheck_eq k a l1 l2 l3 l4 hs hw hk]
  simp only [Option.bind_some]
  by_cases h : checkR a l1 l2 l3 l4 = 0
  · obtain ⟨h0, h1, _⟩ := checkR_ok _ _ _ _ _ h
    rw [if_pos h, if_pos h, size_eq a l1 l2 l3 l4 hs h0 h1]; rfl
  · rw [if_neg h, if_neg h]
theorem gvars_eq (a : Int) (l1 : List S53) (l2 : List S50) (l3 l4 : List Int) (hs : Small l1 l2 l3 l4) (hw : Wf a l1 l2 l3 l4) :
    gates_Vars.f a l1 l2 l3 l4 = some (if checkR a l1 l2 l3 l4 = 0 then (szS a l1 l2, 0) else (0, checkR a l1 l2 l3 l4)) := by
  have hs1 := hs.h1
  have hs2 := hs.h2
  unfold gates_Vars.f
  rw [gcheck_eq a l1 l2 l3 l4 hs hw]
  simp only [Option.bind_some]
  by_cases h : checkR a l1 l2 l3 l4 = 0
  · obtain ⟨h0, h1, h2⟩ := checkR_ok _ _ _ _ _ h
    unfold szS at h2
    rw [if_pos h, if_pos h]
    unfold st3 st2 st1 szS
    rw [w64 (1 + a) (by omega) (by omega), w64 (1 + a + l1.length) (by omega) (by omega), w64 (1 + a + l1.length + l2.length) (by omega) (by omega), w64 _ (by omega) (by omega)]
    congr 2; omega
  · rw [if_neg h, if_neg h]
def kindR (a : Int) (l1 : List S53) (l2 : List S50) (v : Int) : Int × Int × Int :=
  if v < 0 ∨ v > szS a l1 l2 then (0, 0, 2) else if v = 0 then (0, 0, 0) else if v ≤ a then (1, v - 1, 0) else if v ≤ a + l1.length then (2, v - 1 - a, 0) else (3, v - 1 - a - l1.length, 0)
theorem rkind_eq (k : Nat) (a : Int) (l1 : List S53) (l2 : List S50) (l3 l4 : List Int) (v : Int) (hs : Small l1 l2 l3 l4) (hw : Wf a l1 l2 l3 l4) (hk : 300 ≤ k) :
    spiritlevelref02_Kind.f k a l1 l2 l3 l4 v = some (if checkR a l1 l2 l3 l4 = 0 then kindR a l1 l2 v else (0, 0, checkR a l1 l2 l3 l4)) := by
  have hs1 := hs.h1
  have hs2 := hs.h2
  obtain ⟨k, rfl⟩ : ∃ m, k = m + 1 := ⟨k - 1, by omega⟩
  unfold spiritlevelref02_Kind.f
  rw [rcheck_eq _ a l1 l2 l3 l4 hs hw (by omega)]
  simp only [Option.bind_some]
  by_cases h : checkR a l1 l2 l3 l4 = 0
  · obtain ⟨h0, h1, h2⟩ := checkR_ok _ _ _ _ _ h
    rw [if_pos h, if_pos h, size_eq a l1 l2 l3 l4 hs h0 h1]
    unfold kindR
    have h3 := h2
    unfold szS at h3
    by_cases c1 : v < 0
    · rw [if_pos c1, if_pos (Or.inl c1)]; simp [spiritlevelref02_Kind.j0]
    rw [if_neg c1]
    simp only [Option.bind_some]
    by_cases c2 : v > szS a l1 l2
    · rw [decide_eq_true c2, if_pos (Or.inr c2)]; simp [spiritlevelref02_Kind.j0]
    rw [decide_eq_false c2, if_neg (by omega)]
    simp only [spiritlevelref02_Kind.j0]
    rw [if_neg (by decide)]
    by_cases c3 : v = 0
    · rw [if_pos c3, if_pos c3]
    rw [if_neg c3, if_neg c3]
    by_cases c4 : v ≤ a
    · rw [if_pos c4, if_pos c4, w64 _ (by omega) (by omega)]
    rw [if_neg c4, if_neg c4]
    unfold spiritlevelref02_Gate.f
    rw [w64 (v - 1) (by omega) (by omega), w64 (v - 1 - a) (by omega) (by omega), w64 (v - 1 - a - l1.length) (by omega) (by omega)]
    simp only [Option.bind_some]
    by_cases c5 : v ≤ a + l1.length
    · rw [if_pos (by omega), if_pos c5]
    · rw [if_neg (by omega), if_neg c5]
  · rw [if_neg h, if_neg h]
theorem gkind_eq (a : Int) (l1 : List S53) (l2 : List S50) (l3 l4 : List Int) (v : Int) (hs : Small l1 l2 l3 l4) (hw : Wf a l1 l2 l3 l4) :
    gates_Kind.f a l1 l2 l3 l4 v = some (if checkR a l1 l2 l3 l4 = 0 then kindR a l1 l2 v else (0, 0, checkR a l1 l2 l3 l4)) := by
  have hs1 := hs.h1
  have hs2 := hs.h2
  unfold gates_Kind.f
  rw [gcheck_eq a l1 l2 l3 l4 hs hw]
  simp only [Option.bind_some]
  by_cases h : checkR a l1 l2 l3 l4 = 0
  · obtain ⟨h0, h1, h2⟩ := checkR_ok _ _ _ _ _ h
    have h3 := h2
    unfold szS at h3
    have e1 : st1 a = 1 + a := by unfold st1; rw [w64 (1 + a) (by omega) (by omega)]
    have e2 : st2 a l1.length = 1 + a + l1.length := by unfold st2; rw [e1, w64 _ (by omega) (by omega)]
    have e3 : st3 a l1.length l2.length = szS a l1 l2 + 1 := by unfold st3 szS; rw [e2, w64 _ (by omega) (by omega)]; omega
    rw [if_pos h, if_pos h, e1, e2, e3]
    unfold kindR
    by_cases c1 : v < 0
    · rw [if_pos c1, if_pos (Or.inl c1)]
    rw [if_neg c1]
    by_cases c2 : v > szS a l1 l2
    · rw [if_pos (show szS a l1 l2 + 1 ≤ v by omega), if_pos (Or.inr c2)]
    rw [if_neg (show ¬ szS a l1 l2 + 1 ≤ v by omega), if_neg (show ¬ (v < 0 ∨ v > szS a l1 l2) by omega)]
    by_cases c3 : v = 0
    · rw [if_neg (show ¬ 1 + a + (l1.length : Int) ≤ v by omega), if_neg (show ¬ 1 + a ≤ v by omega), if_neg (show ¬ 1 ≤ v by omega), if_pos c3]
    rw [if_neg c3]
    by_cases c4 : v ≤ a
    · rw [if_neg (show ¬ 1 + a + (l1.length : Int) ≤ v by omega), if_neg (show ¬ 1 + a ≤ v by omega), if_pos (show 1 ≤ v by omega), if_pos c4, w64 (v - 1) (by omega) (by omega)]
    rw [if_neg c4]
    by_cases c5 : v ≤ a + l1.length
    · rw [if_neg (show ¬ 1 + a + (l1.length : Int) ≤ v by omega), if_pos (show 1 + a ≤ v by omega), if_pos c5, w64 _ (by omega) (by omega), show v - (1 + a) = v - 1 - a by omega]
    · rw [if_pos (show 1 + a + (l1.length : Int) ≤ v by omega), if_neg c5, w64 _ (by omega) (by omega), show v - (1 + a + (l1.length : Int)) = v - 1 - a - l1.length by omega]
  · rw [if_neg h, if_neg h]
theorem GatesTells : spiritlevellaw02_GatesTells.Pure := by
  intro a l1 l2 l3 l4 v h0 h1 h2 h3 h4 _
  refine ⟨1000, ?_⟩
  obtain ⟨b, hb, hg⟩ := great_eq a l1 l2 l3 l4
  unfold spiritlevellaw02_GatesTells.f
  rw [hb]
  simp only [Option.bind_some]
  cases b with
  | true => rfl
  | false =>
    obtain ⟨hs, _⟩ := hg rfl
    have hw : Wf a l1 l2 l3 l4 := ⟨wf_i64 h0, fun x hx => ⟨wf_i64 (h1.2.2 x hx).1, wf_i64 (h1.2.2 x hx).2⟩, fun x hx => ⟨wf_i64 (h2.2.2 x hx).1, wf_i64 (h2.2.2 x hx).2⟩, fun x hx => wf_i64 (h3.2.2 x hx), fun x hx => wf_i64 (h4.2.2 x hx)⟩
    rw [if_neg (by decide), twin_eq a l1 l2 l3 l4 hs]
    simp only [Option.bind_some]
    rw [gvars_eq a l1 l2 l3 l4 hs hw, rvars_eq 1000 a l1 l2 l3 l4 hs hw (by omega), gkind_eq a l1 l2 l3 l4 v hs hw, rkind_eq 1000 a l1 l2 l3 l4 v hs hw (by omega), gcheck_eq a l1 l2 l3 l4 hs hw, rcheck_eq 1000 a l1 l2 l3 l4 hs hw (by omega), same_eq 1000 a l1 l2 l3 l4 hs (by omega)]
    simp


end Go.Proofs.Ytnllcdihmpdhhaa.Pure
