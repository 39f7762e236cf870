/- Without TeAny the values are those of layer 4: for every valid circuit that is not great, a state and inputs. -/
import Derived.Test.YtddelmbkbpoelaaQTernaryTwox7
namespace Go.Proofs.Ytddelmbkbpoelaa.Pure
open Go.RowKit Go.Proofs.Ytddelmbkbpoelaa.QTernaryTwo Go.Proofs.YtddelmbkbpoelaaW.PrintWords Go.Proofs.YtddelmbkbpoelaaW.PrintLast
set_option linter.unusedSimpArgs false
set_option linter.unusedVariables false
theorem w64 (n : Int) (h : -9223372036854775808 ≤ n) (h2 : n ≤ 9223372036854775807) : wrap64 n = n := by unfold wrap64; omega
theorem rd_at (l : List Int) (j : Nat) (h : j < l.length) : rd l (j : Int) = l[j] := by simp [rd, List.getD, h]
theorem wf_i64 {x : Int} (h : (Lit.int .i64 x).wf = true) : -9223372036854775808 ≤ x ∧ x ≤ 9223372036854775807 := by
  simp [Lit.wf, IntKind.min, IntKind.max, IntKind.signed, IntKind.bits] at h
  omega
theorem wf_u8 {x : Int} (h : (Lit.int .u8 x).wf = true) : 0 ≤ x ∧ x ≤ 255 := by
  simp [Lit.wf, IntKind.min, IntKind.max, IntKind.signed, IntKind.bits] at h
  omega
theorem band1 (a : Int) (h0 : 0 ≤ a) (h1 : a < 9223372036854775807) : Go.bits .and .i64 a 1 = a % 2 := by
  have := bits_mask .i64 63 (by decide) (fun n h h' => by rw [IntKind.wrap_i64]; omega) 1 (by decide) a h0 (by omega)
  simpa using this

-- for a print without the reference's Both and Other
def bothS (a b : Int) : Int := if a = 0 ∨ b = 0 then 0 else if a = 2 ∨ b = 2 then 2 else 1
def otherS (a : Int) : Int := if a = 2 then 2 else 1 - a

-- ref02: what the reference of layer 2 and gates.Check come to, for circuits that are not great
def litOut (n l : Int) : Bool := decide (l < 0) || decide (l / 2 > n)
def latBad (n : Int) (x : S61) : Bool := litOut n x.f0 || decide (x.f1 < 0) || decide (x.f1 > 2)
def gBad (m : Int) (i : Nat) (g : S71) : Bool := decide (g.f1 < 0) || decide (g.f0 < g.f1) || decide (g.f0 / 2 > m + i)
def gsBad (m : Int) (l : List S71) : Bool := (List.range l.length).any fun i => gBad m i (rd_T71 l i)
def szS (a : Int) (l1 : List S61) (l2 : List S71) : Int := a + l1.length + l2.length
def checkR (a : Int) (l1 : List S61) (l2 : List S71) (l3 l4 : List Int) : Int :=
  if a < 0 then 8 else if a > 1000 ∨ szS a l1 l2 > 1000 ∨ l3.length > 100 ∨ l4.length > 100 then 4
  else if l3.any (litOut (szS a l1 l2)) = true ∨ l4.any (litOut (szS a l1 l2)) = true ∨ l1.any (latBad (szS a l1 l2)) = true ∨ gsBad (a + l1.length) l2 = true then 8 else 0
/-- The lengths of a circuit that is not great. -/
structure Small (l1 : List S61) (l2 : List S71) (l3 l4 : List Int) : Prop where
  h1 : l1.length ≤ 60
  h2 : l2.length ≤ 130
  h3 : l3.length ≤ 110
  h4 : l4.length ≤ 110
/-- All numbers of a circuit are int64. -/
structure Wf (a : Int) (l1 : List S61) (l2 : List S71) (l3 l4 : List Int) : Prop where
  w0 : -9223372036854775808 ≤ a ∧ a ≤ 9223372036854775807
  w1 : ∀ x ∈ l1, (-9223372036854775808 ≤ x.f0 ∧ x.f0 ≤ 9223372036854775807) ∧ (-9223372036854775808 ≤ x.f1 ∧ x.f1 ≤ 9223372036854775807)
  w2 : ∀ x ∈ l2, (-9223372036854775808 ≤ x.f0 ∧ x.f0 ≤ 9223372036854775807) ∧ (-9223372036854775808 ≤ x.f1 ∧ x.f1 ≤ 9223372036854775807)
  w3 : ∀ x ∈ l3, -9223372036854775808 ≤ x ∧ x ≤ 9223372036854775807
  w4 : ∀ x ∈ l4, -9223372036854775808 ≤ x ∧ x ≤ 9223372036854775807
theorem great_eq (a : Int) (l1 : List S61) (l2 : List S71) (l3 l4 : List Int) :
    ∃ b, spiritlevelref02_Great.f a l1 l2 l3 l4 = some b ∧ (b = false → Small l1 l2 l3 l4 ∧ (a ≤ 40 ∨ 996 ≤ a)) := by
  unfold spiritlevelref02_Great.f
  by_cases c1 : (l1.length : Int) > 60
  · exact ⟨true, by rw [if_pos c1], by simp⟩
  by_cases c2 : (l2.length : Int) > 120
  · exact ⟨true, by rw [if_neg c1, if_pos c2], by simp⟩
  by_cases c3 : (l3.length : Int) > 110
  · exact ⟨true, by rw [if_neg c1, if_neg c2, if_pos c3], by simp⟩
  by_cases c4 : (l4.length : Int) > 110
  · exact ⟨true, by rw [if_neg c1, if_neg c2, if_neg c3, if_pos c4], by simp⟩
  by_cases c5 : a > 40
  · exact ⟨decide (a < 996), by rw [if_neg c1, if_neg c2, if_neg c3, if_neg c4, if_pos c5], fun h => ⟨⟨by omega, by omega, by omega, by omega⟩, by simp at h; omega⟩⟩
  · exact ⟨false, by rw [if_neg c1, if_neg c2, if_neg c3, if_neg c4, if_neg c5], fun _ => ⟨⟨by omega, by omega, by omega, by omega⟩, by omega⟩⟩
theorem literals_l0 (l : List Int) (n : Int) (hw : ∀ x ∈ l, -9223372036854775808 ≤ x ∧ x ≤ 9223372036854775807) (hl : l.length ≤ 100000) (d : Nat) : ∀ (k j : Nat), j + d = l.length → d < k →
    spiritlevelref02_literals.l0 k l n (j : Int) = some (!(l.drop j).any (litOut n)) := by
  induction d with
  | zero =>
    intro k j hj hk
    obtain ⟨k, rfl⟩ : ∃ m, k = m + 1 := ⟨k - 1, by omega⟩
    simp only [spiritlevelref02_literals.l0]
    rw [if_neg (by omega), List.drop_of_length_le (by omega)]; rfl
  | succ d ih =>
    intro k j hj hk
    obtain ⟨k, rfl⟩ : ∃ m, k = m + 1 := ⟨k - 1, by omega⟩
    have hlt : j < l.length := by omega
    have hwj := hw l[j] (List.getElem_mem hlt)
    simp only [spiritlevelref02_literals.l0]
    rw [if_pos (by omega), if_pos (by omega), rd_at l j hlt, List.drop_eq_getElem_cons hlt, List.any_cons]
    by_cases c : l[j] < 0
    · rw [if_pos c]; simp [litOut, c]
    · rw [if_neg c, Int.tdiv_eq_ediv_of_nonneg (by omega), w64 _ (by omega) (by omega)]
      by_cases c2 : l[j] / 2 > n
      · rw [if_pos c2]; simp [litOut, c2]
      · rw [if_neg c2, w64 _ (by omega) (by omega), show ((j : Int) + 1) = ((j + 1 : Nat) : Int) by omega, ih k (j + 1) (by omega) (by omega)]
        have : litOut n l[j] = false := by simp [litOut]; omega
        rw [this]; simp
theorem literals_eq (k : Nat) (l : List Int) (n : Int) (hw : ∀ x ∈ l, -9223372036854775808 ≤ x ∧ x ≤ 9223372036854775807) (hl : l.length ≤ 100000) (hk : l.length < k) :
    spiritlevelref02_literals.f k l n = some (!l.any (litOut n)) := by
  have := literals_l0 l n hw hl l.length k 0 (by omega) hk
  simpa [spiritlevelref02_literals.f] using this
theorem rdL_at (l : List S61) (j : Nat) (h : j < l.length) : rd_T61 l (j : Int) = l[j] := by simp [rd_T61, List.getD, h]
theorem rdA_at (l : List S71) (j : Nat) (h : j < l.length) : rd_T71 l (j : Int) = l[j] := by simp [rd_T71, List.getD, h]
theorem check_l1 (a : Int) (l1 : List S61) (l2 : List S71) (l3 l4 : List Int) (hs : Small l1 l2 l3 l4) (hw : Wf a l1 l2 l3 l4) (h0 : 0 ≤ a) (h1 : a ≤ 1000) (d : Nat) : ∀ (k j : Nat), j + d = l2.length → d < k →
    spiritlevelref02_Check.l1 k (j : Int) a l1 l2 l3 l4 = some (if ((List.range' j d).any fun i => gBad (a + l1.length) i (rd_T71 l2 i)) = true then 8 else 0) := by
  have hs1 := hs.h1
  have hs2 := hs.h2
  induction d with
  | zero =>
    intro k j hj hk
    obtain ⟨k, rfl⟩ : ∃ m, k = m + 1 := ⟨k - 1, by omega⟩
    simp only [spiritlevelref02_Check.l1]
    rw [if_neg (by omega)]; rfl
  | succ d ih =>
    intro k j hj hk
    obtain ⟨k, rfl⟩ : ∃ m, k = m + 1 := ⟨k - 1, by omega⟩
    have hlt : j < l2.length := by omega
    have hwj := hw.w2 l2[j] (List.getElem_mem hlt)
    simp only [spiritlevelref02_Check.l1]
    rw [if_pos (by omega), if_pos (by omega), List.range'_succ, List.any_cons, rdA_at l2 j hlt]
    by_cases c : l2[j].f1 < 0
    · rw [if_pos c, if_pos (by simp [gBad, c])]
    rw [if_neg c]
    by_cases c2 : l2[j].f0 < l2[j].f1
    · rw [if_pos c2, if_pos (by simp [gBad, c2])]
    rw [if_neg c2, Int.tdiv_eq_ediv_of_nonneg (by omega), w64 (l2[j].f0 / 2) (by omega) (by omega), w64 (a + l1.length) (by omega) (by omega), w64 (a + l1.length + j) (by omega) (by omega)]
    by_cases c3 : l2[j].f0 / 2 > a + l1.length + j
    · rw [if_pos c3, if_pos (by simp [gBad, c3])]
    rw [if_neg c3, w64 _ (by omega) (by omega), show ((j : Int) + 1) = ((j + 1 : Nat) : Int) by omega, ih k (j + 1) (by omega) (by omega)]
    have : gBad (a + l1.length) j l2[j] = false := by simp [gBad]; omega
    rw [this]; rfl
theorem check_l0 (a n : Int) (l1 : List S61) (l2 : List S71) (l3 l4 : List Int) (hs : Small l1 l2 l3 l4) (hw : Wf a l1 l2 l3 l4) (h0 : 0 ≤ a) (h1 : a ≤ 1000) (d : Nat) : ∀ (k j : Nat), j + d = l1.length → d + l2.length + 5 < k →
    spiritlevelref02_Check.l0 k n (j : Int) a l1 l2 l3 l4 = some (if (l1.drop j).any (latBad n) = true ∨ gsBad (a + l1.length) l2 = true then 8 else 0) := by
  have hs1 := hs.h1
  have hs2 := hs.h2
  induction d with
  | zero =>
    intro k j hj hk
    obtain ⟨k, rfl⟩ : ∃ m, k = m + 1 := ⟨k - 1, by omega⟩
    simp only [spiritlevelref02_Check.l0]
    rw [if_neg (by omega), List.drop_of_length_le (by omega), show (0 : Int) = ((0 : Nat) : Int) from rfl, check_l1 a l1 l2 l3 l4 hs hw h0 h1 l2.length k 0 (by omega) (by omega)]
    simp [gsBad, List.range_eq_range']
  | succ d ih =>
    intro k j hj hk
    obtain ⟨k, rfl⟩ : ∃ m, k = m + 1 := ⟨k - 1, by omega⟩
    have hlt : j < l1.length := by omega
    have hwj := hw.w1 l1[j] (List.getElem_mem hlt)
    simp only [spiritlevelref02_Check.l0]
    rw [if_pos (by omega), if_pos (by omega), List.drop_eq_getElem_cons hlt, List.any_cons, rdL_at l1 j hlt, literals_eq k _ n (by simp; exact hwj.1) (by simp) (by simp; omega)]
    simp only [Option.bind_some, List.any_cons, List.any_nil, Bool.or_false]
    by_cases c : litOut n l1[j].f0 = true
    · rw [if_neg (by simp [c]), if_pos (by simp [latBad, c])]
    rw [if_pos (by simp [c])]
    by_cases c2 : l1[j].f1 < 0
    · rw [if_pos c2, if_pos (by simp [latBad, c2])]
    rw [if_neg c2]
    by_cases c3 : l1[j].f1 > 2
    · rw [if_pos c3, if_pos (by simp [latBad, c3])]
    rw [if_neg c3, w64 _ (by omega) (by omega), show ((j : Int) + 1) = ((j + 1 : Nat) : Int) by omega, ih k (j + 1) (by omega) (by omega)]
    have : latBad n l1[j] = false := by simp [latBad, c]; omega
    simp [this]
theorem size_eq (a : Int) (l1 : List S61) (l2 : List S71) (l3 l4 : List Int) (hs : Small l1 l2 l3 l4) (h0 : 0 ≤ a) (h1 : a ≤ 1000) : spiritlevelref02_Size.f a l1 l2 l3 l4 = some (szS a l1 l2) := by
  have hs1 := hs.h1
  have hs2 := hs.h2
  unfold spiritlevelref02_Size.f szS
  rw [w64 (a + l1.length) (by omega) (by omega), w64 _ (by omega) (by omega)]
theorem rcheck_eq (k : Nat) (a : Int) (l1 : List S61) (l2 : List S71) (l3 l4 : List Int) (hs : Small l1 l2 l3 l4) (hw : Wf a l1 l2 l3 l4) (hk : 300 ≤ k) :
    spiritlevelref02_Check.f k a l1 l2 l3 l4 = some (checkR a l1 l2 l3 l4) := by
  have hs1 := hs.h1
  have hs2 := hs.h2
  have hs3 := hs.h3
  have hs4 := hs.h4
  obtain ⟨k, rfl⟩ : ∃ m, k = m + 3 := ⟨k - 3, by omega⟩
  unfold spiritlevelref02_Check.f checkR
  by_cases c0 : a < 0
  · rw [if_pos c0, if_pos c0]
  rw [if_neg c0, if_neg c0]
  have j0 : spiritlevelref02_Check.j0 (k + 3) true a l1 l2 l3 l4 = some 4 := by simp [spiritlevelref02_Check.j0]
  by_cases c1 : a > 1000
  · rw [if_pos c1, if_pos (Or.inl c1), j0]
  rw [if_neg c1, size_eq a l1 l2 l3 l4 hs (by omega) (by omega)]
  simp only [Option.bind_some]
  by_cases c2 : szS a l1 l2 > 1000
  · rw [if_pos c2, if_pos (Or.inr (Or.inl c2)), j0]
  rw [if_neg c2]
  by_cases c3 : (l3.length : Int) > 100
  · rw [if_pos c3, if_pos (by omega), j0]
  rw [if_neg c3]
  by_cases c4 : (l4.length : Int) > 100
  · rw [decide_eq_true c4, if_pos (by omega), j0]
  rw [decide_eq_false c4, if_neg (by omega)]
  simp only [spiritlevelref02_Check.j0]
  rw [if_neg (by decide), size_eq a l1 l2 l3 l4 hs (by omega) (by omega)]
  simp only [Option.bind_some]
  rw [literals_eq _ l3 _ hw.w3 (by omega) (by omega)]
  simp only [Option.bind_some]
  by_cases d3 : l3.any (litOut (szS a l1 l2)) = true
  · rw [if_neg (by simp [d3]), if_pos (Or.inl d3)]; simp [spiritlevelref02_Check.j1]
  rw [if_pos (by simp [d3]), literals_eq _ l4 _ hw.w4 (by omega) (by omega)]
  simp only [Option.bind_some]
  by_cases d4 : l4.any (litOut (szS a l1 l2)) = true
  · rw [if_pos (Or.inr (Or.inl d4)), d4]; simp [spiritlevelref02_Check.j1]
  have d4' : l4.any (litOut (szS a l1 l2)) = false := by simpa using d4
  rw [d4']
  simp only [spiritlevelref02_Check.j1, Bool.not_false, Bool.not_true]
  rw [if_neg (by decide), show (0 : Int) = ((0 : Nat) : Int) from rfl, check_l0 a _ l1 l2 l3 l4 hs hw (by omega) (by omega) l1.length _ 0 (by omega) (by omega)]
  simp [d3]
theorem gcheck_eq (a : Int) (l1 : List S61) (l2 : List S71) (l3 l4 : List Int) (hs : Small l1 l2 l3 l4) (hw : Wf a l1 l2 l3 l4) :
    gates_Check.f a l1 l2 l3 l4 = some (checkR a l1 l2 l3 l4) := by
  have hs1 := hs.h1
  have hs2 := hs.h2
  unfold gates_Check.f checkR
  congr 1
  by_cases c0 : a < 0
  · rw [if_pos c0, if_pos c0]
  rw [if_neg c0, if_neg c0]
  by_cases c1 : a > 1000
  · rw [if_pos c1, if_pos (Or.inl c1)]
  have e3 : st3 a l1.length l2.length = szS a l1 l2 + 1 := by
    unfold st3 st2 st1 szS
    rw [w64 (1 + a) (by omega) (by omega), w64 (1 + a + l1.length) (by omega) (by omega), w64 _ (by omega) (by omega)]
    omega
  have e2 : st2 a l1.length = a + l1.length + 1 := by
    unfold st2 st1
    rw [w64 (1 + a) (by omega) (by omega), w64 _ (by omega) (by omega)]
    omega
  have hz : 0 ≤ szS a l1 l2 ∧ szS a l1 l2 ≤ 1190 := by unfold szS; omega
  rw [if_neg c1, e3, w64 (szS a l1 l2 + 1 - 1) (by omega) (by omega), Int.add_sub_cancel]
  by_cases c2 : szS a l1 l2 > 1000
  · rw [if_pos c2, if_pos (Or.inr (Or.inl c2))]
  rw [if_neg c2]
  by_cases c3 : l3.length > 100 ∨ l4.length > 100
  · rw [if_pos (show (if (l3.length : Int) < (l4.length : Int) then (l4.length : Int) else (l3.length : Int)) > 100 by split <;> omega), if_pos (show a > 1000 ∨ szS a l1 l2 > 1000 ∨ l3.length > 100 ∨ l4.length > 100 by omega)]
  rw [if_neg (show ¬ (if (l3.length : Int) < (l4.length : Int) then (l4.length : Int) else (l3.length : Int)) > 100 by split <;> omega), if_neg (show ¬ (a > 1000 ∨ szS a l1 l2 > 1000 ∨ l3.length > 100 ∨ l4.length > 100) by omega)]
  have o : outS (szS a l1 l2 + 1) = litOut (szS a l1 l2) := by
    funext l
    unfold outS litOut
    congr 1
  have o2 : wrongS (szS a l1 l2 + 1) = latBad (szS a l1 l2) := by
    funext x
    unfold wrongS latBad
    rw [o]
  have o3 : gatesBad (st2 a l1.length) l2 = gsBad (a + l1.length) l2 := by
    unfold gatesBad gsBad
    rw [Bool.eq_iff_iff, List.any_eq_true, List.any_eq_true]
    have hp : ∀ i ∈ List.range l2.length, gateBad (st2 a l1.length) i (rd_T71 l2 i) = gBad (a + l1.length) i (rd_T71 l2 i) := by
      intro i hi
      rw [List.mem_range] at hi
      unfold gateBad gBad
      rw [e2, w64 (a + l1.length + 1 + i) (by omega) (by omega), w64 _ (by omega) (by omega)]
      congr 1
      exact decide_eq_decide.2 (by omega)
    constructor
    · rintro ⟨i, hi, h⟩; exact ⟨i, hi, by rw [← hp i hi]; exact h⟩
    · rintro ⟨i, hi, h⟩; exact ⟨i, hi, by rw [hp i hi]; exact h⟩
  rw [o, o2, o3]
  by_cases d3 : l3.any (litOut (szS a l1 l2)) = true
  · rw [if_pos d3, if_pos (Or.inl d3)]
  rw [if_neg d3]
  by_cases d4 : l4.any (litOut (szS a l1 l2)) = true
  · rw [if_pos d4, if_pos (Or.inr (Or.inl d4))]
  rw [if_neg d4]
  by_cases d5 : l1.any (latBad (szS a l1 l2)) = true
  · rw [if_pos d5, if_pos (Or.inr (Or.inr (Or.inl d5)))]
  rw [if_neg d5]
  by_cases d6 : gsBad (a + l1.length) l2 = true
  · rw [if_pos d6, if_pos (Or.inr (Or.inr (Or.inr d6)))]
  · rw [if_neg d6, if_neg (by simp [d3, d4, d5, d6])]

-- ref02's comparisons of equal circuits
theorem checkR_ok (a : Int) (l1 : List S61) (l2 : List S71) (l3 l4 : List Int) (h : checkR a l1 l2 l3 l4 = 0) : 0 ≤ a ∧ a ≤ 1000 ∧ szS a l1 l2 ≤ 1000 := by
  unfold checkR at h
  by_cases c0 : a < 0
  · rw [if_pos c0] at h; omega
  rw [if_neg c0] at h
  by_cases c1 : a > 1000 ∨ szS a l1 l2 > 1000 ∨ l3.length > 100 ∨ l4.length > 100
  · rw [if_pos c1] at h; omega
  · omega
theorem gvars_eq (a : Int) (l1 : List S61) (l2 : List S71) (l3 l4 : List Int) (hs : Small l1 l2 l3 l4) (hw : Wf a l1 l2 l3 l4) :
    gates_Vars.f a l1 l2 l3 l4 = some (if checkR a l1 l2 l3 l4 = 0 then (szS a l1 l2, 0) else (0, checkR a l1 l2 l3 l4)) := by
  have hs1 := hs.h1
  have hs2 := hs.h2
  unfold gates_Vars.f
  rw [gcheck_eq a l1 l2 l3 l4 hs hw]
  simp only [Option.bind_some]
  by_cases h : checkR a l1 l2 l3 l4 = 0
  · obtain ⟨h0, h1, h2⟩ := checkR_ok _ _ _ _ _ h
    unfold szS at h2
    rw [if_pos h, if_pos h]
    unfold st3 st2 st1 szS
    rw [w64 (1 + a) (by omega) (by omega), w64 (1 + a + l1.length) (by omega) (by omega), w64 (1 + a + l1.length + l2.length) (by omega) (by omega), w64 _ (by omega) (by omega)]
    congr 2; omega
  · rw [if_neg h, if_neg h]

-- a valid circuit
/-- The gates are in order, behind so many variables. -/
def Gates (base : Nat) (gs : List S71) : Prop := ∀ (i : Nat) (h : i < gs.length), 0 ≤ gs[i].f1 ∧ gs[i].f1 ≤ gs[i].f0 ∧ gs[i].f0 / 2 < (base + i : Nat)
/-- What a valid circuit gives. -/
structure Good (a : Int) (l1 : List S61) (l2 : List S71) (l3 l4 : List Int) : Prop where
  a0 : 0 ≤ a
  a1 : a ≤ 1000
  n : szS a l1 l2 ≤ 1000
  g : Gates (1 + a.toNat + l1.length) l2
  l : ∀ x ∈ l1, (0 ≤ x.f0 ∧ x.f0 / 2 ≤ szS a l1 l2) ∧ (0 ≤ x.f1 ∧ x.f1 ≤ 2)
  b : ∀ x ∈ l3, 0 ≤ x ∧ x / 2 ≤ szS a l1 l2
  c : ∀ x ∈ l4, 0 ≤ x ∧ x / 2 ≤ szS a l1 l2
theorem litOut_in {n l : Int} (h : litOut n l = false) : 0 ≤ l ∧ l / 2 ≤ n := by
  simp only [litOut, Bool.or_eq_false_iff, decide_eq_false_iff_not] at h
  omega
theorem good_of (a : Int) (l1 : List S61) (l2 : List S71) (l3 l4 : List Int) (h : checkR a l1 l2 l3 l4 = 0) : Good a l1 l2 l3 l4 := by
  unfold checkR at h
  by_cases c0 : a < 0
  · rw [if_pos c0] at h; omega
  rw [if_neg c0] at h
  by_cases c1 : a > 1000 ∨ szS a l1 l2 > 1000 ∨ l3.length > 100 ∨ l4.length > 100
  · rw [if_pos c1] at h; omega
  rw [if_neg c1] at h
  by_cases c2 : l3.any (litOut (szS a l1 l2)) = true ∨ l4.any (litOut (szS a l1 l2)) = true ∨ l1.any (latBad (szS a l1 l2)) = true ∨ gsBad (a + l1.length) l2 = true
  · rw [if_pos c2] at h; omega
  have d3 : l3.any (litOut (szS a l1 l2)) = false := by
    cases e : l3.any (litOut (szS a l1 l2)) with
    | false => rfl
    | true => exact absurd (Or.inl e) c2
  have d4 : l4.any (litOut (szS a l1 l2)) = false := by
    cases e : l4.any (litOut (szS a l1 l2)) with
    | false => rfl
    | true => exact absurd (Or.inr (Or.inl e)) c2
  have d1 : l1.any (latBad (szS a l1 l2)) = false := by
    cases e : l1.any (latBad (szS a l1 l2)) with
    | false => rfl
    | true => exact absurd (Or.inr (Or.inr (Or.inl e))) c2
  have d2 : gsBad (a + l1.length) l2 = false := by
    cases e : gsBad (a + l1.length) l2 with
    | false => rfl
    | true => exact absurd (Or.inr (Or.inr (Or.inr e))) c2
  refine ⟨by omega, by omega, by omega, ?_, ?_, ?_, ?_⟩
  · intro i hi
    have := List.any_eq_false.1 d2 i (List.mem_range.2 hi)
    rw [rdA_at l2 i hi] at this
    simp [gBad] at this
    omega
  · intro x hx
    have := List.any_eq_false.1 d1 x hx
    simp only [latBad, Bool.not_eq_true, Bool.or_eq_false_iff, decide_eq_false_iff_not] at this
    exact ⟨litOut_in this.1.1, by omega⟩
  · intro x hx
    exact litOut_in (by simpa using List.any_eq_false.1 d3 x hx)
  · intro x hx
    exact litOut_in (by simpa using List.any_eq_false.1 d4 x hx)
theorem check_of (a : Int) (l1 : List S61) (l2 : List S71) (l3 l4 : List Int) (h : Good a l1 l2 l3 l4) (h3 : l3.length ≤ 100) (h4 : l4.length ≤ 100) : checkR a l1 l2 l3 l4 = 0 := by
  have ha0 := h.a0
  have ha1 := h.a1
  have hn := h.n
  unfold checkR
  rw [if_neg (by omega), if_neg (by omega), if_neg]
  rintro (c | c | c | c)
  · obtain ⟨x, hx, hb⟩ := List.any_eq_true.1 c
    have := h.b x hx
    simp [litOut] at hb
    omega
  · obtain ⟨x, hx, hb⟩ := List.any_eq_true.1 c
    have := h.c x hx
    simp [litOut] at hb
    omega
  · obtain ⟨x, hx, hb⟩ := List.any_eq_true.1 c
    have := h.l x hx
    simp [latBad, litOut] at hb
    omega
  · obtain ⟨i, hi, hb⟩ := List.any_eq_true.1 c
    have hi := List.mem_range.1 hi
    have := h.g i hi
    rw [rdA_at l2 i hi] at hb
    simp [gBad] at hb
    omega

-- two-valued frames
def valV (l : List Bool) (x : Int) : Bool := (rdOf false l (x / 2)) != decide (x % 2 = 1)
def frameV : List Bool → List S71 → List Bool
  | acc, [] => acc
  | acc, g :: gs => frameV (acc ++ [valV acc g.f0 && valV acc g.f1]) gs
theorem frameV_len : ∀ (gs : List S71) (acc : List Bool), (frameV acc gs).length = acc.length + gs.length
  | [], acc => rfl
  | g :: gs, acc => by rw [frameV, frameV_len gs]; simp; omega
theorem frameV_snoc : ∀ (gs : List S71) (acc : List Bool) (g : S71), frameV acc (gs ++ [g]) = frameV acc gs ++ [valV (frameV acc gs) g.f0 && valV (frameV acc gs) g.f1]
  | [], acc, g => rfl
  | x :: gs, acc, g => by rw [List.cons_append, frameV, frameV_snoc gs]; rfl
theorem vof_eq (l : List Bool) (x : Int) (h0 : 0 ≤ x) (h1 : x / 2 < l.length) (h2 : l.length ≤ 100000) : values_of.f l x = some (valV l x) := by
  unfold values_of.f valV
  rw [if_pos (by omega), if_pos h1, band1 x h0 (by omega)]
  congr 2
theorem valV_app (l m : List Bool) (x : Int) (h0 : 0 ≤ x) (h1 : x / 2 < l.length) : valV (l ++ m) x = valV l x := by
  unfold valV rdOf
  have : (x / 2).toNat < l.length := by omega
  simp [List.getD, List.getElem?_append_left this]
theorem gatesV_eq : ∀ (gs : List S71) (acc : List Bool), Gates acc.length gs → acc.length + gs.length ≤ 100000 → gatesV (acc ++ List.replicate gs.length false) acc.length gs = some (frameV acc gs)
  | [], acc, _, _ => by simp [gatesV, frameV]
  | g :: gs, acc, hg, hb => by
    have h0 := hg 0 (by simp)
    simp only [List.getElem_cons_zero, Nat.add_zero] at h0
    have hl : (acc ++ List.replicate (g :: gs).length false).length = acc.length + (gs.length + 1) := by simp
    simp only [List.length_cons] at hb
    simp only [gatesV, frameV]
    rw [vof_eq _ g.f0 (by omega) (by rw [hl]; omega) (by rw [hl]; omega), vof_eq _ g.f1 (by omega) (by rw [hl]; omega) (by rw [hl]; omega), valV_app acc _ _ (by omega) (by omega), valV_app acc _ _ (by omega) (by omega)]
    simp only [Option.bind_some]
    have e : (if valV acc g.f0 = true then some (valV acc g.f1) else some false) = some (valV acc g.f0 && valV acc g.f1) := by cases valV acc g.f0 <;> simp
    rw [e]
    simp only [Option.bind_some]
    have hg' : Gates (acc ++ [valV acc g.f0 && valV acc g.f1]).length gs := fun i hi => by
      have := hg (i + 1) (by simpa using hi)
      simp only [List.getElem_cons_succ] at this
      exact ⟨this.1, this.2.1, by simp; omega⟩
    have ih := gatesV_eq gs (acc ++ [valV acc g.f0 && valV acc g.f1]) hg' (by simp; omega)
    have e2 : (acc ++ List.replicate (g :: gs).length false).set acc.length (valV acc g.f0 && valV acc g.f1) = (acc ++ [valV acc g.f0 && valV acc g.f1]) ++ List.replicate gs.length false := by
      rw [List.set_append, if_neg (by omega), Nat.sub_self, List.length_cons, List.replicate_succ, List.set_cons_zero, List.append_assoc]
      rfl
    rw [e2, ← ih]
    simp
def allV (a : Int) (l1 : List S61) (l2 : List S71) (l3 l4 : List Int) (st inp : List Bool) : List Bool × Int :=
  if checkR a l1 l2 l3 l4 = 0 then (if st.length = l1.length ∧ (inp.length : Int) = a then (frameV (false :: (inp ++ st)) l2, 0) else ([], 2)) else ([], checkR a l1 l2 l3 l4)
theorem vall_eq (a : Int) (l1 : List S61) (l2 : List S71) (l3 l4 : List Int) (st inp : List Bool) (hs : Small l1 l2 l3 l4) (hw : Wf a l1 l2 l3 l4) :
    values_All.f a l1 l2 l3 l4 st inp = some (allV a l1 l2 l3 l4 st inp) := by
  unfold values_All.f allV
  rw [gvars_eq a l1 l2 l3 l4 hs hw]
  simp only [Option.bind_some]
  by_cases c : checkR a l1 l2 l3 l4 = 0
  · rw [if_pos c, if_pos c]
    simp only [if_true]
    by_cases d : st.length = l1.length ∧ (inp.length : Int) = a
    · have hg := good_of a l1 l2 l3 l4 c
      have ha0 := hg.a0
      have ha1 := hg.a1
      have hn := hg.n
      rw [if_pos d, if_pos d, if_pos (by unfold szS at hn ⊢; constructor <;> omega)]
      have h1 : (false :: (inp ++ st)).length = 1 + a.toNat + l1.length := by simp; omega
      have := gatesV_eq l2 (false :: (inp ++ st)) (by rw [h1]; exact hg.g) (by rw [h1]; unfold szS at hn; omega)
      have e1 : (false :: (inp ++ (st ++ List.replicate l2.length false))) = (false :: (inp ++ st)) ++ List.replicate l2.length false := by simp
      rw [e1, show 1 + inp.length + st.length = (false :: (inp ++ st)).length by simp; omega, this]
      rfl
    · rw [if_neg d, if_neg d]
  · rw [if_neg c, if_neg c, if_neg c]
theorem vasked_eq (k : Nat) (a : Int) (l1 : List S61) (l2 : List S71) (l3 l4 : List Int) (st inp : List Bool) (hs : Small l1 l2 l3 l4) (hw : Wf a l1 l2 l3 l4) (hk : 300 ≤ k) :
    spiritlevelref04_Asked.f k a l1 l2 l3 l4 st inp = some (allV a l1 l2 l3 l4 st inp).2 := by
  unfold spiritlevelref04_Asked.f allV
  rw [rcheck_eq k a l1 l2 l3 l4 hs hw hk]
  simp only [Option.bind_some]
  by_cases c : checkR a l1 l2 l3 l4 = 0
  · rw [if_pos c, if_pos c]
    by_cases c1 : st.length = l1.length
    · rw [if_pos (by omega)]
      by_cases c2 : (inp.length : Int) = a
      · rw [if_pos c2, if_pos ⟨c1, c2⟩]
      · rw [if_neg c2, if_neg (fun h => c2 h.2)]
    · rw [if_neg (by omega), if_neg (fun h => c1 h.1)]
  · rw [if_neg c, if_neg c]
theorem allV_ok {a : Int} {l1 : List S61} {l2 : List S71} {l3 l4 : List Int} {st inp : List Bool} (h : (allV a l1 l2 l3 l4 st inp).2 = 0) :
    checkR a l1 l2 l3 l4 = 0 ∧ st.length = l1.length ∧ (inp.length : Int) = a ∧ allV a l1 l2 l3 l4 st inp = (frameV (false :: (inp ++ st)) l2, 0) := by
  unfold allV at h ⊢
  by_cases c : checkR a l1 l2 l3 l4 = 0
  · rw [if_pos c] at h ⊢
    by_cases d : st.length = l1.length ∧ (inp.length : Int) = a
    · rw [if_pos d] at h ⊢; exact ⟨c, d.1, d.2, rfl⟩
    · rw [if_neg d] at h; simp at h
  · rw [if_neg c] at h; exact absurd h c
theorem great_l2 (a : Int) (l1 : List S61) (l2 : List S71) (l3 l4 : List Int) (h : spiritlevelref02_Great.f a l1 l2 l3 l4 = some false) : l2.length ≤ 120 := by
  unfold spiritlevelref02_Great.f at h
  by_cases c1 : (l1.length : Int) > 60
  · rw [if_pos c1] at h; simp at h
  rw [if_neg c1] at h
  by_cases c2 : (l2.length : Int) > 120
  · rw [if_pos c2] at h; simp at h
  · omega
theorem vframe_len {a : Int} {l1 : List S61} {l2 : List S71} {st inp : List Bool} (h1 : st.length = l1.length) (h2 : (inp.length : Int) = a) : ((frameV (false :: (inp ++ st)) l2).length : Int) = 1 + szS a l1 l2 := by
  rw [frameV_len]; unfold szS; simp; omega
theorem listV_eq (fr : List Bool) (hf : fr.length ≤ 100000) : ∀ (ls : List Int), (∀ x ∈ ls, 0 ≤ x ∧ x / 2 < fr.length) → listV fr ls = some (ls.map (valV fr))
  | [], _ => rfl
  | x :: l, h => by
    obtain ⟨h0, h1⟩ := h x (by simp)
    rw [listV, vof_eq fr x h0 h1 hf, Option.bind_some, listV_eq fr hf l (fun y hy => h y (by simp [hy]))]
    rfl
/-- Values of literals in a frame, or the error. -/
def litsV (a : Int) (l1 : List S61) (l2 : List S71) (l3 l4 : List Int) (st inp : List Bool) (ls : List Int) : List Bool × Int :=
  if (allV a l1 l2 l3 l4 st inp).2 = 0 then (ls.map (valV (allV a l1 l2 l3 l4 st inp).1), 0) else ([], (allV a l1 l2 l3 l4 st inp).2)
theorem listF_eq (a : Int) (l1 : List S61) (l2 : List S71) (l3 l4 : List Int) (st inp : List Bool) (ls : List Int) (hs : Small l1 l2 l3 l4) (hw : Wf a l1 l2 l3 l4) (hl : checkR a l1 l2 l3 l4 = 0 → ∀ x ∈ ls, 0 ≤ x ∧ x / 2 ≤ szS a l1 l2) :
    listF a l1 l2 l3 l4 st inp ls = some (litsV a l1 l2 l3 l4 st inp ls) := by
  unfold listF litsV
  rw [vall_eq a l1 l2 l3 l4 st inp hs hw, Option.bind_some]
  by_cases c : (allV a l1 l2 l3 l4 st inp).2 = 0
  · obtain ⟨c0, e1, e2, e⟩ := allV_ok c
    have hg := good_of a l1 l2 l3 l4 c0
    have hn := hg.n
    have hlen := vframe_len (l2 := l2) e1 e2
    rw [if_pos c, if_pos c, e]
    dsimp only
    rw [listV_eq _ (by omega) ls (fun x hx => by have := hl c0 x hx; omega), Option.bind_some]
  · rw [if_neg c, if_neg c]
theorem vnext_eq (a : Int) (l1 : List S61) (l2 : List S71) (l3 l4 : List Int) (st inp : List Bool) (hs : Small l1 l2 l3 l4) (hw : Wf a l1 l2 l3 l4) :
    values_Next.f a l1 l2 l3 l4 st inp = some (litsV a l1 l2 l3 l4 st inp (l1.map fun x => x.f0)) := by
  have := hs.h1
  unfold values_Next.f
  rw [if_pos (by omega), listF_eq a l1 l2 l3 l4 st inp _ hs hw]
  intro c0 x hx
  obtain ⟨y, hy, rfl⟩ := List.mem_map.1 hx
  exact ((good_of a l1 l2 l3 l4 c0).l y hy).1
/-- The constraints, the bad literals and the error. -/
def propsV (a : Int) (l1 : List S61) (l2 : List S71) (l3 l4 : List Int) (st inp : List Bool) : Bool × List Bool × Int :=
  if (allV a l1 l2 l3 l4 st inp).2 = 0 then (!(l4.any fun x => !(valV (allV a l1 l2 l3 l4 st inp).1 x)), l3.map (valV (allV a l1 l2 l3 l4 st inp).1), 0) else (false, [], (allV a l1 l2 l3 l4 st inp).2)
theorem xor_u8 (a : Int) (h0 : 0 ≤ a) (h1 : a ≤ 255) : Go.bits .xor .u8 a 1 = if a % 2 = 0 then a + 1 else a - 1 := by
  have key : ∀ n : Fin 256, Go.bits .xor .u8 ((n.val : Nat) : Int) 1 = if ((n.val : Nat) : Int) % 2 = 0 then ((n.val : Nat) : Int) + 1 else ((n.val : Nat) : Int) - 1 := by decide +kernel
  obtain ⟨n, rfl⟩ := Int.eq_ofNat_of_zero_le h0
  exact key ⟨n, by omega⟩
def coverS : List Int → List Int → Bool
  | x :: l, y :: m => (x == 2 || x == y) && coverS l m
  | _, _ => true
theorem tand_eq (k : Nat) (hk : 2 ≤ k) (a b : Int) (ha : 0 ≤ a) (hb : 0 ≤ b) : ternary_And.f k a b = some (if a ≤ 2 ∧ b ≤ 2 then (bothS a b, 0) else (0, 8)) := by
  obtain ⟨k, rfl⟩ : ∃ m, k = m + 1 := ⟨k - 1, by omega⟩
  unfold ternary_And.f ternary_check.f
  simp only [Option.bind_some, List.any_cons, List.any_nil, Bool.or_false, teOut]
  by_cases h : a ≤ 2 ∧ b ≤ 2
  · rw [if_neg (show ¬ (decide (2 < a) || decide (2 < b)) = true by simp; omega), if_pos rfl, if_pos h]
    unfold ternary_and.f bothS
    by_cases c0 : a = 0
    · rw [if_pos c0, if_pos (Or.inl c0)]; simp [ternary_and.j0]
    rw [if_neg c0]
    by_cases c1 : b = 0
    · rw [if_pos (Or.inr c1)]; simp [ternary_and.j0, c1]
    rw [if_neg (show ¬ (a = 0 ∨ b = 0) by omega)]
    simp only [ternary_and.j0]
    rw [if_neg (by simpa using c1)]
    by_cases c2 : a = 2
    · rw [if_pos c2, if_pos (Or.inl c2)]; rfl
    rw [if_neg c2]
    by_cases c3 : b = 2
    · rw [if_pos c3, if_pos (Or.inr c3)]; rfl
    · rw [if_neg c3, if_neg (show ¬ (a = 2 ∨ b = 2) by omega)]; rfl
  · rw [if_pos (show (decide (2 < a) || decide (2 < b)) = true by simp; omega), if_neg (by decide), if_neg h]
theorem any_te (l : List Int) : l.any teOut = !l.all (fun x => decide (x ≤ 2)) := by
  induction l with
  | nil => rfl
  | cons x l ih =>
    rw [List.any_cons, List.all_cons, ih]
    unfold teOut
    by_cases h : x ≤ 2
    · simp [h, show ¬ 2 < x by omega]
    · simp [h, show 2 < x by omega]
theorem tsame_l0 (a b : List Int) (hab : a.length = b.length) (hl : a.length ≤ 100000) (d : Nat) : ∀ (k j : Nat), j + d = a.length → d < k →
    spiritlevelref05_Same.l0 k a b (j : Int) = some (decide (a.drop j = b.drop j)) := by
  induction d with
  | zero =>
    intro k j hj hk
    obtain ⟨k, rfl⟩ : ∃ m, k = m + 1 := ⟨k - 1, by omega⟩
    simp only [spiritlevelref05_Same.l0]
    rw [if_neg (by omega), List.drop_of_length_le (by omega), List.drop_of_length_le (by omega)]; rfl
  | succ d ih =>
    intro k j hj hk
    obtain ⟨k, rfl⟩ : ∃ m, k = m + 1 := ⟨k - 1, by omega⟩
    have h1 : j < a.length := by omega
    have h2 : j < b.length := by omega
    simp only [spiritlevelref05_Same.l0]
    rw [if_pos (by omega), if_pos (by omega), if_pos (show (j : Int) < (b.length : Int) by omega), rd_at a j h1, rd_at b j h2, List.drop_eq_getElem_cons (l := a) h1, List.drop_eq_getElem_cons (l := b) h2, w64 ((j : Int) + 1) (by omega) (by omega), show ((j : Int) + 1) = ((j + 1 : Nat) : Int) by omega, ih k (j + 1) (by omega) (by omega)]
    by_cases c : a[j] = b[j]
    · rw [if_pos c, c]
      simp only [List.cons.injEq, true_and]
    · rw [if_neg c]
      have : ¬ (a[j] :: List.drop (j + 1) a = b[j] :: List.drop (j + 1) b) := fun h => c (List.cons.inj h).1
      rw [decide_eq_false this]
theorem tsame_eq (k : Nat) (a b : List Int) (hl : a.length ≤ 100000) (hk : a.length < k) : spiritlevelref05_Same.f k a b = some (decide (a = b)) := by
  unfold spiritlevelref05_Same.f
  by_cases c : a.length = b.length
  · rw [if_pos (by omega)]
    have := tsame_l0 a b c hl a.length k 0 (by omega) hk
    simpa using this
  · rw [if_neg (by omega)]
    have : a ≠ b := fun h => c (by rw [h])
    simp [this]

-- three-valued frames
def V2 (l : List Int) : Prop := ∀ x ∈ l, 0 ≤ x ∧ x ≤ 2
def valT (l : List Int) (x : Int) : Int := if x % 2 = 1 then otherS (rd l (x / 2)) else rd l (x / 2)
def frameS : List Int → List S71 → List Int
  | acc, [] => acc
  | acc, g :: gs => frameS (acc ++ [bothS (valT acc g.f0) (valT acc g.f1)]) gs
theorem bothS_rng (a b : Int) : 0 ≤ bothS a b ∧ bothS a b ≤ 2 := by unfold bothS; split <;> (try split) <;> omega
theorem otherS_rng (a : Int) (h : 0 ≤ a ∧ a ≤ 2) : 0 ≤ otherS a ∧ otherS a ≤ 2 := by unfold otherS; split <;> omega
theorem rd_rng (l : List Int) (h : V2 l) (j : Int) (h0 : 0 ≤ j) (h1 : j < l.length) : 0 ≤ rd l j ∧ rd l j ≤ 2 := by
  obtain ⟨n, rfl⟩ := Int.eq_ofNat_of_zero_le h0
  have hn : n < l.length := by omega
  rw [rd_at l n hn]
  exact h _ (List.getElem_mem hn)
theorem valT_rng (l : List Int) (h : V2 l) (x : Int) (h0 : 0 ≤ x) (h1 : x / 2 < l.length) : 0 ≤ valT l x ∧ valT l x ≤ 2 := by
  have := rd_rng l h (x / 2) (by omega) h1
  unfold valT
  split
  · exact otherS_rng _ this
  · exact this
theorem tof_eq (l : List Int) (h : V2 l) (x : Int) (h0 : 0 ≤ x) (h1 : x / 2 < l.length) (h2 : l.length ≤ 100000) : ternary_of.f l x = some (valT l x) := by
  have hr := rd_rng l h (x / 2) (by omega) h1
  unfold ternary_of.f valT
  rw [band1 x h0 (by omega)]
  by_cases c : x % 2 = 1
  · rw [if_pos c, if_pos c, if_pos (by omega), if_pos h1]
    unfold ternary_not.f otherS
    by_cases d : rd l (x / 2) = 2
    · rw [if_pos d, if_pos d, d]; rfl
    · rw [if_neg d, if_neg d, xor_u8 _ hr.1 (by omega)]
      have : rd l (x / 2) = 0 ∨ rd l (x / 2) = 1 := by omega
      rcases this with e | e <;> rw [e] <;> rfl
  · rw [if_neg c, if_neg c, if_pos (by omega), if_pos h1]
theorem tandi_eq (k : Nat) (hk : 1 ≤ k) (a b : Int) : ternary_and.f k a b = some (bothS a b) := by
  obtain ⟨k, rfl⟩ : ∃ m, k = m + 1 := ⟨k - 1, by omega⟩
  unfold ternary_and.f bothS
  by_cases c0 : a = 0
  · rw [if_pos c0, if_pos (Or.inl c0)]; simp [ternary_and.j0]
  rw [if_neg c0]
  by_cases c1 : b = 0
  · rw [if_pos (Or.inr c1)]; simp [ternary_and.j0, c1]
  rw [if_neg (show ¬ (a = 0 ∨ b = 0) by omega)]
  simp only [ternary_and.j0]
  rw [if_neg (by simpa using c1)]
  by_cases c2 : a = 2
  · rw [if_pos c2, if_pos (Or.inl c2)]
  rw [if_neg c2]
  by_cases c3 : b = 2
  · rw [if_pos c3, if_pos (Or.inr c3)]
  · rw [if_neg c3, if_neg (show ¬ (a = 2 ∨ b = 2) by omega)]
theorem V2_snoc (l : List Int) (x : Int) (h : V2 l) (hx : 0 ≤ x ∧ x ≤ 2) : V2 (l ++ [x]) := by
  intro y hy
  rcases List.mem_append.1 hy with hy | hy
  · exact h y hy
  · rw [List.mem_singleton.1 hy]; exact hx
theorem all_l0 (gs : List S71) (base : Nat) (hg : Gates base gs) (hb : base + gs.length ≤ 100000) (d : Nat) : ∀ (k j : Nat) (acc : List Int), j + d = gs.length → d + 1 < k → acc.length = base + j → V2 acc →
    ternary_All.l0 k acc gs (gs.length : Int) (j : Int) = some (frameS acc (gs.drop j), 0) := by
  induction d with
  | zero =>
    intro k j acc hj hk _ _
    obtain ⟨k, rfl⟩ : ∃ m, k = m + 1 := ⟨k - 1, by omega⟩
    simp only [ternary_All.l0]
    rw [if_neg (by omega), List.drop_of_length_le (by omega)]; rfl
  | succ d ih =>
    intro k j acc hj hk ha hv
    obtain ⟨k, rfl⟩ : ∃ m, k = m + 1 := ⟨k - 1, by omega⟩
    have hlt : j < gs.length := by omega
    obtain ⟨g0, g1, g2⟩ := hg j hlt
    simp only [ternary_All.l0]
    rw [if_pos (by omega), if_pos (by omega), if_pos (by omega), rdA_at gs j hlt, List.drop_eq_getElem_cons hlt]
    rw [tof_eq acc hv _ (by omega) (by omega) (by omega), tof_eq acc hv _ g0 (by omega) (by omega)]
    simp only [Option.bind_some]
    rw [tandi_eq k (by omega)]
    simp only [Option.bind_some]
    rw [if_pos (by omega), w64 ((j : Int) + 1) (by omega) (by omega), show ((j : Int) + 1) = ((j + 1 : Nat) : Int) by omega, ih k (j + 1) _ (by omega) (by omega) (by simp; omega) (V2_snoc _ _ hv (bothS_rng _ _))]
    rfl
theorem frameS_len : ∀ (gs : List S71) (acc : List Int), (frameS acc gs).length = acc.length + gs.length
  | [], acc => rfl
  | g :: gs, acc => by rw [frameS, frameS_len gs]; simp; omega
theorem frameS_V2 : ∀ (gs : List S71) (acc : List Int), V2 acc → V2 (frameS acc gs)
  | [], acc, h => h
  | g :: gs, acc, h => by rw [frameS]; exact frameS_V2 gs _ (V2_snoc _ _ h (bothS_rng _ _))
def le2 (l : List Int) : Bool := l.all (fun x => decide (x ≤ 2))
def askedS (a : Int) (l1 : List S61) (l2 : List S71) (l3 l4 st inp : List Int) : Int :=
  if checkR a l1 l2 l3 l4 ≠ 0 then checkR a l1 l2 l3 l4 else if st.length ≠ l1.length ∨ (inp.length : Int) ≠ a then 2 else if le2 st = true ∧ le2 inp = true then 0 else 8
theorem V2_of (l : List Int) (h0 : ∀ x ∈ l, 0 ≤ x) (h : le2 l = true) : V2 l := fun x hx => ⟨h0 x hx, by have := List.all_eq_true.1 h x hx; simpa using this⟩
theorem asked_ok {a : Int} {l1 : List S61} {l2 : List S71} {l3 l4 st inp : List Int} (h : askedS a l1 l2 l3 l4 st inp = 0) :
    checkR a l1 l2 l3 l4 = 0 ∧ st.length = l1.length ∧ (inp.length : Int) = a ∧ le2 st = true ∧ le2 inp = true := by
  unfold askedS at h
  by_cases c : checkR a l1 l2 l3 l4 = 0
  · rw [if_neg (by simpa using c)] at h
    by_cases c2 : st.length ≠ l1.length ∨ (inp.length : Int) ≠ a
    · rw [if_pos c2] at h; omega
    rw [if_neg c2] at h
    by_cases c3 : le2 st = true ∧ le2 inp = true
    · exact ⟨c, by omega, by omega, c3.1, c3.2⟩
    · rw [if_neg c3] at h; omega
  · rw [if_pos c] at h; exact absurd h c
theorem tAll_eq (k : Nat) (a : Int) (l1 : List S61) (l2 : List S71) (l3 l4 st inp : List Int) (hs : Small l1 l2 l3 l4) (hw : Wf a l1 l2 l3 l4) (h1 : ∀ x ∈ st, 0 ≤ x) (h2 : ∀ x ∈ inp, 0 ≤ x) (hk : 300 ≤ k) :
    ternary_All.f k a l1 l2 l3 l4 st inp = some (if askedS a l1 l2 l3 l4 st inp = 0 then (frameS (0 :: (inp ++ st)) l2, 0) else ([], askedS a l1 l2 l3 l4 st inp)) := by
  have hs1 := hs.h1
  have hs2 := hs.h2
  obtain ⟨k, rfl⟩ : ∃ m, k = m + 1 := ⟨k - 1, by omega⟩
  unfold ternary_All.f
  rw [gcheck_eq a l1 l2 l3 l4 hs hw]
  simp only [Option.bind_some]
  by_cases c : checkR a l1 l2 l3 l4 = 0
  · have hg := good_of a l1 l2 l3 l4 c
    have ha0 := hg.a0
    have ha1 := hg.a1
    have hn := hg.n
    rw [if_pos c]
    have bad : st.length ≠ l1.length ∨ (inp.length : Int) ≠ a → askedS a l1 l2 l3 l4 st inp = 2 := fun h => by unfold askedS; rw [if_neg (by simpa using c), if_pos h]
    have j0 : ∀ s i : List Int, ternary_All.j0 (k + 1) s i true a l1 l2 l3 l4 = some ([], 2) := fun s i => by simp [ternary_All.j0]
    by_cases c1 : st.length = l1.length
    · rw [if_pos (by omega)]
      by_cases c2 : (inp.length : Int) = a
      · have e2 : ((inp.length : Int) != a) = false := by simp [c2]
        rw [e2]
        simp only [ternary_All.j0]
        rw [if_neg (by decide)]
        have hlen : ([[0], inp, st] : List (List Int)).flatten = 0 :: (inp ++ st) := by simp
        unfold slices_Concat_uint8_uint8.f
        rw [hlen, if_pos (by simp; omega)]
        simp only [Option.bind_some]
        unfold ternary_check.f
        rw [any_te]
        have hall : (0 :: (inp ++ st)).all (fun x => decide (x ≤ 2)) = (le2 inp && le2 st) := by simp [le2]
        rw [hall]
        by_cases c3 : le2 st = true ∧ le2 inp = true
        · have e : askedS a l1 l2 l3 l4 st inp = 0 := by unfold askedS; rw [if_neg (by simpa using c), if_neg (by omega), if_pos c3]
          rw [c3.1, c3.2, if_pos e]
          simp only [Bool.and_true, Bool.not_true, Bool.false_eq_true, if_false, Option.bind_some]
          rw [if_pos trivial]
          have hv : V2 (0 :: (inp ++ st)) := by
            intro x hx
            rcases List.mem_cons.1 hx with rfl | hx
            · omega
            rcases List.mem_append.1 hx with hx | hx
            · exact V2_of inp h2 c3.2 x hx
            · exact V2_of st h1 c3.1 x hx
          have := all_l0 l2 (1 + a.toNat + l1.length) hg.g (by unfold szS at hn; omega) l2.length k 0 (0 :: (inp ++ st)) (by omega) (by omega) (by simp; omega) hv
          simpa using this
        · have e : askedS a l1 l2 l3 l4 st inp = 8 := by unfold askedS; rw [if_neg (by simpa using c), if_neg (by omega), if_neg c3]
          have f : (le2 inp && le2 st) = false := by
            cases x : le2 inp <;> cases y : le2 st <;> simp_all
          rw [f, e]
          simp
      · have e2 : ((inp.length : Int) != a) = true := by simp [c2]
        rw [e2, j0, bad (Or.inr c2)]; rfl
    · rw [if_neg (by omega), j0, bad (Or.inl c1)]; rfl
  · have e : askedS a l1 l2 l3 l4 st inp = checkR a l1 l2 l3 l4 := by unfold askedS; rw [if_pos c]
    rw [if_neg c, e, if_neg c]

theorem frame_facts {a : Int} {l1 : List S61} {l2 : List S71} {l3 l4 st inp : List Int} (hg : Good a l1 l2 l3 l4) (ls : st.length = l1.length) (li : (inp.length : Int) = a) (v1 : V2 st) (v2 : V2 inp) :
    ((frameS (0 :: (inp ++ st)) l2).length : Int) = 1 + szS a l1 l2 ∧ V2 (frameS (0 :: (inp ++ st)) l2) := by
  refine ⟨?_, ?_⟩
  · rw [frameS_len]; unfold szS; simp; omega
  · apply frameS_V2
    intro x hx
    rcases List.mem_cons.1 hx with rfl | hx
    · omega
    rcases List.mem_append.1 hx with hx | hx
    · exact v2 x hx
    · exact v1 x hx
def nextS (fr : List Int) (l1 : List S61) : List Int := l1.map fun x => valT fr x.f0
theorem next_l0 (fr : List Int) (l1 : List S61) (hv : V2 fr) (hl : ∀ x ∈ l1, 0 ≤ x.f0 ∧ x.f0 / 2 < fr.length) (hf : fr.length ≤ 100000) (h1 : l1.length ≤ 1000) (d : Nat) : ∀ (k j : Nat) (acc : List Int), j + d = l1.length → d < k → acc.length = j →
    ternary_Next.l0 k fr acc l1 (l1.length : Int) (j : Int) = some (acc ++ nextS fr (l1.drop j), 0) := by
  induction d with
  | zero =>
    intro k j acc hj hk _
    obtain ⟨k, rfl⟩ : ∃ m, k = m + 1 := ⟨k - 1, by omega⟩
    simp only [ternary_Next.l0]
    rw [if_neg (by omega), List.drop_of_length_le (by omega)]; simp [nextS]
  | succ d ih =>
    intro k j acc hj hk ha
    obtain ⟨k, rfl⟩ : ∃ m, k = m + 1 := ⟨k - 1, by omega⟩
    have hlt : j < l1.length := by omega
    obtain ⟨g0, g1⟩ := hl _ (List.getElem_mem hlt)
    simp only [ternary_Next.l0]
    rw [if_pos (by omega), if_pos (by omega), if_pos (by omega), rdL_at l1 j hlt, List.drop_eq_getElem_cons hlt, tof_eq fr hv _ g0 g1 hf]
    simp only [Option.bind_some]
    rw [if_pos (by omega), w64 ((j : Int) + 1) (by omega) (by omega), show ((j : Int) + 1) = ((j + 1 : Nat) : Int) by omega, ih k (j + 1) _ (by omega) (by omega) (by simp; omega)]
    simp only [nextS, List.map_cons, List.append_assoc, List.singleton_append]
theorem good_l {a : Int} {l1 : List S61} {l2 : List S71} {l3 l4 st inp : List Int} (hg : Good a l1 l2 l3 l4) (ls : st.length = l1.length) (li : (inp.length : Int) = a) (v1 : V2 st) (v2 : V2 inp) :
    ∀ x ∈ l1, 0 ≤ x.f0 ∧ x.f0 / 2 < (frameS (0 :: (inp ++ st)) l2).length := fun x hx => by
  have h := (hg.l x hx).1
  have f := (frame_facts hg ls li v1 v2).1
  omega
def nextA (a : Int) (l1 : List S61) (l2 : List S71) (l3 l4 st inp : List Int) : List Int × Int :=
  if askedS a l1 l2 l3 l4 st inp = 0 then (nextS (frameS (0 :: (inp ++ st)) l2) l1, 0) else ([], askedS a l1 l2 l3 l4 st inp)
theorem tNext_eq (k : Nat) (a : Int) (l1 : List S61) (l2 : List S71) (l3 l4 st inp : List Int) (hs : Small l1 l2 l3 l4) (hw : Wf a l1 l2 l3 l4) (h1 : ∀ x ∈ st, 0 ≤ x) (h2 : ∀ x ∈ inp, 0 ≤ x) (hk : 300 ≤ k) :
    ternary_Next.f k a l1 l2 l3 l4 st inp = some (nextA a l1 l2 l3 l4 st inp) := by
  have hs1 := hs.h1
  have hs2 := hs.h2
  unfold ternary_Next.f nextA
  rw [tAll_eq k a l1 l2 l3 l4 st inp hs hw h1 h2 hk]
  simp only [Option.bind_some]
  by_cases c : askedS a l1 l2 l3 l4 st inp = 0
  · obtain ⟨b0, b1, b2, b3, b4⟩ := asked_ok c
    have hg := good_of _ _ _ _ _ b0
    have ha1 := hg.a1
    have f := frame_facts hg b1 b2 (V2_of _ h1 b3) (V2_of _ h2 b4)
    have hn := hg.n
    rw [if_pos c, if_pos c, if_pos rfl]
    have := next_l0 (frameS (0 :: (inp ++ st)) l2) l1 f.2 (good_l hg b1 b2 (V2_of _ h1 b3) (V2_of _ h2 b4)) (by omega) (by omega) l1.length k 0 [] (by omega) (by omega) rfl
    simpa using this
  · rw [if_neg c, if_neg c, if_neg c]
def firstS (l1 : List S61) : List Int := l1.map fun x => x.f1
def firstA (a : Int) (l1 : List S61) (l2 : List S71) (l3 l4 : List Int) : List Int × Int :=
  if checkR a l1 l2 l3 l4 = 0 then (firstS l1, 0) else ([], checkR a l1 l2 l3 l4)
/-- Two truth values as two of the three. -/
def toT (l : List Bool) : List Int := l.map fun b => if b = true then 1 else 0
theorem toT_rd (l : List Bool) (j : Int) : rd (toT l) j = if rdOf false l j = true then 1 else 0 := by
  unfold rd rdOf toT
  rcases Nat.lt_or_ge j.toNat l.length with h | h
  · simp [List.getD, h]
  · simp [List.getD, List.getElem?_eq_none h]
theorem toT_val (l : List Bool) (x : Int) : valT (toT l) x = if valV l x = true then 1 else 0 := by
  unfold valT valV
  rw [toT_rd]
  by_cases c : x % 2 = 1
  · rw [if_pos c, decide_eq_true c]
    cases rdOf false l (x / 2) <;> rfl
  · rw [if_neg c, decide_eq_false c]
    cases rdOf false l (x / 2) <;> rfl
theorem toT_snoc (l : List Bool) (b : Bool) : toT (l ++ [b]) = toT l ++ [if b = true then 1 else 0] := by simp [toT]
theorem toT_frame : ∀ (gs : List S71) (acc : List Bool), frameS (toT acc) gs = toT (frameV acc gs)
  | [], acc => rfl
  | g :: gs, acc => by
    rw [frameS, frameV, toT_val, toT_val, ← toT_frame gs, toT_snoc]
    congr 3
    cases valV acc g.f0 <;> cases valV acc g.f1 <;> rfl
theorem toT_V2 (l : List Bool) : V2 (toT l) := by
  intro x hx
  obtain ⟨b, _, rfl⟩ := List.mem_map.1 hx
  split <;> omega
theorem toT_len (l : List Bool) : (toT l).length = l.length := by simp [toT]
theorem toT_le2 (l : List Bool) : le2 (toT l) = true := List.all_eq_true.2 fun x hx => decide_eq_true (toT_V2 l x hx).2
theorem ofT_l0 (l : List Bool) (hl : l.length ≤ 100000) (d : Nat) : ∀ (k j : Nat) (acc : List Int), j + d = l.length → d < k → acc.length = j →
    spiritlevelref05_Of.l0 k l acc (j : Int) = some (acc ++ toT (l.drop j)) := by
  induction d with
  | zero =>
    intro k j acc hj hk _
    obtain ⟨k, rfl⟩ : ∃ m, k = m + 1 := ⟨k - 1, by omega⟩
    simp only [spiritlevelref05_Of.l0]
    rw [if_neg (by omega), List.drop_of_length_le (by omega)]; simp [toT]
  | succ d ih =>
    intro k j acc hj hk ha
    obtain ⟨k, rfl⟩ : ∃ m, k = m + 1 := ⟨k - 1, by omega⟩
    have hlt : j < l.length := by omega
    have hal : acc.length < 140737488355328 := by omega
    have ra : rdOf false l (j : Int) = l[j] := by simp [rdOf, List.getD, hlt]
    simp only [spiritlevelref05_Of.l0]
    rw [if_pos (by omega), if_pos (by omega), ra, List.drop_eq_getElem_cons hlt, if_pos hal, if_pos hal, w64 ((j : Int) + 1) (by omega) (by omega), show ((j : Int) + 1) = ((j + 1 : Nat) : Int) by omega, ih k (j + 1) _ (by omega) (by omega) (by simp; omega), ih k (j + 1) _ (by omega) (by omega) (by simp; omega)]
    unfold toT
    cases l[j] <;> simp
theorem ofT_eq (k : Nat) (l : List Bool) (hl : l.length ≤ 100000) (hk : l.length < k) : spiritlevelref05_Of.f k l = some (toT l) := by
  unfold spiritlevelref05_Of.f
  have := ofT_l0 l hl l.length k 0 [] (by omega) hk rfl
  simpa using this
theorem alTwo (k : Nat) (hk : 100 ≤ k) : spiritlevellaw05_alive.f k = some true := by
  have al : spiritlevellaw05_alive.f 100 = some true := by decide +kernel
  obtain ⟨d, rfl⟩ := Nat.exists_eq_add_of_le hk
  induction d with
  | zero => exact al
  | succ d ih => exact spiritlevellaw05_alive.mono (100 + d) _ (ih (by omega))
theorem TernaryTwo : spiritlevellaw05_TernaryTwo.Pure := by
  intro a l1 l2 l3 l4 st inp w0 w1 w2 w3 w4 w5 w6
  have hw : Wf a l1 l2 l3 l4 := ⟨wf_i64 w0, fun x hx => ⟨wf_i64 (w1.2.2 x hx).1, wf_i64 (w1.2.2 x hx).2⟩, fun x hx => ⟨wf_i64 (w2.2.2 x hx).1, wf_i64 (w2.2.2 x hx).2⟩, fun x hx => wf_i64 (w3.2.2 x hx), fun x hx => wf_i64 (w4.2.2 x hx)⟩
  refine ⟨5000, ?_⟩
  have out : spiritlevellaw05_TernaryTwo.j0 5000 st inp true a l1 l2 l3 l4 = some true := by
    simp only [spiritlevellaw05_TernaryTwo.j0]; rw [if_pos trivial, alTwo _ (by omega)]; rfl
  unfold spiritlevellaw05_TernaryTwo.f
  obtain ⟨b, hb, hsm⟩ := great_eq a l1 l2 l3 l4
  rw [hb, Option.bind_some]
  cases b with
  | true => rw [if_pos rfl, out]
  | false =>
    rw [if_neg (by decide)]
    obtain ⟨hs, -⟩ := hsm rfl
    have hs1 := hs.h1
    have hs2 := hs.h2
    by_cases c1 : (st.length : Int) > 100
    · rw [if_pos c1, out]
    rw [if_neg c1]
    by_cases c2 : (inp.length : Int) > 100
    · rw [if_pos c2, out]
    rw [if_neg c2, vasked_eq 5000 a l1 l2 l3 l4 st inp hs hw (by omega), Option.bind_some]
    by_cases c3 : (allV a l1 l2 l3 l4 st inp).2 = 0
    · obtain ⟨c0, e1, e2, hall⟩ := allV_ok c3
      rw [c3, show ((0 : Int) != 0) = false from rfl]
      simp only [spiritlevellaw05_TernaryTwo.j0]
      have v0 : ∀ (l : List Bool), ∀ x ∈ toT l, 0 ≤ x := fun l x hx => (toT_V2 l x hx).1
      have ha : askedS a l1 l2 l3 l4 (toT st) (toT inp) = 0 := by
        unfold askedS
        rw [if_neg (by simpa using c0), if_neg (by rw [toT_len, toT_len]; omega), if_pos ⟨toT_le2 st, toT_le2 inp⟩]
      have hfr : frameS (0 :: (toT inp ++ toT st)) l2 = toT (frameV (false :: (inp ++ st)) l2) := by
        rw [← toT_frame]; congr 1; simp [toT]
      have hF : (frameV (false :: (inp ++ st)) l2).length ≤ 1000 := by rw [frameV_len]; simp; omega
      have hlits : litsV a l1 l2 l3 l4 st inp (l1.map fun x => x.f0) = ((l1.map fun x => x.f0).map (valV (frameV (false :: (inp ++ st)) l2)), 0) := by
        unfold litsV
        rw [hall, if_pos rfl]
      have hnext : nextA a l1 l2 l3 l4 (toT st) (toT inp) = (toT ((l1.map fun x => x.f0).map (valV (frameV (false :: (inp ++ st)) l2))), 0) := by
        unfold nextA
        rw [if_pos ha, hfr]
        unfold nextS
        congr 1
        rw [List.map_map]
        unfold toT
        rw [List.map_map]
        apply List.map_congr_left
        intro x _
        exact toT_val _ _
      rw [if_neg (by decide), ofT_eq 4999 st (by omega) (by omega), Option.bind_some, ofT_eq 4999 inp (by omega) (by omega), Option.bind_some,
        tAll_eq 4999 a l1 l2 l3 l4 (toT st) (toT inp) hs hw (v0 st) (v0 inp) (by omega), Option.bind_some, vall_eq a l1 l2 l3 l4 st inp hs hw, Option.bind_some, Option.bind_some, Option.bind_some,
        tNext_eq 4999 a l1 l2 l3 l4 (toT st) (toT inp) hs hw (v0 st) (v0 inp) (by omega), Option.bind_some, vnext_eq a l1 l2 l3 l4 st inp hs hw, Option.bind_some, if_pos ha, hall, hfr, hlits, hnext]
      generalize hFF : frameV (false :: (inp ++ st)) l2 = F at hF ⊢
      dsimp only
      rw [if_pos rfl, if_pos rfl, if_pos rfl, if_pos rfl, ofT_eq 4999 F (by omega) (by omega), Option.bind_some, tsame_eq 4999 (toT F) _ (by rw [toT_len]; omega) (by rw [toT_len]; omega), Option.bind_some, if_pos (decide_eq_true rfl),
        ofT_eq 4999 _ (by simp; omega) (by simp; omega), Option.bind_some, tsame_eq 4999 (toT ((l1.map fun x => x.f0).map (valV F))) _ (by rw [toT_len]; simp; omega) (by rw [toT_len]; simp; omega), Option.bind_some, if_pos (decide_eq_true rfl), alTwo _ (by omega), Option.bind_some]
    · rw [show ((allV a l1 l2 l3 l4 st inp).2 != 0) = true from bne_iff_ne.mpr c3, out]


end Go.Proofs.Ytddelmbkbpoelaa.Pure
