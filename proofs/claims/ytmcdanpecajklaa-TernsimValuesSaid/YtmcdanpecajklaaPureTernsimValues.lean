/- In covered states each literal that is given has the latch's value, and all bad literals, constraints and next states of the reduced circuit have the values of those before; for every circuit that is not great, a state and inputs. -/
import Derived.Test.YtmcdanpecajklaaQTernsimValuesx17
namespace Go.Proofs.Ytmcdanpecajklaa.Pure
open Go.RowKit Go.Proofs.Ytmcdanpecajklaa.QTernsimValuesW Go.Proofs.Ytmcdanpecajklaa.QTernsimValues Go.Proofs.YtmcdanpecajklaaW.PrintWords Go.Proofs.YtmcdanpecajklaaW.PrintLast
set_option linter.unusedSimpArgs false
set_option linter.unusedVariables false
theorem w64 (n : Int) (h : -9223372036854775808 ≤ n) (h2 : n ≤ 9223372036854775807) : wrap64 n = n := by unfold wrap64; omega
theorem rd_at (l : List Int) (j : Nat) (h : j < l.length) : rd l (j : Int) = l[j] := by simp [rd, List.getD, h]
theorem wf_i64 {x : Int} (h : (Lit.int .i64 x).wf = true) : -9223372036854775808 ≤ x ∧ x ≤ 9223372036854775807 := by
  simp [Lit.wf, IntKind.min, IntKind.max, IntKind.signed, IntKind.bits] at h
  omega
theorem band1 (a : Int) (h0 : 0 ≤ a) (h1 : a < 9223372036854775807) : Go.bits .and .i64 a 1 = a % 2 := by
  have := bits_mask .i64 63 (by decide) (fun n h h' => by rw [IntKind.wrap_i64]; omega) 1 (by decide) a h0 (by omega)
  simpa using this
theorem xorNat (n : Nat) : n ^^^ 1 = if n % 2 = 0 then n + 1 else n - 1 := by
  have h1 : (n ^^^ 1) / 2 = n / 2 := by rw [Nat.xor_div_two]; simp
  have h2 : (n ^^^ 1) % 2 = (n + 1) % 2 := by
    have h := @Nat.xor_mod_two_eq_one n 1
    rcases Nat.mod_two_eq_zero_or_one n with e | e <;> rcases Nat.mod_two_eq_zero_or_one (n ^^^ 1) with e' | e' <;> simp [e, e'] at h <;> omega
  split <;> omega
theorem i64_nat (n : Nat) (h : n < 9223372036854775808) : IntKind.i64.wrap (n : Int) = n := by rw [IntKind.wrap_i64]; omega
theorem bxor1 (a : Int) (h0 : 0 ≤ a) (h1 : a < 9223372036854775807) : Go.bits .xor .i64 a 1 = if a % 2 = 0 then a + 1 else a - 1 := by
  obtain ⟨n, rfl⟩ := Int.eq_ofNat_of_zero_le h0
  have e : Go.bits .xor .i64 (n : Int) 1 = ((n ^^^ 1 : Nat) : Int) := by
    have hx : n ^^^ 1 < 9223372036854775808 := by rw [xorNat]; split <;> omega
    have hb : (1 : Int) = ((1 : Nat) : Int) := rfl
    rw [hb]
    have hc : ((BitVec.ofInt 64 (n : Int)) ^^^ (BitVec.ofInt 64 ((1 : Nat) : Int))).toNat = n ^^^ 1 := by
      rw [BitVec.ofInt_natCast, BitVec.ofInt_natCast, BitVec.toNat_xor, BitVec.toNat_ofNat, BitVec.toNat_ofNat, Nat.mod_eq_of_lt (by omega), Nat.mod_eq_of_lt (by omega)]
    have := i64_nat _ hx
    rw [← hc] at this ⊢
    exact this
  rw [e, xorNat]
  split <;> split <;> omega
-- for a print without the reference's Both and Other
def bothS (a b : Int) : Int := if a = 0 ∨ b = 0 then 0 else if a = 2 ∨ b = 2 then 2 else 1
def otherS (a : Int) : Int := if a = 2 then 2 else 1 - a
-- ref02: what the reference of layer 2 and gates.Check come to, for circuits that are not great
def litOut (n l : Int) : Bool := decide (l < 0) || decide (l / 2 > n)
def latBad (n : Int) (x : S36) : Bool := litOut n x.f0 || decide (x.f1 < 0) || decide (x.f1 > 2)
def gBad (m : Int) (i : Nat) (g : S69) : Bool := decide (g.f1 < 0) || decide (g.f0 < g.f1) || decide (g.f0 / 2 > m + i)
def gsBad (m : Int) (l : List S69) : Bool := (List.range l.length).any fun i => gBad m i (rd_T69 l i)
def szS (a : Int) (l1 : List S36) (l2 : List S69) : Int := a + l1.length + l2.length
def checkR (a : Int) (l1 : List S36) (l2 : List S69) (l3 l4 : List Int) : Int :=
  if a < 0 then 8 else if a > 1000 ∨ szS a l1 l2 > 1000 ∨ l3.length > 100 ∨ l4.length > 100 then 4
  else if l3.any (litOut (szS a l1 l2)) = true ∨ l4.any (litOut (szS a l1 l2)) = true ∨ l1.any (latBad (szS a l1 l2)) = true ∨ gsBad (a + l1.length) l2 = true then 8 else 0
structure Small (l1 : List S36) (l2 : List S69) (l3 l4 : List Int) : Prop where
  h1 : l1.length ≤ 60
  h2 : l2.length ≤ 130
  h3 : l3.length ≤ 110
  h4 : l4.length ≤ 110
structure Wf (a : Int) (l1 : List S36) (l2 : List S69) (l3 l4 : List Int) : Prop where
  w0 : -9223372036854775808 ≤ a ∧ a ≤ 9223372036854775807
  w1 : ∀ x ∈ l1, (-9223372036854775808 ≤ x.f0 ∧ x.f0 ≤ 9223372036854775807) ∧ (-9223372036854775808 ≤ x.f1 ∧ x.f1 ≤ 9223372036854775807)
  w2 : ∀ x ∈ l2, (-9223372036854775808 ≤ x.f0 ∧ x.f0 ≤ 9223372036854775807) ∧ (-9223372036854775808 ≤ x.f1 ∧ x.f1 ≤ 9223372036854775807)
  w3 : ∀ x ∈ l3, -9223372036854775808 ≤ x ∧ x ≤ 9223372036854775807
  w4 : ∀ x ∈ l4, -9223372036854775808 ≤ x ∧ x ≤ 9223372036854775807
theorem great_eq (a : Int) (l1 : List S36) (l2 : List S69) (l3 l4 : List Int) :
    ∃ b, spiritlevelref02_Great.f a l1 l2 l3 l4 = some b ∧ (b = false → Small l1 l2 l3 l4 ∧ (a ≤ 40 ∨ 996 ≤ a)) := by
  unfold spiritlevelref02_Great.f
  by_cases c1 : (l1.length : Int) > 60
  · exact ⟨true, by rw [if_pos c1], by simp⟩
  by_cases c2 : (l2.length : Int) > 120
  · exact ⟨true, by rw [if_neg c1, if_pos c2], by simp⟩
  by_cases c3 : (l3.length : Int) > 110
  · exact ⟨true, by rw [if_neg c1, if_neg c2, if_pos c3], by simp⟩
  by_cases c4 : (l4.length : Int) > 110
  · exact ⟨true, by rw [if_neg c1, if_neg c2, if_neg c3, if_pos c4], by simp⟩
  by_cases c5 : a > 40
  · exact ⟨decide (a < 996), by rw [if_neg c1, if_neg c2, if_neg c3, if_neg c4, if_pos c5], fun h => ⟨⟨by omega, by omega, by omega, by omega⟩, by simp at h; omega⟩⟩
  · exact ⟨false, by rw [if_neg c1, if_neg c2, if_neg c3, if_neg c4, if_neg c5], fun _ => ⟨⟨by omega, by omega, by omega, by omega⟩, by omega⟩⟩
theorem literals_l0 (l : List Int) (n : Int) (hw : ∀ x ∈ l, -9223372036854775808 ≤ x ∧ x ≤ 9223372036854775807) (hl : l.length ≤ 100000) (d : Nat) : ∀ (k j : Nat), j + d = l.length → d < k →
    spiritlevelref02_literals.l0 k l n (j : Int) = some (!(l.drop j).any (litOut n)) := by
  induction d with
  | zero =>
    intro k j hj hk
    obtain ⟨k, rfl⟩ : ∃ m, k = m + 1 := ⟨k - 1, by omega⟩
    simp only [spiritlevelref02_literals.l0]
    rw [if_neg (by omega), List.drop_of_length_le (by omega)]; rfl
  | succ d ih =>
    intro k j hj hk
    obtain ⟨k, rfl⟩ : ∃ m, k = m + 1 := ⟨k - 1, by omega⟩
    have hlt : j < l.length := by omega
    have hwj := hw l[j] (List.getElem_mem hlt)
    simp only [spiritlevelref02_literals.l0]
    rw [if_pos (by omega), if_pos (by omega), rd_at l j hlt, List.drop_eq_getElem_cons hlt, List.any_cons]
    by_cases c : l[j] < 0
    · rw [if_pos c]; simp [litOut, c]
    · rw [if_neg c, Int.tdiv_eq_ediv_of_nonneg (by omega), w64 _ (by omega) (by omega)]
      by_cases c2 : l[j] / 2 > n
      · rw [if_pos c2]; simp [litOut, c2]
      · rw [if_neg c2, w64 _ (by omega) (by omega), show ((j : Int) + 1) = ((j + 1 : Nat) : Int) by omega, ih k (j + 1) (by omega) (by omega)]
        have : litOut n l[j] = false := by simp [litOut]; omega
        rw [this]; simp
theorem literals_eq (k : Nat) (l : List Int) (n : Int) (hw : ∀ x ∈ l, -9223372036854775808 ≤ x ∧ x ≤ 9223372036854775807) (hl : l.length ≤ 100000) (hk : l.length < k) :
    spiritlevelref02_literals.f k l n = some (!l.any (litOut n)) := by
  have := literals_l0 l n hw hl l.length k 0 (by omega) hk
  simpa [spiritlevelref02_literals.f] using this
theorem rdL_at (l : List S36) (j : Nat) (h : j < l.length) : rd_T36 l (j : Int) = l[j] := by simp [rd_T36, List.getD, h]
theorem rdA_at (l : List S69) (j : Nat) (h : j < l.length) : rd_T69 l (j : Int) = l[j] := by simp [rd_T69, List.getD, h]
theorem check_l1 (a : Int) (l1 : List S36) (l2 : List S69) (l3 l4 : List Int) (hs : Small l1 l2 l3 l4) (hw : Wf a l1 l2 l3 l4) (h0 : 0 ≤ a) (h1 : a ≤ 1000) (d : Nat) : ∀ (k j : Nat), j + d = l2.length → d < k →
    spiritlevelref02_Check.l1 k (j : Int) a l1 l2 l3 l4 = some (if ((List.range' j d).any fun i => gBad (a + l1.length) i (rd_T69 l2 i)) = true then 8 else 0) := by
  have hs1 := hs.h1
  have hs2 := hs.h2
  induction d with
  | zero =>
    intro k j hj hk
    obtain ⟨k, rfl⟩ : ∃ m, k = m + 1 := ⟨k - 1, by omega⟩
    simp only [spiritlevelref02_Check.l1]
    rw [if_neg (by omega)]; rfl
  | succ d ih =>
    intro k j hj hk
    obtain ⟨k, rfl⟩ : ∃ m, k = m + 1 := ⟨k - 1, by omega⟩
    have hlt : j < l2.length := by omega
    have hwj := hw.w2 l2[j] (List.getElem_mem hlt)
    simp only [spiritlevelref02_Check.l1]
    rw [if_pos (by omega), if_pos (by omega), List.range'_succ, List.any_cons, rdA_at l2 j hlt]
    by_cases c : l2[j].f1 < 0
    · rw [if_pos c, if_pos (by simp [gBad, c])]
    rw [if_neg c]
    by_cases c2 : l2[j].f0 < l2[j].f1
    · rw [if_pos c2, if_pos (by simp [gBad, c2])]
    rw [if_neg c2, Int.tdiv_eq_ediv_of_nonneg (by omega), w64 (l2[j].f0 / 2) (by omega) (by omega), w64 (a + l1.length) (by omega) (by omega), w64 (a + l1.length + j) (by omega) (by omega)]
    by_cases c3 : l2[j].f0 / 2 > a + l1.length + j
    · rw [if_pos c3, if_pos (by simp [gBad, c3])]
    rw [if_neg c3, w64 _ (by omega) (by omega), show ((j : Int) + 1) = ((j + 1 : Nat) : Int) by omega, ih k (j + 1) (by omega) (by omega)]
    have : gBad (a + l1.length) j l2[j] = false := by simp [gBad]; omega
    rw [this]; rfl
theorem check_l0 (a n : Int) (l1 : List S36) (l2 : List S69) (l3 l4 : List Int) (hs : Small l1 l2 l3 l4) (hw : Wf a l1 l2 l3 l4) (h0 : 0 ≤ a) (h1 : a ≤ 1000) (d : Nat) : ∀ (k j : Nat), j + d = l1.length → d + l2.length + 5 < k →
    spiritlevelref02_Check.l0 k n (j : Int) a l1 l2 l3 l4 = some (if (l1.drop j).any (latBad n) = true ∨ gsBad (a + l1.length) l2 = true then 8 else 0) := by
  have hs1 := hs.h1
  have hs2 := hs.h2
  induction d with
  | zero =>
    intro k j hj hk
    obtain ⟨k, rfl⟩ : ∃ m, k = m + 1 := ⟨k - 1, by omega⟩
    simp only [spiritlevelref02_Check.l0]
    rw [if_neg (by omega), List.drop_of_length_le (by omega), show (0 : Int) = ((0 : Nat) : Int) from rfl, check_l1 a l1 l2 l3 l4 hs hw h0 h1 l2.length k 0 (by omega) (by omega)]
    simp [gsBad, List.range_eq_range']
  | succ d ih =>
    intro k j hj hk
    obtain ⟨k, rfl⟩ : ∃ m, k = m + 1 := ⟨k - 1, by omega⟩
    have hlt : j < l1.length := by omega
    have hwj := hw.w1 l1[j] (List.getElem_mem hlt)
    simp only [spiritlevelref02_Check.l0]
    rw [if_pos (by omega), if_pos (by omega), List.drop_eq_getElem_cons hlt, List.any_cons, rdL_at l1 j hlt, literals_eq k _ n (by simp; exact hwj.1) (by simp) (by simp; omega)]
    simp only [Option.bind_some, List.any_cons, List.any_nil, Bool.or_false]
    by_cases c : litOut n l1[j].f0 = true
    · rw [if_neg (by simp [c]), if_pos (by simp [latBad, c])]
    rw [if_pos (by simp [c])]
    by_cases c2 : l1[j].f1 < 0
    · rw [if_pos c2, if_pos (by simp [latBad, c2])]
    rw [if_neg c2]
    by_cases c3 : l1[j].f1 > 2
    · rw [if_pos c3, if_pos (by simp [latBad, c3])]
    rw [if_neg c3, w64 _ (by omega) (by omega), show ((j : Int) + 1) = ((j + 1 : Nat) : Int) by omega, ih k (j + 1) (by omega) (by omega)]
    have : latBad n l1[j] = false := by simp [latBad, c]; omega
    simp [this]
theorem size_eq (a : Int) (l1 : List S36) (l2 : List S69) (l3 l4 : List Int) (hs : Small l1 l2 l3 l4) (h0 : 0 ≤ a) (h1 : a ≤ 1000) : spiritlevelref02_Size.f a l1 l2 l3 l4 = some (szS a l1 l2) := by
  have hs1 := hs.h1
  have hs2 := hs.h2
  unfold spiritlevelref02_Size.f szS
  rw [w64 (a + l1.length) (by omega) (by omega), w64 _ (by omega) (by omega)]
theorem rcheck_eq (k : Nat) (a : Int) (l1 : List S36) (l2 : List S69) (l3 l4 : List Int) (hs : Small l1 l2 l3 l4) (hw : Wf a l1 l2 l3 l4) (hk : 300 ≤ k) :
    spiritlevelref02_Check.f k a l1 l2 l3 l4 = some (checkR a l1 l2 l3 l4) := by
  have hs1 := hs.h1
  have hs2 := hs.h2
  have hs3 := hs.h3
  have hs4 := hs.h4
  obtain ⟨k, rfl⟩ : ∃ m, k = m + 3 := ⟨k - 3, by omega⟩
  unfold spiritlevelref02_Check.f checkR
  by_cases c0 : a < 0
  · rw [if_pos c0, if_pos c0]
  rw [if_neg c0, if_neg c0]
  have j0 : spiritlevelref02_Check.j0 (k + 3) true a l1 l2 l3 l4 = some 4 := by simp [spiritlevelref02_Check.j0]
  by_cases c1 : a > 1000
  · rw [if_pos c1, if_pos (Or.inl c1), j0]
  rw [if_neg c1, size_eq a l1 l2 l3 l4 hs (by omega) (by omega)]
  simp only [Option.bind_some]
  by_cases c2 : szS a l1 l2 > 1000
  · rw [if_pos c2, if_pos (Or.inr (Or.inl c2)), j0]
  rw [if_neg c2]
  by_cases c3 : (l3.length : Int) > 100
  · rw [if_pos c3, if_pos (by omega), j0]
  rw [if_neg c3]
  by_cases c4 : (l4.length : Int) > 100
  · rw [decide_eq_true c4, if_pos (by omega), j0]
  rw [decide_eq_false c4, if_neg (by omega)]
  simp only [spiritlevelref02_Check.j0]
  rw [if_neg (by decide), size_eq a l1 l2 l3 l4 hs (by omega) (by omega)]
  simp only [Option.bind_some]
  rw [literals_eq _ l3 _ hw.w3 (by omega) (by omega)]
  simp only [Option.bind_some]
  by_cases d3 : l3.any (litOut (szS a l1 l2)) = true
  · rw [if_neg (by simp [d3]), if_pos (Or.inl d3)]; simp [spiritlevelref02_Check.j1]
  rw [if_pos (by simp [d3]), literals_eq _ l4 _ hw.w4 (by omega) (by omega)]
  simp only [Option.bind_some]
  by_cases d4 : l4.any (litOut (szS a l1 l2)) = true
  · rw [if_pos (Or.inr (Or.inl d4)), d4]; simp [spiritlevelref02_Check.j1]
  have d4' : l4.any (litOut (szS a l1 l2)) = false := by simpa using d4
  rw [d4']
  simp only [spiritlevelref02_Check.j1, Bool.not_false, Bool.not_true]
  rw [if_neg (by decide), show (0 : Int) = ((0 : Nat) : Int) from rfl, check_l0 a _ l1 l2 l3 l4 hs hw (by omega) (by omega) l1.length _ 0 (by omega) (by omega)]
  simp [d3]
theorem gcheck_eq (a : Int) (l1 : List S36) (l2 : List S69) (l3 l4 : List Int) (hs : Small l1 l2 l3 l4) (hw : Wf a l1 l2 l3 l4) :
    gates_Check.f a l1 l2 l3 l4 = some (checkR a l1 l2 l3 l4) := by
  have hs1 := hs.h1
  have hs2 := hs.h2
  unfold gates_Check.f checkR
  congr 1
  by_cases c0 : a < 0
  · rw [if_pos c0, if_pos c0]
  rw [if_neg c0, if_neg c0]
  by_cases c1 : a > 1000
  · rw [if_pos c1, if_pos (Or.inl c1)]
  have e3 : st3 a l1.length l2.length = szS a l1 l2 + 1 := by
    unfold st3 st2 st1 szS
    rw [w64 (1 + a) (by omega) (by omega), w64 (1 + a + l1.length) (by omega) (by omega), w64 _ (by omega) (by omega)]
    omega
  have e2 : st2 a l1.length = a + l1.length + 1 := by
    unfold st2 st1
    rw [w64 (1 + a) (by omega) (by omega), w64 _ (by omega) (by omega)]
    omega
  have hz : 0 ≤ szS a l1 l2 ∧ szS a l1 l2 ≤ 1190 := by unfold szS; omega
  rw [if_neg c1, e3, w64 (szS a l1 l2 + 1 - 1) (by omega) (by omega), Int.add_sub_cancel]
  by_cases c2 : szS a l1 l2 > 1000
  · rw [if_pos c2, if_pos (Or.inr (Or.inl c2))]
  rw [if_neg c2]
  by_cases c3 : l3.length > 100 ∨ l4.length > 100
  · rw [if_pos (show (if (l3.length : Int) < (l4.length : Int) then (l4.length : Int) else (l3.length : Int)) > 100 by split <;> omega), if_pos (show a > 1000 ∨ szS a l1 l2 > 1000 ∨ l3.length > 100 ∨ l4.length > 100 by omega)]
  rw [if_neg (show ¬ (if (l3.length : Int) < (l4.length : Int) then (l4.length : Int) else (l3.length : Int)) > 100 by split <;> omega), if_neg (show ¬ (a > 1000 ∨ szS a l1 l2 > 1000 ∨ l3.length > 100 ∨ l4.length > 100) by omega)]
  have o : outS (szS a l1 l2 + 1) = litOut (szS a l1 l2) := by
    funext l
    unfold outS litOut
    congr 1
  have o2 : wrongS (szS a l1 l2 + 1) = latBad (szS a l1 l2) := by
    funext x
    unfold wrongS latBad
    rw [o]
  have o3 : gatesBad (st2 a l1.length) l2 = gsBad (a + l1.length) l2 := by
    unfold gatesBad gsBad
    rw [Bool.eq_iff_iff, List.any_eq_true, List.any_eq_true]
    have hp : ∀ i ∈ List.range l2.length, gateBad (st2 a l1.length) i (rd_T69 l2 i) = gBad (a + l1.length) i (rd_T69 l2 i) := by
      intro i hi
      rw [List.mem_range] at hi
      unfold gateBad gBad
      rw [e2, w64 (a + l1.length + 1 + i) (by omega) (by omega), w64 _ (by omega) (by omega)]
      congr 1
      exact decide_eq_decide.2 (by omega)
    constructor
    · rintro ⟨i, hi, h⟩; exact ⟨i, hi, by rw [← hp i hi]; exact h⟩
    · rintro ⟨i, hi, h⟩; exact ⟨i, hi, by rw [hp i hi]; exact h⟩
  rw [o, o2, o3]
  by_cases d3 : l3.any (litOut (szS a l1 l2)) = true
  · rw [if_pos d3, if_pos (Or.inl d3)]
  rw [if_neg d3]
  by_cases d4 : l4.any (litOut (szS a l1 l2)) = true
  · rw [if_pos d4, if_pos (Or.inr (Or.inl d4))]
  rw [if_neg d4]
  by_cases d5 : l1.any (latBad (szS a l1 l2)) = true
  · rw [if_pos d5, if_pos (Or.inr (Or.inr (Or.inl d5)))]
  rw [if_neg d5]
  by_cases d6 : gsBad (a + l1.length) l2 = true
  · rw [if_pos d6, if_pos (Or.inr (Or.inr (Or.inr d6)))]
  · rw [if_neg d6, if_neg (by simp [d3, d4, d5, d6])]
-- ref02's comparisons of equal circuits
theorem checkR_ok (a : Int) (l1 : List S36) (l2 : List S69) (l3 l4 : List Int) (h : checkR a l1 l2 l3 l4 = 0) : 0 ≤ a ∧ a ≤ 1000 ∧ szS a l1 l2 ≤ 1000 := by
  unfold checkR at h
  by_cases c0 : a < 0
  · rw [if_pos c0] at h; omega
  rw [if_neg c0] at h
  by_cases c1 : a > 1000 ∨ szS a l1 l2 > 1000 ∨ l3.length > 100 ∨ l4.length > 100
  · rw [if_pos c1] at h; omega
  · omega
theorem gvars_eq (a : Int) (l1 : List S36) (l2 : List S69) (l3 l4 : List Int) (hs : Small l1 l2 l3 l4) (hw : Wf a l1 l2 l3 l4) :
    gates_Vars.f a l1 l2 l3 l4 = some (if checkR a l1 l2 l3 l4 = 0 then (szS a l1 l2, 0) else (0, checkR a l1 l2 l3 l4)) := by
  have hs1 := hs.h1
  have hs2 := hs.h2
  unfold gates_Vars.f
  rw [gcheck_eq a l1 l2 l3 l4 hs hw]
  simp only [Option.bind_some]
  by_cases h : checkR a l1 l2 l3 l4 = 0
  · obtain ⟨h0, h1, h2⟩ := checkR_ok _ _ _ _ _ h
    unfold szS at h2
    rw [if_pos h, if_pos h]
    unfold st3 st2 st1 szS
    rw [w64 (1 + a) (by omega) (by omega), w64 (1 + a + l1.length) (by omega) (by omega), w64 (1 + a + l1.length + l2.length) (by omega) (by omega), w64 _ (by omega) (by omega)]
    congr 2; omega
  · rw [if_neg h, if_neg h]
-- a valid circuit
def Gates (base : Nat) (gs : List S69) : Prop := ∀ (i : Nat) (h : i < gs.length), 0 ≤ gs[i].f1 ∧ gs[i].f1 ≤ gs[i].f0 ∧ gs[i].f0 / 2 < (base + i : Nat)
structure Good (a : Int) (l1 : List S36) (l2 : List S69) (l3 l4 : List Int) : Prop where
  a0 : 0 ≤ a
  a1 : a ≤ 1000
  n : szS a l1 l2 ≤ 1000
  g : Gates (1 + a.toNat + l1.length) l2
  l : ∀ x ∈ l1, (0 ≤ x.f0 ∧ x.f0 / 2 ≤ szS a l1 l2) ∧ (0 ≤ x.f1 ∧ x.f1 ≤ 2)
  b : ∀ x ∈ l3, 0 ≤ x ∧ x / 2 ≤ szS a l1 l2
  c : ∀ x ∈ l4, 0 ≤ x ∧ x / 2 ≤ szS a l1 l2
theorem litOut_in {n l : Int} (h : litOut n l = false) : 0 ≤ l ∧ l / 2 ≤ n := by
  simp only [litOut, Bool.or_eq_false_iff, decide_eq_false_iff_not] at h
  omega
theorem good_of (a : Int) (l1 : List S36) (l2 : List S69) (l3 l4 : List Int) (h : checkR a l1 l2 l3 l4 = 0) : Good a l1 l2 l3 l4 := by
  unfold checkR at h
  by_cases c0 : a < 0
  · rw [if_pos c0] at h; omega
  rw [if_neg c0] at h
  by_cases c1 : a > 1000 ∨ szS a l1 l2 > 1000 ∨ l3.length > 100 ∨ l4.length > 100
  · rw [if_pos c1] at h; omega
  rw [if_neg c1] at h
  by_cases c2 : l3.any (litOut (szS a l1 l2)) = true ∨ l4.any (litOut (szS a l1 l2)) = true ∨ l1.any (latBad (szS a l1 l2)) = true ∨ gsBad (a + l1.length) l2 = true
  · rw [if_pos c2] at h; omega
  have d3 : l3.any (litOut (szS a l1 l2)) = false := by
    cases e : l3.any (litOut (szS a l1 l2)) with
    | false => rfl
    | true => exact absurd (Or.inl e) c2
  have d4 : l4.any (litOut (szS a l1 l2)) = false := by
    cases e : l4.any (litOut (szS a l1 l2)) with
    | false => rfl
    | true => exact absurd (Or.inr (Or.inl e)) c2
  have d1 : l1.any (latBad (szS a l1 l2)) = false := by
    cases e : l1.any (latBad (szS a l1 l2)) with
    | false => rfl
    | true => exact absurd (Or.inr (Or.inr (Or.inl e))) c2
  have d2 : gsBad (a + l1.length) l2 = false := by
    cases e : gsBad (a + l1.length) l2 with
    | false => rfl
    | true => exact absurd (Or.inr (Or.inr (Or.inr e))) c2
  refine ⟨by omega, by omega, by omega, ?_, ?_, ?_, ?_⟩
  · intro i hi
    have := List.any_eq_false.1 d2 i (List.mem_range.2 hi)
    rw [rdA_at l2 i hi] at this
    simp [gBad] at this
    omega
  · intro x hx
    have := List.any_eq_false.1 d1 x hx
    simp only [latBad, Bool.not_eq_true, Bool.or_eq_false_iff, decide_eq_false_iff_not] at this
    exact ⟨litOut_in this.1.1, by omega⟩
  · intro x hx
    exact litOut_in (by simpa using List.any_eq_false.1 d3 x hx)
  · intro x hx
    exact litOut_in (by simpa using List.any_eq_false.1 d4 x hx)
theorem check_of (a : Int) (l1 : List S36) (l2 : List S69) (l3 l4 : List Int) (h : Good a l1 l2 l3 l4) (h3 : l3.length ≤ 100) (h4 : l4.length ≤ 100) : checkR a l1 l2 l3 l4 = 0 := by
  have ha0 := h.a0
  have ha1 := h.a1
  have hn := h.n
  unfold checkR
  rw [if_neg (by omega), if_neg (by omega), if_neg]
  rintro (c | c | c | c)
  · obtain ⟨x, hx, hb⟩ := List.any_eq_true.1 c
    have := h.b x hx
    simp [litOut] at hb
    omega
  · obtain ⟨x, hx, hb⟩ := List.any_eq_true.1 c
    have := h.c x hx
    simp [litOut] at hb
    omega
  · obtain ⟨x, hx, hb⟩ := List.any_eq_true.1 c
    have := h.l x hx
    simp [latBad, litOut] at hb
    omega
  · obtain ⟨i, hi, hb⟩ := List.any_eq_true.1 c
    have hi := List.mem_range.1 hi
    have := h.g i hi
    rw [rdA_at l2 i hi] at hb
    simp [gBad] at hb
    omega
-- two-valued frames
def valV (l : List Bool) (x : Int) : Bool := (rdOf false l (x / 2)) != decide (x % 2 = 1)
def frameV : List Bool → List S69 → List Bool
  | acc, [] => acc
  | acc, g :: gs => frameV (acc ++ [valV acc g.f0 && valV acc g.f1]) gs
theorem frameV_len : ∀ (gs : List S69) (acc : List Bool), (frameV acc gs).length = acc.length + gs.length
  | [], acc => rfl
  | g :: gs, acc => by rw [frameV, frameV_len gs]; simp; omega
theorem frameV_snoc : ∀ (gs : List S69) (acc : List Bool) (g : S69), frameV acc (gs ++ [g]) = frameV acc gs ++ [valV (frameV acc gs) g.f0 && valV (frameV acc gs) g.f1]
  | [], acc, g => rfl
  | x :: gs, acc, g => by rw [List.cons_append, frameV, frameV_snoc gs]; rfl
theorem vof_eq (l : List Bool) (x : Int) (h0 : 0 ≤ x) (h1 : x / 2 < l.length) (h2 : l.length ≤ 100000) : values_of.f l x = some (valV l x) := by
  unfold values_of.f valV
  rw [if_pos (by omega), if_pos h1, band1 x h0 (by omega)]
  congr 2
theorem valV_app (l m : List Bool) (x : Int) (h0 : 0 ≤ x) (h1 : x / 2 < l.length) : valV (l ++ m) x = valV l x := by
  unfold valV rdOf
  have : (x / 2).toNat < l.length := by omega
  simp [List.getD, List.getElem?_append_left this]
theorem gatesV_eq : ∀ (gs : List S69) (acc : List Bool), Gates acc.length gs → acc.length + gs.length ≤ 100000 → gatesV (acc ++ List.replicate gs.length false) acc.length gs = some (frameV acc gs)
  | [], acc, _, _ => by simp [gatesV, frameV]
  | g :: gs, acc, hg, hb => by
    have h0 := hg 0 (by simp)
    simp only [List.getElem_cons_zero, Nat.add_zero] at h0
    have hl : (acc ++ List.replicate (g :: gs).length false).length = acc.length + (gs.length + 1) := by simp
    simp only [List.length_cons] at hb
    simp only [gatesV, frameV]
    rw [vof_eq _ g.f0 (by omega) (by rw [hl]; omega) (by rw [hl]; omega), vof_eq _ g.f1 (by omega) (by rw [hl]; omega) (by rw [hl]; omega), valV_app acc _ _ (by omega) (by omega), valV_app acc _ _ (by omega) (by omega)]
    simp only [Option.bind_some]
    have e : (if valV acc g.f0 = true then some (valV acc g.f1) else some false) = some (valV acc g.f0 && valV acc g.f1) := by cases valV acc g.f0 <;> simp
    rw [e]
    simp only [Option.bind_some]
    have hg' : Gates (acc ++ [valV acc g.f0 && valV acc g.f1]).length gs := fun i hi => by
      have := hg (i + 1) (by simpa using hi)
      simp only [List.getElem_cons_succ] at this
      exact ⟨this.1, this.2.1, by simp; omega⟩
    have ih := gatesV_eq gs (acc ++ [valV acc g.f0 && valV acc g.f1]) hg' (by simp; omega)
    have e2 : (acc ++ List.replicate (g :: gs).length false).set acc.length (valV acc g.f0 && valV acc g.f1) = (acc ++ [valV acc g.f0 && valV acc g.f1]) ++ List.replicate gs.length false := by
      rw [List.set_append, if_neg (by omega), Nat.sub_self, List.length_cons, List.replicate_succ, List.set_cons_zero, List.append_assoc]
      rfl
    rw [e2, ← ih]
    simp
def allV (a : Int) (l1 : List S36) (l2 : List S69) (l3 l4 : List Int) (st inp : List Bool) : List Bool × Int :=
  if checkR a l1 l2 l3 l4 = 0 then (if st.length = l1.length ∧ (inp.length : Int) = a then (frameV (false :: (inp ++ st)) l2, 0) else ([], 2)) else ([], checkR a l1 l2 l3 l4)
theorem vall_eq (a : Int) (l1 : List S36) (l2 : List S69) (l3 l4 : List Int) (st inp : List Bool) (hs : Small l1 l2 l3 l4) (hw : Wf a l1 l2 l3 l4) :
    values_All.f a l1 l2 l3 l4 st inp = some (allV a l1 l2 l3 l4 st inp) := by
  unfold values_All.f allV
  rw [gvars_eq a l1 l2 l3 l4 hs hw]
  simp only [Option.bind_some]
  by_cases c : checkR a l1 l2 l3 l4 = 0
  · rw [if_pos c, if_pos c]
    simp only [if_true]
    by_cases d : st.length = l1.length ∧ (inp.length : Int) = a
    · have hg := good_of a l1 l2 l3 l4 c
      have ha0 := hg.a0
      have ha1 := hg.a1
      have hn := hg.n
      rw [if_pos d, if_pos d, if_pos (by unfold szS at hn ⊢; constructor <;> omega)]
      have h1 : (false :: (inp ++ st)).length = 1 + a.toNat + l1.length := by simp; omega
      have := gatesV_eq l2 (false :: (inp ++ st)) (by rw [h1]; exact hg.g) (by rw [h1]; unfold szS at hn; omega)
      have e1 : (false :: (inp ++ (st ++ List.replicate l2.length false))) = (false :: (inp ++ st)) ++ List.replicate l2.length false := by simp
      rw [e1, show 1 + inp.length + st.length = (false :: (inp ++ st)).length by simp; omega, this]
      rfl
    · rw [if_neg d, if_neg d]
  · rw [if_neg c, if_neg c, if_neg c]
theorem vsame_l0 (a b : List Bool) (hab : a.length = b.length) (hl : a.length ≤ 100000) (d : Nat) : ∀ (k j : Nat), j + d = a.length → d < k →
    spiritlevelref04_Same.l0 k a b (j : Int) = some (decide (a.drop j = b.drop j)) := by
  induction d with
  | zero =>
    intro k j hj hk
    obtain ⟨k, rfl⟩ : ∃ m, k = m + 1 := ⟨k - 1, by omega⟩
    simp only [spiritlevelref04_Same.l0]
    rw [if_neg (by omega), List.drop_of_length_le (by omega), List.drop_of_length_le (by omega)]; rfl
  | succ d ih =>
    intro k j hj hk
    obtain ⟨k, rfl⟩ : ∃ m, k = m + 1 := ⟨k - 1, by omega⟩
    have h1 : j < a.length := by omega
    have h2 : j < b.length := by omega
    have ra : rdOf false a (j : Int) = a[j] := by simp [rdOf, List.getD, h1]
    have rb : rdOf false b (j : Int) = b[j] := by simp [rdOf, List.getD, h2]
    simp only [spiritlevelref04_Same.l0]
    rw [if_pos (by omega), if_pos (by omega), if_pos (show (j : Int) < (b.length : Int) by omega), ra, rb, List.drop_eq_getElem_cons (l := a) h1, List.drop_eq_getElem_cons (l := b) h2, w64 ((j : Int) + 1) (by omega) (by omega), show ((j : Int) + 1) = ((j + 1 : Nat) : Int) by omega, ih k (j + 1) (by omega) (by omega)]
    by_cases c : a[j] = b[j]
    · rw [if_neg (by simp [c]), c]
      simp only [List.cons.injEq, true_and]
    · rw [if_pos (by simp [c])]
      have : ¬ (a[j] :: List.drop (j + 1) a = b[j] :: List.drop (j + 1) b) := fun h => c (List.cons.inj h).1
      rw [decide_eq_false this]
theorem vsame_eq (k : Nat) (a b : List Bool) (hl : a.length ≤ 100000) (hk : a.length < k) : spiritlevelref04_Same.f k a b = some (decide (a = b)) := by
  unfold spiritlevelref04_Same.f
  by_cases c : a.length = b.length
  · rw [if_pos (by omega)]
    have := vsame_l0 a b c hl a.length k 0 (by omega) hk
    simpa using this
  · rw [if_neg (by omega)]
    have : a ≠ b := fun h => c (by rw [h])
    simp [this]
theorem vasked_eq (k : Nat) (a : Int) (l1 : List S36) (l2 : List S69) (l3 l4 : List Int) (st inp : List Bool) (hs : Small l1 l2 l3 l4) (hw : Wf a l1 l2 l3 l4) (hk : 300 ≤ k) :
    spiritlevelref04_Asked.f k a l1 l2 l3 l4 st inp = some (allV a l1 l2 l3 l4 st inp).2 := by
  unfold spiritlevelref04_Asked.f allV
  rw [rcheck_eq k a l1 l2 l3 l4 hs hw hk]
  simp only [Option.bind_some]
  by_cases c : checkR a l1 l2 l3 l4 = 0
  · rw [if_pos c, if_pos c]
    by_cases c1 : st.length = l1.length
    · rw [if_pos (by omega)]
      by_cases c2 : (inp.length : Int) = a
      · rw [if_pos c2, if_pos ⟨c1, c2⟩]
      · rw [if_neg c2, if_neg (fun h => c2 h.2)]
    · rw [if_neg (by omega), if_neg (fun h => c1 h.1)]
  · rw [if_neg c, if_neg c]
theorem allV_ok {a : Int} {l1 : List S36} {l2 : List S69} {l3 l4 : List Int} {st inp : List Bool} (h : (allV a l1 l2 l3 l4 st inp).2 = 0) :
    checkR a l1 l2 l3 l4 = 0 ∧ st.length = l1.length ∧ (inp.length : Int) = a ∧ allV a l1 l2 l3 l4 st inp = (frameV (false :: (inp ++ st)) l2, 0) := by
  unfold allV at h ⊢
  by_cases c : checkR a l1 l2 l3 l4 = 0
  · rw [if_pos c] at h ⊢
    by_cases d : st.length = l1.length ∧ (inp.length : Int) = a
    · rw [if_pos d] at h ⊢; exact ⟨c, d.1, d.2, rfl⟩
    · rw [if_neg d] at h; simp at h
  · rw [if_neg c] at h; exact absurd h c
theorem vframe_len {a : Int} {l1 : List S36} {l2 : List S69} {st inp : List Bool} (h1 : st.length = l1.length) (h2 : (inp.length : Int) = a) : ((frameV (false :: (inp ++ st)) l2).length : Int) = 1 + szS a l1 l2 := by
  rw [frameV_len]; unfold szS; simp; omega
theorem rval_eq (l : List Bool) (x : Int) (h0 : 0 ≤ x) (h1 : x / 2 < l.length) (h2 : l.length ≤ 100000) : spiritlevelref04_Value.f l x = some (valV l x) := by
  unfold spiritlevelref04_Value.f valV
  rw [Int.tdiv_eq_ediv_of_nonneg h0, w64 (x / 2) (by omega) (by omega), if_pos (by omega), if_pos h1, Int.tmod_eq_emod_of_nonneg h0]
  rfl
theorem listV_eq (fr : List Bool) (hf : fr.length ≤ 100000) : ∀ (ls : List Int), (∀ x ∈ ls, 0 ≤ x ∧ x / 2 < fr.length) → listV fr ls = some (ls.map (valV fr))
  | [], _ => rfl
  | x :: l, h => by
    obtain ⟨h0, h1⟩ := h x (by simp)
    rw [listV, vof_eq fr x h0 h1 hf, Option.bind_some, listV_eq fr hf l (fun y hy => h y (by simp [hy]))]
    rfl
def litsV (a : Int) (l1 : List S36) (l2 : List S69) (l3 l4 : List Int) (st inp : List Bool) (ls : List Int) : List Bool × Int :=
  if (allV a l1 l2 l3 l4 st inp).2 = 0 then (ls.map (valV (allV a l1 l2 l3 l4 st inp).1), 0) else ([], (allV a l1 l2 l3 l4 st inp).2)
theorem listF_eq (a : Int) (l1 : List S36) (l2 : List S69) (l3 l4 : List Int) (st inp : List Bool) (ls : List Int) (hs : Small l1 l2 l3 l4) (hw : Wf a l1 l2 l3 l4) (hl : checkR a l1 l2 l3 l4 = 0 → ∀ x ∈ ls, 0 ≤ x ∧ x / 2 ≤ szS a l1 l2) :
    listF a l1 l2 l3 l4 st inp ls = some (litsV a l1 l2 l3 l4 st inp ls) := by
  unfold listF litsV
  rw [vall_eq a l1 l2 l3 l4 st inp hs hw, Option.bind_some]
  by_cases c : (allV a l1 l2 l3 l4 st inp).2 = 0
  · obtain ⟨c0, e1, e2, e⟩ := allV_ok c
    have hg := good_of a l1 l2 l3 l4 c0
    have hn := hg.n
    have hlen := vframe_len (l2 := l2) e1 e2
    rw [if_pos c, if_pos c, e]
    dsimp only
    rw [listV_eq _ (by omega) ls (fun x hx => by have := hl c0 x hx; omega), Option.bind_some]
  · rw [if_neg c, if_neg c]
theorem vnext_eq (a : Int) (l1 : List S36) (l2 : List S69) (l3 l4 : List Int) (st inp : List Bool) (hs : Small l1 l2 l3 l4) (hw : Wf a l1 l2 l3 l4) :
    values_Next.f a l1 l2 l3 l4 st inp = some (litsV a l1 l2 l3 l4 st inp (l1.map fun x => x.f0)) := by
  have := hs.h1
  unfold values_Next.f
  rw [if_pos (by omega), listF_eq a l1 l2 l3 l4 st inp _ hs hw]
  intro c0 x hx
  obtain ⟨y, hy, rfl⟩ := List.mem_map.1 hx
  exact ((good_of a l1 l2 l3 l4 c0).l y hy).1
def propsV (a : Int) (l1 : List S36) (l2 : List S69) (l3 l4 : List Int) (st inp : List Bool) : Bool × List Bool × Int :=
  if (allV a l1 l2 l3 l4 st inp).2 = 0 then (!(l4.any fun x => !(valV (allV a l1 l2 l3 l4 st inp).1 x)), l3.map (valV (allV a l1 l2 l3 l4 st inp).1), 0) else (false, [], (allV a l1 l2 l3 l4 st inp).2)
theorem vprops_eq (a : Int) (l1 : List S36) (l2 : List S69) (l3 l4 : List Int) (st inp : List Bool) (hs : Small l1 l2 l3 l4) (hw : Wf a l1 l2 l3 l4) :
    values_Props.f a l1 l2 l3 l4 st inp = some (propsV a l1 l2 l3 l4 st inp) := by
  have h3 := hs.h3
  have h4 := hs.h4
  unfold values_Props.f
  rw [if_pos ⟨by omega, by omega⟩, listF_eq a l1 l2 l3 l4 st inp l3 hs hw (fun c0 => (good_of a l1 l2 l3 l4 c0).b), Option.bind_some, listF_eq a l1 l2 l3 l4 st inp l4 hs hw (fun c0 => (good_of a l1 l2 l3 l4 c0).c)]
  unfold litsV propsV
  by_cases c : (allV a l1 l2 l3 l4 st inp).2 = 0
  · rw [if_pos c, if_pos c, if_pos c]
    dsimp only
    rw [if_pos rfl, Option.bind_some, List.any_map]
    rfl
  · rw [if_neg c, if_neg c]
    dsimp only
    first | rfl | rw [if_neg c]
theorem xor_u8 (a : Int) (h0 : 0 ≤ a) (h1 : a ≤ 255) : Go.bits .xor .u8 a 1 = if a % 2 = 0 then a + 1 else a - 1 := by
  have key : ∀ n : Fin 256, Go.bits .xor .u8 ((n.val : Nat) : Int) 1 = if ((n.val : Nat) : Int) % 2 = 0 then ((n.val : Nat) : Int) + 1 else ((n.val : Nat) : Int) - 1 := by decide +kernel
  obtain ⟨n, rfl⟩ := Int.eq_ofNat_of_zero_le h0
  exact key ⟨n, by omega⟩
def coverS : List Int → List Int → Bool
  | x :: l, y :: m => (x == 2 || x == y) && coverS l m
  | _, _ => true
theorem covers_l0 (a b : List Int) (hab : a.length = b.length) (hl : a.length ≤ 100000) (d : Nat) : ∀ (k j : Nat), j + d = a.length → d < k →
    ternary_Covers.l0 k b a (a.length : Int) (j : Int) = some (coverS (a.drop j) (b.drop j), 0) := by
  induction d with
  | zero =>
    intro k j hj hk
    obtain ⟨k, rfl⟩ : ∃ m, k = m + 1 := ⟨k - 1, by omega⟩
    simp only [ternary_Covers.l0]
    rw [if_neg (by omega), List.drop_of_length_le (by omega)]; rfl
  | succ d ih =>
    intro k j hj hk
    obtain ⟨k, rfl⟩ : ∃ m, k = m + 1 := ⟨k - 1, by omega⟩
    have h1 : j < a.length := by omega
    have h2 : j < b.length := by omega
    simp only [ternary_Covers.l0]
    rw [if_pos (by omega), if_pos (by omega), if_pos (by omega), if_pos (show (j : Int) < (b.length : Int) by omega), rd_at a j h1, rd_at b j h2, List.drop_eq_getElem_cons h1, List.drop_eq_getElem_cons h2, w64 ((j : Int) + 1) (by omega) (by omega), show ((j : Int) + 1) = ((j + 1 : Nat) : Int) by omega, ih k (j + 1) (by omega) (by omega)]
    simp only [coverS]
    by_cases c : a[j] = 2
    · rw [if_pos c]; simp [c]
    rw [if_neg c]
    by_cases c2 : a[j] = b[j]
    · rw [if_pos c2]; simp [c2]
    · rw [if_neg c2]; simp [c, c2]
theorem any_te (l : List Int) : l.any teOut = !l.all (fun x => decide (x ≤ 2)) := by
  induction l with
  | nil => rfl
  | cons x l ih =>
    rw [List.any_cons, List.all_cons, ih]
    unfold teOut
    by_cases h : x ≤ 2
    · simp [h, show ¬ 2 < x by omega]
    · simp [h, show 2 < x by omega]
theorem covers_eq (k : Nat) (a b : List Int) (hl : a.length ≤ 100000) (hk : a.length < k) :
    ternary_Covers.f k a b = some (if a.all (fun x => decide (x ≤ 2)) = true ∧ b.all (fun x => decide (x ≤ 2)) = true then (if a.length = b.length then (coverS a b, 0) else (false, 2)) else (false, 8)) := by
  unfold ternary_Covers.f ternary_check.f
  simp only [Option.bind_some]
  rw [any_te a, any_te b]
  by_cases c1 : a.all (fun x => decide (x ≤ 2)) = true
  · by_cases c2 : b.all (fun x => decide (x ≤ 2)) = true
    · rw [c1, c2, if_pos (And.intro rfl rfl)]
      simp only [Bool.not_true, Bool.false_eq_true, if_false, mx]
      rw [if_pos (by decide)]
      by_cases c3 : a.length = b.length
      · rw [if_pos (by omega), if_pos c3]
        have := covers_l0 a b c3 hl a.length k 0 (by omega) hk
        simpa using this
      · rw [if_neg (by omega), if_neg c3]
    · rw [c1, if_neg (show ¬ (true = true ∧ b.all (fun x => decide (x ≤ 2)) = true) by simp [c2])]
      simp [c2, mx]
  · rw [if_neg (show ¬ (a.all (fun x => decide (x ≤ 2)) = true ∧ b.all (fun x => decide (x ≤ 2)) = true) by simp [c1])]
    have c1' : a.all (fun x => decide (x ≤ 2)) = false := by simpa using c1
    rw [c1']
    by_cases c2 : b.all (fun x => decide (x ≤ 2)) = true
    · rw [c2]; simp [mx]
    · have c2' : b.all (fun x => decide (x ≤ 2)) = false := by simpa using c2
      rw [c2']; simp [mx]
def V2 (l : List Int) : Prop := ∀ x ∈ l, 0 ≤ x ∧ x ≤ 2
def valT (l : List Int) (x : Int) : Int := if x % 2 = 1 then otherS (rd l (x / 2)) else rd l (x / 2)
def frameS : List Int → List S69 → List Int
  | acc, [] => acc
  | acc, g :: gs => frameS (acc ++ [bothS (valT acc g.f0) (valT acc g.f1)]) gs
theorem bothS_rng (a b : Int) : 0 ≤ bothS a b ∧ bothS a b ≤ 2 := by unfold bothS; split <;> (try split) <;> omega
theorem otherS_rng (a : Int) (h : 0 ≤ a ∧ a ≤ 2) : 0 ≤ otherS a ∧ otherS a ≤ 2 := by unfold otherS; split <;> omega
theorem rd_rng (l : List Int) (h : V2 l) (j : Int) (h0 : 0 ≤ j) (h1 : j < l.length) : 0 ≤ rd l j ∧ rd l j ≤ 2 := by
  obtain ⟨n, rfl⟩ := Int.eq_ofNat_of_zero_le h0
  have hn : n < l.length := by omega
  rw [rd_at l n hn]
  exact h _ (List.getElem_mem hn)
theorem valT_rng (l : List Int) (h : V2 l) (x : Int) (h0 : 0 ≤ x) (h1 : x / 2 < l.length) : 0 ≤ valT l x ∧ valT l x ≤ 2 := by
  have := rd_rng l h (x / 2) (by omega) h1
  unfold valT
  split
  · exact otherS_rng _ this
  · exact this
theorem tof_eq (l : List Int) (h : V2 l) (x : Int) (h0 : 0 ≤ x) (h1 : x / 2 < l.length) (h2 : l.length ≤ 100000) : ternary_of.f l x = some (valT l x) := by
  have hr := rd_rng l h (x / 2) (by omega) h1
  unfold ternary_of.f valT
  rw [band1 x h0 (by omega)]
  by_cases c : x % 2 = 1
  · rw [if_pos c, if_pos c, if_pos (by omega), if_pos h1]
    unfold ternary_not.f otherS
    by_cases d : rd l (x / 2) = 2
    · rw [if_pos d, if_pos d, d]; rfl
    · rw [if_neg d, if_neg d, xor_u8 _ hr.1 (by omega)]
      have : rd l (x / 2) = 0 ∨ rd l (x / 2) = 1 := by omega
      rcases this with e | e <;> rw [e] <;> rfl
  · rw [if_neg c, if_neg c, if_pos (by omega), if_pos h1]
theorem tandi_eq (k : Nat) (hk : 1 ≤ k) (a b : Int) : ternary_and.f k a b = some (bothS a b) := by
  obtain ⟨k, rfl⟩ : ∃ m, k = m + 1 := ⟨k - 1, by omega⟩
  unfold ternary_and.f bothS
  by_cases c0 : a = 0
  · rw [if_pos c0, if_pos (Or.inl c0)]; simp [ternary_and.j0]
  rw [if_neg c0]
  by_cases c1 : b = 0
  · rw [if_pos (Or.inr c1)]; simp [ternary_and.j0, c1]
  rw [if_neg (show ¬ (a = 0 ∨ b = 0) by omega)]
  simp only [ternary_and.j0]
  rw [if_neg (by simpa using c1)]
  by_cases c2 : a = 2
  · rw [if_pos c2, if_pos (Or.inl c2)]
  rw [if_neg c2]
  by_cases c3 : b = 2
  · rw [if_pos c3, if_pos (Or.inr c3)]
  · rw [if_neg c3, if_neg (show ¬ (a = 2 ∨ b = 2) by omega)]
theorem V2_snoc (l : List Int) (x : Int) (h : V2 l) (hx : 0 ≤ x ∧ x ≤ 2) : V2 (l ++ [x]) := by
  intro y hy
  rcases List.mem_append.1 hy with hy | hy
  · exact h y hy
  · rw [List.mem_singleton.1 hy]; exact hx
theorem all_l0 (gs : List S69) (base : Nat) (hg : Gates base gs) (hb : base + gs.length ≤ 100000) (d : Nat) : ∀ (k j : Nat) (acc : List Int), j + d = gs.length → d + 1 < k → acc.length = base + j → V2 acc →
    ternary_All.l0 k acc gs (gs.length : Int) (j : Int) = some (frameS acc (gs.drop j), 0) := by
  induction d with
  | zero =>
    intro k j acc hj hk _ _
    obtain ⟨k, rfl⟩ : ∃ m, k = m + 1 := ⟨k - 1, by omega⟩
    simp only [ternary_All.l0]
    rw [if_neg (by omega), List.drop_of_length_le (by omega)]; rfl
  | succ d ih =>
    intro k j acc hj hk ha hv
    obtain ⟨k, rfl⟩ : ∃ m, k = m + 1 := ⟨k - 1, by omega⟩
    have hlt : j < gs.length := by omega
    obtain ⟨g0, g1, g2⟩ := hg j hlt
    simp only [ternary_All.l0]
    rw [if_pos (by omega), if_pos (by omega), if_pos (by omega), rdA_at gs j hlt, List.drop_eq_getElem_cons hlt]
    rw [tof_eq acc hv _ (by omega) (by omega) (by omega), tof_eq acc hv _ g0 (by omega) (by omega)]
    simp only [Option.bind_some]
    rw [tandi_eq k (by omega)]
    simp only [Option.bind_some]
    rw [if_pos (by omega), w64 ((j : Int) + 1) (by omega) (by omega), show ((j : Int) + 1) = ((j + 1 : Nat) : Int) by omega, ih k (j + 1) _ (by omega) (by omega) (by simp; omega) (V2_snoc _ _ hv (bothS_rng _ _))]
    rfl
theorem frameS_len : ∀ (gs : List S69) (acc : List Int), (frameS acc gs).length = acc.length + gs.length
  | [], acc => rfl
  | g :: gs, acc => by rw [frameS, frameS_len gs]; simp; omega
theorem frameS_V2 : ∀ (gs : List S69) (acc : List Int), V2 acc → V2 (frameS acc gs)
  | [], acc, h => h
  | g :: gs, acc, h => by rw [frameS]; exact frameS_V2 gs _ (V2_snoc _ _ h (bothS_rng _ _))
def le2 (l : List Int) : Bool := l.all (fun x => decide (x ≤ 2))
def askedS (a : Int) (l1 : List S36) (l2 : List S69) (l3 l4 st inp : List Int) : Int :=
  if checkR a l1 l2 l3 l4 ≠ 0 then checkR a l1 l2 l3 l4 else if st.length ≠ l1.length ∨ (inp.length : Int) ≠ a then 2 else if le2 st = true ∧ le2 inp = true then 0 else 8
theorem V2_of (l : List Int) (h0 : ∀ x ∈ l, 0 ≤ x) (h : le2 l = true) : V2 l := fun x hx => ⟨h0 x hx, by have := List.all_eq_true.1 h x hx; simpa using this⟩
theorem asked_ok {a : Int} {l1 : List S36} {l2 : List S69} {l3 l4 st inp : List Int} (h : askedS a l1 l2 l3 l4 st inp = 0) :
    checkR a l1 l2 l3 l4 = 0 ∧ st.length = l1.length ∧ (inp.length : Int) = a ∧ le2 st = true ∧ le2 inp = true := by
  unfold askedS at h
  by_cases c : checkR a l1 l2 l3 l4 = 0
  · rw [if_neg (by simpa using c)] at h
    by_cases c2 : st.length ≠ l1.length ∨ (inp.length : Int) ≠ a
    · rw [if_pos c2] at h; omega
    rw [if_neg c2] at h
    by_cases c3 : le2 st = true ∧ le2 inp = true
    · exact ⟨c, by omega, by omega, c3.1, c3.2⟩
    · rw [if_neg c3] at h; omega
  · rw [if_pos c] at h; exact absurd h c
theorem tAll_eq (k : Nat) (a : Int) (l1 : List S36) (l2 : List S69) (l3 l4 st inp : List Int) (hs : Small l1 l2 l3 l4) (hw : Wf a l1 l2 l3 l4) (h1 : ∀ x ∈ st, 0 ≤ x) (h2 : ∀ x ∈ inp, 0 ≤ x) (hk : 300 ≤ k) :
    ternary_All.f k a l1 l2 l3 l4 st inp = some (if askedS a l1 l2 l3 l4 st inp = 0 then (frameS (0 :: (inp ++ st)) l2, 0) else ([], askedS a l1 l2 l3 l4 st inp)) := by
  have hs1 := hs.h1
  have hs2 := hs.h2
  obtain ⟨k, rfl⟩ : ∃ m, k = m + 1 := ⟨k - 1, by omega⟩
  unfold ternary_All.f
  rw [gcheck_eq a l1 l2 l3 l4 hs hw]
  simp only [Option.bind_some]
  by_cases c : checkR a l1 l2 l3 l4 = 0
  · have hg := good_of a l1 l2 l3 l4 c
    have ha0 := hg.a0
    have ha1 := hg.a1
    have hn := hg.n
    rw [if_pos c]
    have bad : st.length ≠ l1.length ∨ (inp.length : Int) ≠ a → askedS a l1 l2 l3 l4 st inp = 2 := fun h => by unfold askedS; rw [if_neg (by simpa using c), if_pos h]
    have j0 : ∀ s i : List Int, ternary_All.j0 (k + 1) s i true a l1 l2 l3 l4 = some ([], 2) := fun s i => by simp [ternary_All.j0]
    by_cases c1 : st.length = l1.length
    · rw [if_pos (by omega)]
      by_cases c2 : (inp.length : Int) = a
      · have e2 : ((inp.length : Int) != a) = false := by simp [c2]
        rw [e2]
        simp only [ternary_All.j0]
        rw [if_neg (by decide)]
        have hlen : ([[0], inp, st] : List (List Int)).flatten = 0 :: (inp ++ st) := by simp
        unfold slices_Concat_uint8_uint8.f
        rw [hlen, if_pos (by simp; omega)]
        simp only [Option.bind_some]
        unfold ternary_check.f
        rw [any_te]
        have hall : (0 :: (inp ++ st)).all (fun x => decide (x ≤ 2)) = (le2 inp && le2 st) := by simp [le2]
        rw [hall]
        by_cases c3 : le2 st = true ∧ le2 inp = true
        · have e : askedS a l1 l2 l3 l4 st inp = 0 := by unfold askedS; rw [if_neg (by simpa using c), if_neg (by omega), if_pos c3]
          rw [c3.1, c3.2, if_pos e]
          simp only [Bool.and_true, Bool.not_true, Bool.false_eq_true, if_false, Option.bind_some]
          rw [if_pos trivial]
          have hv : V2 (0 :: (inp ++ st)) := by
            intro x hx
            rcases List.mem_cons.1 hx with rfl | hx
            · omega
            rcases List.mem_append.1 hx with hx | hx
            · exact V2_of inp h2 c3.2 x hx
            · exact V2_of st h1 c3.1 x hx
          have := all_l0 l2 (1 + a.toNat + l1.length) hg.g (by unfold szS at hn; omega) l2.length k 0 (0 :: (inp ++ st)) (by omega) (by omega) (by simp; omega) hv
          simpa using this
        · have e : askedS a l1 l2 l3 l4 st inp = 8 := by unfold askedS; rw [if_neg (by simpa using c), if_neg (by omega), if_neg c3]
          have f : (le2 inp && le2 st) = false := by
            cases x : le2 inp <;> cases y : le2 st <;> simp_all
          rw [f, e]
          simp
      · have e2 : ((inp.length : Int) != a) = true := by simp [c2]
        rw [e2, j0, bad (Or.inr c2)]; rfl
    · rw [if_neg (by omega), j0, bad (Or.inl c1)]; rfl
  · have e : askedS a l1 l2 l3 l4 st inp = checkR a l1 l2 l3 l4 := by unfold askedS; rw [if_pos c]
    rw [if_neg c, e, if_neg c]
theorem frame_facts {a : Int} {l1 : List S36} {l2 : List S69} {l3 l4 st inp : List Int} (hg : Good a l1 l2 l3 l4) (ls : st.length = l1.length) (li : (inp.length : Int) = a) (v1 : V2 st) (v2 : V2 inp) :
    ((frameS (0 :: (inp ++ st)) l2).length : Int) = 1 + szS a l1 l2 ∧ V2 (frameS (0 :: (inp ++ st)) l2) := by
  refine ⟨?_, ?_⟩
  · rw [frameS_len]; unfold szS; simp; omega
  · apply frameS_V2
    intro x hx
    rcases List.mem_cons.1 hx with rfl | hx
    · omega
    rcases List.mem_append.1 hx with hx | hx
    · exact v2 x hx
    · exact v1 x hx
def nextS (fr : List Int) (l1 : List S36) : List Int := l1.map fun x => valT fr x.f0
theorem next_l0 (fr : List Int) (l1 : List S36) (hv : V2 fr) (hl : ∀ x ∈ l1, 0 ≤ x.f0 ∧ x.f0 / 2 < fr.length) (hf : fr.length ≤ 100000) (h1 : l1.length ≤ 1000) (d : Nat) : ∀ (k j : Nat) (acc : List Int), j + d = l1.length → d < k → acc.length = j →
    ternary_Next.l0 k fr acc l1 (l1.length : Int) (j : Int) = some (acc ++ nextS fr (l1.drop j), 0) := by
  induction d with
  | zero =>
    intro k j acc hj hk _
    obtain ⟨k, rfl⟩ : ∃ m, k = m + 1 := ⟨k - 1, by omega⟩
    simp only [ternary_Next.l0]
    rw [if_neg (by omega), List.drop_of_length_le (by omega)]; simp [nextS]
  | succ d ih =>
    intro k j acc hj hk ha
    obtain ⟨k, rfl⟩ : ∃ m, k = m + 1 := ⟨k - 1, by omega⟩
    have hlt : j < l1.length := by omega
    obtain ⟨g0, g1⟩ := hl _ (List.getElem_mem hlt)
    simp only [ternary_Next.l0]
    rw [if_pos (by omega), if_pos (by omega), if_pos (by omega), rdL_at l1 j hlt, List.drop_eq_getElem_cons hlt, tof_eq fr hv _ g0 g1 hf]
    simp only [Option.bind_some]
    rw [if_pos (by omega), w64 ((j : Int) + 1) (by omega) (by omega), show ((j : Int) + 1) = ((j + 1 : Nat) : Int) by omega, ih k (j + 1) _ (by omega) (by omega) (by simp; omega)]
    simp only [nextS, List.map_cons, List.append_assoc, List.singleton_append]
theorem good_l {a : Int} {l1 : List S36} {l2 : List S69} {l3 l4 st inp : List Int} (hg : Good a l1 l2 l3 l4) (ls : st.length = l1.length) (li : (inp.length : Int) = a) (v1 : V2 st) (v2 : V2 inp) :
    ∀ x ∈ l1, 0 ≤ x.f0 ∧ x.f0 / 2 < (frameS (0 :: (inp ++ st)) l2).length := fun x hx => by
  have h := (hg.l x hx).1
  have f := (frame_facts hg ls li v1 v2).1
  omega
def nextA (a : Int) (l1 : List S36) (l2 : List S69) (l3 l4 st inp : List Int) : List Int × Int :=
  if askedS a l1 l2 l3 l4 st inp = 0 then (nextS (frameS (0 :: (inp ++ st)) l2) l1, 0) else ([], askedS a l1 l2 l3 l4 st inp)
theorem tNext_eq (k : Nat) (a : Int) (l1 : List S36) (l2 : List S69) (l3 l4 st inp : List Int) (hs : Small l1 l2 l3 l4) (hw : Wf a l1 l2 l3 l4) (h1 : ∀ x ∈ st, 0 ≤ x) (h2 : ∀ x ∈ inp, 0 ≤ x) (hk : 300 ≤ k) :
    ternary_Next.f k a l1 l2 l3 l4 st inp = some (nextA a l1 l2 l3 l4 st inp) := by
  have hs1 := hs.h1
  have hs2 := hs.h2
  unfold ternary_Next.f nextA
  rw [tAll_eq k a l1 l2 l3 l4 st inp hs hw h1 h2 hk]
  simp only [Option.bind_some]
  by_cases c : askedS a l1 l2 l3 l4 st inp = 0
  · obtain ⟨b0, b1, b2, b3, b4⟩ := asked_ok c
    have hg := good_of _ _ _ _ _ b0
    have ha1 := hg.a1
    have f := frame_facts hg b1 b2 (V2_of _ h1 b3) (V2_of _ h2 b4)
    have hn := hg.n
    rw [if_pos c, if_pos c, if_pos rfl]
    have := next_l0 (frameS (0 :: (inp ++ st)) l2) l1 f.2 (good_l hg b1 b2 (V2_of _ h1 b3) (V2_of _ h2 b4)) (by omega) (by omega) l1.length k 0 [] (by omega) (by omega) rfl
    simpa using this
  · rw [if_neg c, if_neg c, if_neg c]
def firstS (l1 : List S36) : List Int := l1.map fun x => x.f1
theorem first_l0 (l1 : List S36) (hl : ∀ x ∈ l1, 0 ≤ x.f1 ∧ x.f1 ≤ 2) (h1 : l1.length ≤ 1000) (d : Nat) : ∀ (k j : Nat) (acc : List Int), j + d = l1.length → d < k → acc.length = j →
    ternary_First.l0 k acc l1 (l1.length : Int) (j : Int) = some (acc ++ firstS (l1.drop j), 0) := by
  induction d with
  | zero =>
    intro k j acc hj hk _
    obtain ⟨k, rfl⟩ : ∃ m, k = m + 1 := ⟨k - 1, by omega⟩
    simp only [ternary_First.l0]
    rw [if_neg (by omega), List.drop_of_length_le (by omega)]; simp [firstS]
  | succ d ih =>
    intro k j acc hj hk ha
    obtain ⟨k, rfl⟩ : ∃ m, k = m + 1 := ⟨k - 1, by omega⟩
    have hlt : j < l1.length := by omega
    have g := hl _ (List.getElem_mem hlt)
    have hx : l1[j].f1 = 0 ∨ l1[j].f1 = 1 ∨ l1[j].f1 = 2 := by omega
    simp only [ternary_First.l0]
    rw [if_pos (by omega), if_pos (by omega), if_pos (by omega), rdL_at l1 j hlt, List.drop_eq_getElem_cons hlt, w64 ((j : Int) + 1) (by omega) (by omega), show ((j : Int) + 1) = ((j + 1 : Nat) : Int) by omega]
    have e0 := fun y => ih k (j + 1) (acc ++ [y]) (by omega) (by omega) (by simp; omega)
    have hal : acc.length < 140737488355328 := by omega
    rcases hx with e | e | e
    · rw [if_pos e, if_pos hal, e0]; simp only [firstS, List.map_cons, List.append_assoc, List.singleton_append, e]
    · rw [if_neg (by omega), if_pos e, if_pos hal, e0]; simp only [firstS, List.map_cons, List.append_assoc, List.singleton_append, e]
    · rw [if_neg (by omega), if_neg (by omega), if_pos hal, e0]; simp only [firstS, List.map_cons, List.append_assoc, List.singleton_append, e]
def firstA (a : Int) (l1 : List S36) (l2 : List S69) (l3 l4 : List Int) : List Int × Int :=
  if checkR a l1 l2 l3 l4 = 0 then (firstS l1, 0) else ([], checkR a l1 l2 l3 l4)
theorem tFirst_eq (k : Nat) (a : Int) (l1 : List S36) (l2 : List S69) (l3 l4 : List Int) (hs : Small l1 l2 l3 l4) (hw : Wf a l1 l2 l3 l4) (hk : 300 ≤ k) :
    ternary_First.f k a l1 l2 l3 l4 = some (firstA a l1 l2 l3 l4) := by
  have hs1 := hs.h1
  unfold ternary_First.f firstA
  rw [gcheck_eq a l1 l2 l3 l4 hs hw]
  simp only [Option.bind_some]
  by_cases c : checkR a l1 l2 l3 l4 = 0
  · rw [if_pos c, if_pos c]
    have := first_l0 l1 (fun x hx => ((good_of _ _ _ _ _ c).l x hx).2) (by omega) l1.length k 0 [] (by omega) (by omega) rfl
    simpa using this
  · rw [if_neg c, if_neg c]
theorem bx_eq (y : Int) (h0 : 0 ≤ y) (h1 : y < 9223372036854775807) : Go.bits .xor .i64 y 1 = if y % 2 = 0 then y + 1 else y - 1 := bxor1 y h0 h1
theorem bx_bx (y : Int) (h0 : 0 ≤ y) (h1 : y < 9223372036854775800) : Go.bits .xor .i64 (Go.bits .xor .i64 y 1) 1 = y := by
  rw [bx_eq y h0 (by omega)]
  split
  · rw [bx_eq _ (by omega) (by omega), if_neg (by omega)]; omega
  · rw [bx_eq _ (by omega) (by omega), if_pos (by omega)]; omega
theorem bx_val (F : List Bool) (y : Int) (h0 : 0 ≤ y) (h1 : y < 9223372036854775807) : valV F (Go.bits .xor .i64 y 1) = !valV F y := by
  rw [bx_eq y h0 h1]
  unfold valV
  split
  · rename_i h
    rw [show (y + 1) / 2 = y / 2 by omega, decide_eq_true (show (y + 1) % 2 = 1 by omega), decide_eq_false (show ¬ y % 2 = 1 by omega)]
    cases rdOf false F (y / 2) <;> rfl
  · rename_i h
    rw [show (y - 1) / 2 = y / 2 by omega, decide_eq_false (show ¬ (y - 1) % 2 = 1 by omega), decide_eq_true (show y % 2 = 1 by omega)]
    cases rdOf false F (y / 2) <;> rfl
theorem frameV_app : ∀ (g1 g2 : List S69) (acc : List Bool), frameV acc (g1 ++ g2) = frameV (frameV acc g1) g2
  | [], _, _ => rfl
  | g :: g1, g2, acc => by
    rw [List.cons_append, frameV, frameV, frameV_app g1 g2]
theorem frameV_pre : ∀ (gs : List S69) (acc : List Bool), ∃ E, frameV acc gs = acc ++ E
  | [], acc => ⟨[], by rw [frameV, List.append_nil]⟩
  | g :: gs, acc => by
    obtain ⟨E, h⟩ := frameV_pre gs (acc ++ [valV acc g.f0 && valV acc g.f1])
    exact ⟨_, by rw [frameV, h, List.append_assoc]⟩
theorem rdOf_app (l m : List Bool) (i : Nat) (h : i < l.length) : rdOf false (l ++ m) (i : Int) = rdOf false l (i : Int) := by
  simp [rdOf, List.getD, List.getElem?_append_left h]
theorem frame_at {acc : List Bool} {gs : List S69} (hg : Gates acc.length gs) (i : Nat) (hi : i < gs.length) :
    rdOf false (frameV acc gs) ((acc.length + i : Nat) : Int) = (valV (frameV acc gs) gs[i].f0 && valV (frameV acc gs) gs[i].f1) := by
  have e : gs = gs.take i ++ ([gs[i]] ++ gs.drop (i + 1)) := by
    rw [List.singleton_append, ← List.drop_eq_getElem_cons hi, List.take_append_drop]
  have hF : frameV acc gs = frameV (frameV acc (gs.take i) ++ [valV (frameV acc (gs.take i)) gs[i].f0 && valV (frameV acc (gs.take i)) gs[i].f1]) (gs.drop (i + 1)) := by
    conv => lhs; rw [e, frameV_app, frameV_app]
    rfl
  have hl : (frameV acc (gs.take i)).length = acc.length + i := by rw [frameV_len, List.length_take]; omega
  obtain ⟨E, hE⟩ := frameV_pre (gs.drop (i + 1)) (frameV acc (gs.take i) ++ [valV (frameV acc (gs.take i)) gs[i].f0 && valV (frameV acc (gs.take i)) gs[i].f1])
  obtain ⟨h1, h2, h3⟩ := hg i hi
  rw [hF, hE, List.append_assoc, valV_app _ _ _ (by omega) (by rw [hl]; omega), valV_app _ _ _ (by omega) (by rw [hl]; omega)]
  rw [show acc.length + i = (frameV acc (gs.take i)).length from hl.symm]
  simp [rdOf, List.getD]
theorem findG_some {first : Int} {gs : List S69} {x y l : Int} (h : findG first gs x y = some l) : ∃ (i : Nat) (hi : i < gs.length), l = 2 * (first + (i : Int)) ∧ gs[i].f0 = x ∧ gs[i].f1 = y := by
  unfold findG at h
  obtain ⟨i, hi, rfl⟩ := Option.map_eq_some_iff.1 h
  obtain ⟨hlt, hp, _⟩ := List.findIdx?_eq_some_iff_getElem.1 hi
  have := of_decide_eq_true hp
  exact ⟨i, hlt, rfl, this.1, this.2⟩
theorem mxmn_val (F : List Bool) (x y : Int) : (valV F (mx x y) && valV F (mn x y)) = (valV F x && valV F y) := by
  unfold mx mn
  rcases Int.lt_trichotomy x y with h | h | h
  · rw [if_pos h, if_neg (by omega), Bool.and_comm]
  · subst h; simp
  · rw [if_neg (by omega), if_pos h]
theorem val_even (F : List Bool) (i : Int) : valV F (2 * i) = rdOf false F i := by
  unfold valV
  rw [show 2 * i / 2 = i by omega, decide_eq_false (show ¬ (2 * i) % 2 = 1 by omega)]
  cases rdOf false F i <;> rfl
theorem val_0 (F : List Bool) (h : rdOf false F 0 = false) : valV F 0 = false := by
  have := val_even F 0
  rw [show (2 : Int) * 0 = 0 from rfl] at this
  rw [this, h]
theorem val_1 (F : List Bool) (h : rdOf false F 0 = false) : valV F 1 = true := by
  unfold valV
  rw [show (1 : Int) / 2 = 0 from rfl, h]; rfl
theorem andP_cases (first : Int) (gs : List S69) (x y : Int) : (andP first gs x y).1 = gs ∨ ((andP first gs x y) = (gs ++ [⟨mx x y, mn x y⟩], 2 * (first + (gs.length : Int))) ∧ x ≠ 0 ∧ y ≠ 0 ∧ x ≠ 1 ∧ y ≠ 1 ∧ x ≠ y ∧ x ≠ Go.bits .xor .i64 y 1 ∧ findG first gs (mx x y) (mn x y) = none) := by
  unfold andP
  split
  · exact Or.inl rfl
  · rename_i c1
    split
    · exact Or.inl rfl
    · rename_i c2
      split
      · exact Or.inl rfl
      · rename_i c3
        cases e : findG first gs (mx x y) (mn x y) with
        | some l => exact Or.inl rfl
        | none => exact Or.inr ⟨rfl, fun h => c1 (Or.inl h), fun h => c1 (Or.inr (Or.inl h)), fun h => c2 (Or.inl h), c3, fun h => c2 (Or.inr h), fun h => c1 (Or.inr (Or.inr h)), rfl⟩
theorem frame0 {acc : List Bool} (gs : List S69) (hp : 0 < acc.length) (h : rdOf false acc 0 = false) : rdOf false (frameV acc gs) 0 = false := by
  obtain ⟨E, hE⟩ := frameV_pre gs acc
  rw [hE]
  exact (rdOf_app acc E 0 hp).trans h
theorem andP_val {acc : List Bool} {gs : List S69} {first x y : Int} (hb : (acc.length : Int) = first) (hp : 0 < acc.length) (ha : rdOf false acc 0 = false) (hg : Gates acc.length gs) (x0 : 0 ≤ x) (x1 : x / 2 < (acc.length : Int) + gs.length) (y0 : 0 ≤ y) (y1 : y / 2 < (acc.length : Int) + gs.length) (hlen : acc.length + gs.length ≤ 100000) :
    valV (frameV acc (andP first gs x y).1) (andP first gs x y).2 = (valV (frameV acc gs) x && valV (frameV acc gs) y) := by
  have hF0 := frame0 gs hp ha
  unfold andP
  by_cases c1 : x = 0 ∨ y = 0 ∨ x = Go.bits .xor .i64 y 1
  · rw [if_pos c1]
    dsimp only
    rw [val_0 _ hF0]
    rcases c1 with rfl | rfl | h
    · rw [val_0 _ hF0]; rfl
    · rw [val_0 _ hF0, Bool.and_false]
    · rw [h, bx_val _ y y0 (by omega)]; cases valV (frameV acc gs) y <;> rfl
  rw [if_neg c1]
  by_cases c2 : x = 1 ∨ x = y
  · rw [if_pos c2]
    rcases c2 with rfl | rfl
    · rw [val_1 _ hF0]; rfl
    · rw [Bool.and_self]
  rw [if_neg c2]
  by_cases c3 : y = 1
  · rw [if_pos c3]
    subst c3
    rw [val_1 _ hF0, Bool.and_true]
  rw [if_neg c3]
  cases e : findG first gs (mx x y) (mn x y) with
  | some l =>
    obtain ⟨i, hi, rfl, g0, g1⟩ := findG_some e
    dsimp only
    rw [val_even, ← hb, show (acc.length : Int) + (i : Int) = ((acc.length + i : Nat) : Int) by omega, frame_at hg i hi, g0, g1, mxmn_val]
  | none =>
    dsimp only
    have hl := frameV_len gs acc
    rw [val_even, ← hb, frameV_snoc, show (acc.length : Int) + (gs.length : Int) = ((frameV acc gs).length : Int) by omega, ← mxmn_val (frameV acc gs) x y]
    simp [rdOf, List.getD]
theorem okH_of {a : Int} {l1 : List S36} {l2 : List S69} {l3 l4 : List Int} (hg : Good a l1 l2 l3 l4) (hs : Small l1 l2 l3 l4) : okH a l1 l2 l3 l4 = true := by
  have h0 := hg.a0
  have h1 := hg.a1
  have s1 := hs.h1
  have s2 := hs.h2
  have s3 := hs.h3
  have s4 := hs.h4
  unfold okH
  rw [Bool.and_eq_true, decide_eq_true_eq, List.all_eq_true]
  refine ⟨by omega, fun g hgm => ?_⟩
  obtain ⟨i, hi, rfl⟩ := List.getElem_of_mem hgm
  obtain ⟨b1, b2, b3⟩ := hg.g i hi
  unfold okG
  rw [decide_eq_true_eq]
  omega
structure Fine (first : Int) (gs : List S69) : Prop where
  ok : ∀ (i : Nat) (h : i < gs.length), 2 ≤ gs[i].f1 ∧ gs[i].f1 < gs[i].f0 ∧ gs[i].f0 ≠ Go.bits .xor .i64 gs[i].f1 1 ∧ gs[i].f0 / 2 < first + (i : Int)
  one : ∀ (i j : Nat) (hi : i < gs.length) (hj : j < gs.length), i < j → ¬ (gs[i].f0 = gs[j].f0 ∧ gs[i].f1 = gs[j].f1)
theorem fine_nil (first : Int) : Fine first [] := ⟨fun i h => absurd h (by simp), fun i j hi => absurd hi (by simp)⟩
theorem findG_miss {first : Int} {gs : List S69} {p q : Int} (h : findG first gs p q = none) (i : Nat) (hi : i < gs.length) : ¬ (gs[i].f0 = p ∧ gs[i].f1 = q) := by
  unfold findG at h
  rw [Option.map_eq_none_iff, List.findIdx?_eq_none_iff] at h
  have := h _ (List.getElem_mem hi)
  simpa using this
theorem fine_step {first : Int} {gs : List S69} {x y : Int} (hf : 1 ≤ first) (h : Fine first gs) (x0 : 0 ≤ x) (x1 : x / 2 < first + (gs.length : Int)) (y0 : 0 ≤ y) (y1 : y / 2 < first + (gs.length : Int)) (hx : x < 1000000) (hy : y < 1000000) :
    Fine first (andP first gs x y).1 ∧ 0 ≤ (andP first gs x y).2 ∧ (andP first gs x y).2 / 2 < first + ((andP first gs x y).1.length : Int) := by
  rcases andP_cases first gs x y with e | ⟨e, c0, c1, c2, c3, c4, c5, c6⟩
  · rw [e]
    refine ⟨h, ?_⟩
    unfold andP
    split
    · dsimp only; omega
    · split
      · dsimp only; omega
      · split
        · dsimp only; omega
        · split
          · rename_i l hl
            obtain ⟨i, hi, rfl, -, -⟩ := findG_some hl
            dsimp only; omega
          · rename_i hl
            dsimp only
            exfalso
            unfold andP at e
            simp_all
  · rw [e]
    dsimp only
    have hm : 2 ≤ mn x y ∧ mn x y < mx x y ∧ mx x y / 2 < first + (gs.length : Int) ∧ mx x y ≠ Go.bits .xor .i64 (mn x y) 1 := by
      have h2 : y ≠ Go.bits .xor .i64 x 1 := fun h => c5 (by rw [h, bx_bx x x0 (by omega)])
      unfold mx mn
      split <;> split <;> first | omega | (refine ⟨by omega, by omega, by omega, ?_⟩; assumption)
    refine ⟨⟨fun i hi => ?_, fun i j hi hj hij => ?_⟩, by omega, by rw [List.length_append, List.length_singleton]; omega⟩
    · by_cases c : i < gs.length
      · rw [List.getElem_append_left c]
        exact h.ok i c
      · have hi2 : i = gs.length := by rw [List.length_append, List.length_singleton] at hi; omega
        subst hi2
        simp only [List.getElem_concat_length]
        exact ⟨hm.1, hm.2.1, hm.2.2.2, hm.2.2.1⟩
    · have hjl : j ≤ gs.length := by rw [List.length_append, List.length_singleton] at hj; omega
      have hil : i < gs.length := by omega
      rw [List.getElem_append_left hil]
      by_cases c : j < gs.length
      · rw [List.getElem_append_left c]
        exact h.one i j hil c hij
      · have hj2 : j = gs.length := by omega
        subst hj2
        simp only [List.getElem_concat_length]
        exact findG_miss c6 i hil
theorem sgn_lit {T : List Int} {B : Int} (hT : ∀ t ∈ T, 0 ≤ t ∧ t / 2 < B) (hB : B ≤ 100000) (l : Int) (h0 : 0 ≤ l) (h1 : l / 2 < T.length) (h2 : l ≤ 1000000) : 0 ≤ sgnP T l ∧ sgnP T l / 2 < B := by
  have hm := hT _ (rd_mem T (l / 2) (by omega) h1)
  rw [sgnP_eq T l h0 (by omega) hm.1 (by omega)]
  unfold notH
  split
  · exact hm
  · split <;> omega
structure InvB (first : Int) (k : Nat) (s : List S69 × List Int) : Prop where
  fine : Fine first s.1
  len : s.2.length = k
  cnt : s.1.length = 0 ∨ first + (s.1.length : Int) ≤ (k : Int)
  lits : ∀ t ∈ s.2, 0 ≤ t ∧ t / 2 < first + (s.1.length : Int)
theorem inv_step {first : Int} {ands : List S69} {given : List Int} {ins : Int} {k : Nat} (hf : 1 ≤ first) (ha : okA first ands = true) (hg : badG ins given k = false) (hk : (k : Int) < first + (ands.length : Int)) (hN : first + (ands.length : Int) ≤ 50000) {s : List S69 × List Int} (h : InvB first k s) : InvB first (k + 1) (stepB first ands given s) := by
  obtain ⟨h1, h2, h3, h4⟩ := h
  have hB : first + (s.1.length : Int) ≤ 100000 := by omega
  unfold stepB
  rw [h2]
  by_cases c : 0 ≤ rd given (k : Int)
  · rw [if_pos c]
    have hb := badG_not hg c
    have hs := sgn_lit h4 hB _ c (by rw [h2]; omega) (by omega)
    refine ⟨h1, by dsimp only; rw [List.length_append, List.length_singleton, h2], by dsimp only; omega, fun t ht => ?_⟩
    rcases List.mem_append.1 ht with ht | ht
    · exact h4 t ht
    · rw [List.mem_singleton.1 ht]; exact hs
  · rw [if_neg c]
    by_cases c1 : (k : Int) < first
    · rw [if_pos c1]
      refine ⟨h1, by dsimp only; rw [List.length_append, List.length_singleton, h2], by dsimp only; omega, fun t ht => ?_⟩
      rcases List.mem_append.1 ht with ht | ht
      · exact h4 t ht
      · rw [List.mem_singleton.1 ht]; dsimp only; omega
    · rw [if_neg c1]
      obtain ⟨i, hi⟩ : ∃ i : Nat, (i : Int) = (k : Int) - first := ⟨((k : Int) - first).toNat, by omega⟩
      obtain ⟨a0, a1, a2, a3⟩ := okA_at ha i (by omega)
      rw [← hi]
      have hs := sgn_lit h4 hB _ a0 (by rw [h2]; omega) (by omega)
      have ht := sgn_lit h4 hB _ a2 (by rw [h2]; omega) (by omega)
      generalize sgnP s.2 (rd_T69 ands (i : Int)).f0 = x at *
      generalize sgnP s.2 (rd_T69 ands (i : Int)).f1 = y at *
      obtain ⟨f1, f2, f3⟩ := fine_step hf h1 hs.1 hs.2 ht.1 ht.2 (by omega) (by omega)
      have hl := andP_len first s.1 x y
      have hge : s.1.length ≤ (andP first s.1 x y).1.length := by
        rcases andP_cases first s.1 x y with e | ⟨e, -⟩
        · rw [e]; exact Nat.le_refl _
        · rw [e]; simp
      refine ⟨f1, by dsimp only; rw [List.length_append, List.length_singleton, h2], by dsimp only; omega, fun t ht => ?_⟩
      rcases List.mem_append.1 ht with ht | ht
      · have := h4 t ht; dsimp only; omega
      · rw [List.mem_singleton.1 ht]; exact ⟨f2, f3⟩
theorem inv_run {first : Int} {ands : List S69} {given : List Int} {ins : Int} (hf : 1 ≤ first) (ha : okA first ands = true) (hN : first + (ands.length : Int) ≤ 50000) : ∀ k : Nat, (k : Int) ≤ first + (ands.length : Int) → (∀ v : Nat, v < k → badG ins given v = false) → InvB first k (runB first ands given k)
  | 0, _, _ => ⟨fine_nil first, rfl, Or.inl rfl, fun t ht => absurd ht (by simp [runB])⟩
  | k + 1, hk, hg => inv_step hf ha (hg k (by omega)) (by omega) hN (inv_run hf ha hN k (by omega) (fun v hv => hg v (by omega)))
theorem okC_of {a : Int} {l1 : List S36} {l2 : List S69} {l3 l4 g : List Int} (hg : Good a l1 l2 l3 l4) (hs : Small l1 l2 l3 l4) (h : g.length ≤ 60000) : okC a l1 l2 l3 l4 g = true := by
  have ho := okH_of hg hs
  unfold okC okA
  simp only [Bool.and_eq_true, decide_eq_true_eq, List.all_eq_true]
  refine ⟨⟨⟨⟨⟨ho, fun i hi => ?_⟩, h⟩, fun x hx => ?_⟩, fun x hx => ?_⟩, fun x hx => ?_⟩
  · have hi := List.mem_range.1 hi
    obtain ⟨b1, b2, b3⟩ := hg.g i hi
    have er : rd_T69 l2 (i : Int) = l2[i] := by simp [rd_T69, List.getD, hi]
    have := hg.a0
    rw [er]; omega
  · have := (hg.l x hx).1; unfold szS at this; omega
  · have := hg.b x hx; unfold szS at this; omega
  · have := hg.c x hx; unfold szS at this; omega
theorem lens_of {a : Int} {l1 : List S36} {l2 : List S69} {l3 l4 : List Int} (h : checkR a l1 l2 l3 l4 = 0) : l3.length ≤ 100 ∧ l4.length ≤ 100 := by
  unfold checkR at h
  by_cases c0 : a < 0
  · rw [if_pos c0] at h; omega
  · rw [if_neg c0] at h
    by_cases c1 : a > 1000 ∨ szS a l1 l2 > 1000 ∨ l3.length > 100 ∨ l4.length > 100
    · rw [if_pos c1] at h; omega
    · omega
theorem built_good {a : Int} {l1 : List S36} {l2 G : List S69} {l3 l4 T : List Int} {N : Nat} (hg : Good a l1 l2 l3 l4) (hi : InvB (a + (l1.length : Int) + 1) N (G, T)) (hN : (N : Int) = szS a l1 l2 + 1) :
    Good a (l1.map (fun x => (⟨sgnP T x.f0, x.f1⟩ : S36))) G (l3.map (sgnP T)) (l4.map (sgnP T)) ∧ G.length ≤ l2.length := by
  obtain ⟨h1, h2, h3, h4⟩ := hi
  dsimp only at h1 h2 h3 h4
  have ha0 := hg.a0
  have ha1 := hg.a1
  have hn := hg.n
  have hG : G.length ≤ l2.length := by unfold szS at hN; omega
  have hz : szS a (l1.map (fun x => (⟨sgnP T x.f0, x.f1⟩ : S36))) G = a + (l1.length : Int) + (G.length : Int) := by unfold szS; rw [List.length_map]
  have hB : a + (l1.length : Int) + 1 + (G.length : Int) ≤ 100000 := by unfold szS at hn; omega
  have key : ∀ x : Int, 0 ≤ x → x / 2 ≤ szS a l1 l2 → 0 ≤ sgnP T x ∧ sgnP T x / 2 ≤ a + (l1.length : Int) + (G.length : Int) := fun x x0 x1 => by
    have := sgn_lit h4 hB x x0 (by omega) (by omega)
    omega
  refine ⟨⟨ha0, ha1, by rw [hz]; unfold szS at hn; omega, fun i hi => ?_, fun x hx => ?_, fun x hx => ?_, fun x hx => ?_⟩, hG⟩
  · obtain ⟨b1, b2, b3, b4⟩ := h1.ok i hi
    rw [List.length_map]
    refine ⟨by omega, by omega, by omega⟩
  · obtain ⟨y, hy, rfl⟩ := List.mem_map.1 hx
    obtain ⟨b1, b2⟩ := hg.l y hy
    rw [hz]
    exact ⟨key _ b1.1 b1.2, b2⟩
  · obtain ⟨y, hy, rfl⟩ := List.mem_map.1 hx
    obtain ⟨b1, b2⟩ := hg.b y hy
    rw [hz]
    exact key _ b1 b2
  · obtain ⟨y, hy, rfl⟩ := List.mem_map.1 hx
    obtain ⟨b1, b2⟩ := hg.c y hy
    rw [hz]
    exact key _ b1 b2
theorem good_wf {a : Int} {l1 : List S36} {l2 : List S69} {l3 l4 : List Int} (hg : Good a l1 l2 l3 l4) (h2 : l2.length ≤ 130) : Wf a l1 l2 l3 l4 := by
  have ha0 := hg.a0
  have ha1 := hg.a1
  have hn := hg.n
  refine ⟨by omega, fun x hx => ?_, fun x hx => ?_, fun x hx => ?_, fun x hx => ?_⟩
  · have := hg.l x hx; omega
  · obtain ⟨i, hi, rfl⟩ := List.getElem_of_mem hx
    obtain ⟨b1, b2, b3⟩ := hg.g i hi
    unfold szS at hn
    omega
  · have := hg.b x hx; omega
  · have := hg.c x hx; omega
-- building keeps all values
theorem fine_gates {first : Int} {gs : List S69} {n : Nat} (hb : (n : Int) = first) (h : Fine first gs) : Gates n gs := fun i hi => by
  obtain ⟨a, b, -, d⟩ := h.ok i hi
  omega
theorem notH_val (F : List Bool) (t : Int) (h0 : 0 ≤ t) : valV F (notH t) = !valV F t := by
  unfold notH valV
  by_cases c : t % 2 = 0
  · rw [if_pos c, show (t + 1) / 2 = t / 2 by omega, decide_eq_true (show (t + 1) % 2 = 1 by omega), decide_eq_false (show ¬ t % 2 = 1 by omega)]
    cases rdOf false F (t / 2) <;> rfl
  · rw [if_neg c, show (t - 1) / 2 = t / 2 by omega, decide_eq_false (show ¬ (t - 1) % 2 = 1 by omega), decide_eq_true (show t % 2 = 1 by omega)]
    cases rdOf false F (t / 2) <;> rfl
theorem sgn_val (F O : List Bool) (T : List Int) (l : Int) (h0 : 0 ≤ l) (h1 : l ≤ 1000000000) (t0 : 0 ≤ rd T (l / 2)) (t1 : rd T (l / 2) ≤ 1000000000) (e : valV F (rd T (l / 2)) = rdOf false O (l / 2)) : valV F (sgnP T l) = valV O l := by
  rw [sgnP_eq T l h0 h1 t0 t1]
  by_cases c : l % 2 = 0
  · rw [if_pos c, e, valV, decide_eq_false (show ¬ l % 2 = 1 by omega)]
    cases rdOf false O (l / 2) <;> rfl
  · rw [if_neg c, notH_val F _ t0, e, valV, decide_eq_true (show l % 2 = 1 by omega)]
    cases rdOf false O (l / 2) <;> rfl
theorem andP_keep {acc : List Bool} {gs : List S69} {first x y : Int} (t : Int) (t0 : 0 ≤ t) (t1 : t / 2 < (acc.length : Int) + gs.length) : valV (frameV acc (andP first gs x y).1) t = valV (frameV acc gs) t := by
  rcases andP_cases first gs x y with h | ⟨h, -⟩
  · rw [h]
  · rw [h]
    dsimp only
    rw [frameV_snoc, valV_app _ _ _ t0 (by rw [frameV_len]; omega)]
theorem val_run {acc : List Bool} {first ins : Int} {ands : List S69} {given : List Int} (hb : (acc.length : Int) = first) (hp : 0 < acc.length) (ha0 : rdOf false acc 0 = false) (ha : okA first ands = true) (hG : Gates acc.length ands) (hN : first + (ands.length : Int) ≤ 50000)
    (hbad : ∀ v : Nat, (v : Int) < first + (ands.length : Int) → badG ins given v = false) (hcons : ∀ v : Nat, (v : Int) < first + (ands.length : Int) → 0 ≤ rd given (v : Int) → rdOf false (frameV acc ands) (v : Int) = valV (frameV acc ands) (rd given (v : Int))) :
    ∀ k : Nat, (k : Int) ≤ first + (ands.length : Int) → ∀ v : Nat, v < k → valV (frameV acc (runB first ands given k).1) (rd (runB first ands given k).2 (v : Int)) = rdOf false (frameV acc ands) (v : Int) := by
  intro k
  induction k with
  | zero => intro _ v hv; omega
  | succ k ih =>
    intro hk v hv
    have ih := ih (by omega)
    obtain ⟨i1, i2, i3, i4⟩ := inv_run (first := first) (ands := ands) (given := given) (ins := ins) (by omega) ha hN k (by omega) (fun v hv => hbad v (by omega))
    have hbk := hbad k (by omega)
    rw [runB]
    generalize runB first ands given k = s at ih i1 i2 i3 i4 ⊢
    obtain ⟨G, T⟩ := s
    dsimp only at ih i1 i2 i3 i4 ⊢
    have hg1 := fine_gates hb i1
    have hT : ∀ u : Nat, u < k → 0 ≤ rd T (u : Int) ∧ rd T (u : Int) / 2 < first + (G.length : Int) := fun u hu => i4 _ (rd_mem T (u : Int) (by omega) (by omega))
    have old : ∀ (x : Int) (u : Nat), u < k → rd (T ++ [x]) (u : Int) = rd T (u : Int) := fun x u hu => rd_left T [x] (u : Int) (by omega) (by omega)
    have new : ∀ x : Int, rd (T ++ [x]) (k : Int) = x := fun x => by rw [← i2]; simp [rd, List.getD]
    have lit : ∀ l : Int, 0 ≤ l → l ≤ 1000000 → l / 2 < (k : Int) → valV (frameV acc G) (sgnP T l) = valV (frameV acc ands) l := fun l h0 h1 h2 => by
      obtain ⟨u, hu⟩ : ∃ u : Nat, l / 2 = (u : Int) := ⟨(l / 2).toNat, by omega⟩
      have := hT u (by omega)
      exact sgn_val _ _ T l h0 (by omega) (by rw [hu]; omega) (by rw [hu]; omega) (by rw [hu]; exact ih u (by omega))
    unfold stepB
    dsimp only
    rw [i2]
    by_cases c : 0 ≤ rd given (k : Int)
    · rw [if_pos c]
      dsimp only
      rcases Nat.lt_or_ge v k with h | h
      · rw [old _ v h]; exact ih v h
      · obtain rfl : v = k := by omega
        have hb2 := badG_not hbk c
        rw [new, lit _ c (by omega) (by omega), hcons v (by omega) c]
    · rw [if_neg c]
      by_cases d : (k : Int) < first
      · rw [if_pos d]
        dsimp only
        rcases Nat.lt_or_ge v k with h | h
        · rw [old _ v h]; exact ih v h
        · obtain rfl : v = k := by omega
          obtain ⟨E, hE⟩ := frameV_pre G acc
          obtain ⟨E2, hE2⟩ := frameV_pre ands acc
          rw [new, val_even, hE, hE2, rdOf_app acc E v (by omega), rdOf_app acc E2 v (by omega)]
      · rw [if_neg d]
        dsimp only
        obtain ⟨i, hi⟩ : ∃ i : Nat, (k : Int) - first = (i : Int) := ⟨((k : Int) - first).toNat, by omega⟩
        have hil : i < ands.length := by omega
        rw [hi, rdA_at ands i hil]
        obtain ⟨g0, g1, g2⟩ := hG i hil
        have p0 : 0 ≤ ands[i].f0 := by omega
        have sx := sgn_lit (B := first + (G.length : Int)) i4 (by omega) ands[i].f0 p0 (by omega) (by omega)
        have sy := sgn_lit (B := first + (G.length : Int)) i4 (by omega) ands[i].f1 g0 (by omega) (by omega)
        rcases Nat.lt_or_ge v k with h | h
        · have := hT v h
          rw [old _ v h, andP_keep _ this.1 (by omega)]
          exact ih v h
        · obtain rfl : v = k := by omega
          rw [new, andP_val hb hp ha0 hg1 sx.1 (by omega) sy.1 (by omega) (by omega), lit _ p0 (by omega) (by omega), lit _ g0 (by omega) (by omega), show (v : Int) = ((acc.length + i : Nat) : Int) by omega, frame_at hG i hil]
theorem built_of {a : Int} {l1 : List S36} {l2 : List S69} {l3 l4 g : List Int} (hs : Small l1 l2 l3 l4) (c : checkR a l1 l2 l3 l4 = 0) (hgl : (g.length : Int) = szS a l1 l2 + 1) (hgb : ∀ v : Nat, v < g.length → badG a g v = false) :
    checkR a (l1.map (fun x => (⟨sgnP (builtP a l1 l2 g).2 x.f0, x.f1⟩ : S36))) (builtP a l1 l2 g).1 (l3.map (sgnP (builtP a l1 l2 g).2)) (l4.map (sgnP (builtP a l1 l2 g).2)) = 0 ∧ Small (l1.map (fun x => (⟨sgnP (builtP a l1 l2 g).2 x.f0, x.f1⟩ : S36))) (builtP a l1 l2 g).1 (l3.map (sgnP (builtP a l1 l2 g).2)) (l4.map (sgnP (builtP a l1 l2 g).2)) ∧ Wf a (l1.map (fun x => (⟨sgnP (builtP a l1 l2 g).2 x.f0, x.f1⟩ : S36))) (builtP a l1 l2 g).1 (l3.map (sgnP (builtP a l1 l2 g).2)) (l4.map (sgnP (builtP a l1 l2 g).2)) ∧ (builtP a l1 l2 g).2.length = g.length := by
  have hg := good_of a l1 l2 l3 l4 c
  have ha0 := hg.a0
  have ha1 := hg.a1
  have hn := hg.n
  have hs1 := hs.h1
  have hs2 := hs.h2
  have hs3 := hs.h3
  have hs4 := hs.h4
  have hA : okA (a + (l1.length : Int) + 1) l2 = true := by
    have := okC_of (g := g) hg hs (by unfold szS at *; omega)
    unfold okC at this
    simp only [Bool.and_eq_true] at this
    exact this.1.1.1.1.2
  have hinv : InvB (a + (l1.length : Int) + 1) g.length (builtP a l1 l2 g) := inv_run (by omega) hA (by unfold szS at hn; omega) g.length (by unfold szS at hgl; omega) hgb
  generalize builtP a l1 l2 g = bp at *
  obtain ⟨G, T⟩ := bp
  obtain ⟨hgx, hGl⟩ := built_good hg hinv hgl
  have hlx := lens_of c
  have hT : T.length = g.length := hinv.len
  dsimp only
  have hsx : Small (l1.map (fun x => (⟨sgnP T x.f0, x.f1⟩ : S36))) G (l3.map (sgnP T)) (l4.map (sgnP T)) := ⟨by rw [List.length_map]; omega, by omega, by rw [List.length_map]; omega, by rw [List.length_map]; omega⟩
  exact ⟨check_of a _ G _ _ hgx (by rw [List.length_map]; omega) (by rw [List.length_map]; omega), hsx, good_wf hgx hsx.h2, hT⟩
theorem hbuild_ok {a : Int} {l1 : List S36} {l2 : List S69} {l3 l4 g : List Int} (hs : Small l1 l2 l3 l4) (hw : Wf a l1 l2 l3 l4) (c : checkR a l1 l2 l3 l4 = 0) (hgl : (g.length : Int) = szS a l1 l2 + 1) (hgb : ∀ v : Nat, v < g.length → badG a g v = false) :
    hash_Build.f a l1 l2 l3 l4 g = some (a, l1.map (fun x => ⟨sgnP (builtP a l1 l2 g).2 x.f0, x.f1⟩), (builtP a l1 l2 g).1, l3.map (sgnP (builtP a l1 l2 g).2), l4.map (sgnP (builtP a l1 l2 g).2), (builtP a l1 l2 g).2, 0) := by
  have hg := good_of a l1 l2 l3 l4 c
  have hn := hg.n
  unfold hash_Build.f
  rw [gvars_eq a l1 l2 l3 l4 hs hw, if_pos c, Option.bind_some]
  dsimp only
  rw [if_pos rfl, if_pos ⟨okC_of hg hs (by omega), rfl⟩, if_neg]
  rintro (h | h)
  · exact h hgl
  · obtain ⟨v, hv, hb⟩ := List.any_eq_true.1 h
    rw [hgb v (List.mem_range.1 hv)] at hb
    exact absurd hb (by decide)
theorem built_vals {a : Int} {l1 : List S36} {l2 : List S69} {l3 l4 g : List Int} {st inp : List Bool} (hs : Small l1 l2 l3 l4) (c : checkR a l1 l2 l3 l4 = 0) (e1 : st.length = l1.length) (e2 : (inp.length : Int) = a) (hgl : (g.length : Int) = szS a l1 l2 + 1) (hgb : ∀ v : Nat, v < g.length → badG a g v = false)
    (hc : ∀ v : Nat, v < g.length → 0 ≤ rd g (v : Int) → rdOf false (frameV (false :: (inp ++ st)) l2) (v : Int) = valV (frameV (false :: (inp ++ st)) l2) (rd g (v : Int))) :
    (∀ v : Nat, v < g.length → valV (frameV (false :: (inp ++ st)) (builtP a l1 l2 g).1) (rd (builtP a l1 l2 g).2 (v : Int)) = rdOf false (frameV (false :: (inp ++ st)) l2) (v : Int) ∧ 0 ≤ rd (builtP a l1 l2 g).2 (v : Int) ∧ rd (builtP a l1 l2 g).2 (v : Int) / 2 < ((frameV (false :: (inp ++ st)) (builtP a l1 l2 g).1).length : Int)) ∧
    (∀ l : Int, 0 ≤ l → l / 2 ≤ szS a l1 l2 → valV (frameV (false :: (inp ++ st)) (builtP a l1 l2 g).1) (sgnP (builtP a l1 l2 g).2 l) = valV (frameV (false :: (inp ++ st)) l2) l) := by
  have hg := good_of a l1 l2 l3 l4 c
  have ha0 := hg.a0
  have ha1 := hg.a1
  have hn := hg.n
  have hs1 := hs.h1
  have hs2 := hs.h2
  have hA : okA (a + (l1.length : Int) + 1) l2 = true := by
    have := okC_of (g := g) hg hs (by unfold szS at *; omega)
    unfold okC at this
    simp only [Bool.and_eq_true] at this
    exact this.1.1.1.1.2
  have hinv : InvB (a + (l1.length : Int) + 1) g.length (builtP a l1 l2 g) := inv_run (by omega) hA (by unfold szS at hn; omega) g.length (by unfold szS at hgl; omega) hgb
  have hacc : ((false :: (inp ++ st)).length : Int) = a + (l1.length : Int) + 1 := by simp; omega
  have hgat : Gates (false :: (inp ++ st)).length l2 := by
    have := hg.g
    rwa [show 1 + a.toNat + l1.length = (false :: (inp ++ st)).length by omega] at this
  have hcnt := built_good hg (N := g.length) (G := (builtP a l1 l2 g).1) (T := (builtP a l1 l2 g).2) hinv hgl
  have hrun := val_run (acc := false :: (inp ++ st)) (first := a + (l1.length : Int) + 1) (ins := a) (ands := l2) (given := g) hacc (by simp) rfl hA hgat (by unfold szS at hn; omega) (fun v hv => hgb v (by unfold szS at hgl; omega)) (fun v hv => hc v (by unfold szS at hgl; omega)) g.length (by unfold szS at hgl; omega)
  change ∀ v : Nat, v < g.length → valV (frameV (false :: (inp ++ st)) (builtP a l1 l2 g).1) (rd (builtP a l1 l2 g).2 (v : Int)) = _ at hrun
  have hlenF := frameV_len (builtP a l1 l2 g).1 (false :: (inp ++ st))
  have hGl := hcnt.2
  obtain ⟨i1, i2, i3, i4⟩ := hinv
  have hT : ∀ v : Nat, v < g.length → 0 ≤ rd (builtP a l1 l2 g).2 (v : Int) ∧ rd (builtP a l1 l2 g).2 (v : Int) / 2 < ((frameV (false :: (inp ++ st)) (builtP a l1 l2 g).1).length : Int) := fun v hv => by
    have := i4 _ (rd_mem (builtP a l1 l2 g).2 (v : Int) (by omega) (by omega))
    omega
  refine ⟨fun v hv => ⟨hrun v hv, hT v hv⟩, fun l h0 h1 => ?_⟩
  obtain ⟨u, hu⟩ : ∃ u : Nat, l / 2 = (u : Int) := ⟨(l / 2).toNat, by omega⟩
  have h2 := hT u (by omega)
  exact sgn_val _ _ _ l h0 (by omega) (by rw [hu]; exact h2.1) (by rw [hu]; unfold szS at *; omega) (by rw [hu]; exact hrun u (by omega))
def litL (a : Int) (n : Nat) : List Int := (List.range n).map (fun j : Nat => 2 * (a + 1 + (j : Int)))
def litR (n : Nat) : List Int := (List.range n).map (fun j : Nat => 2 * ((j : Int) + 1))
theorem litL_succ (a : Int) (n : Nat) : litL a (n + 1) = litL a n ++ [2 * (a + 1 + (n : Int))] := by simp [litL, List.range_succ]
theorem litR_succ (n : Nat) : litR (n + 1) = litR n ++ [2 * ((n : Int) + 1)] := by simp [litR, List.range_succ]
theorem litL_len (a : Int) (n : Nat) : (litL a n).length = n := by simp [litL]
theorem litR_len (n : Nat) : (litR n).length = n := by simp [litR]
theorem idx_l1 (a : Int) (a0 : 0 ≤ a) (a1 : a ≤ 10000) (l1 : List S36) (l2 : List S69) (l3 l4 : List Int) (s p lit : Int) (rows : List (List Int)) (n : Nat) (hn : n ≤ 10000) (d : Nat) : ∀ (k j : Nat), j + d = n → d < k → lift_Identity.l1 k (n : Int) (j : Int) a l1 l2 l3 l4 s p (litL a j) rows lit = some (s, p, litL a n, rows, litL a n, [], lit, 0) := by
  induction d with
  | zero =>
    intro k j hj hk
    obtain ⟨k, rfl⟩ : ∃ m, k = m + 1 := ⟨k - 1, by omega⟩
    simp only [lift_Identity.l1]
    obtain rfl : j = n := by omega
    rw [if_neg (by omega)]
    unfold slices_Clone_int_int.f
    rw [if_pos (by rw [litL_len]; omega)]
    rfl
  | succ d ih =>
    intro k j hj hk
    obtain ⟨k, rfl⟩ : ∃ m, k = m + 1 := ⟨k - 1, by omega⟩
    simp only [lift_Identity.l1]
    rw [if_pos (by omega), if_pos (by rw [litL_len]; omega), w64 (a + 1) (by omega) (by omega), w64 (a + 1 + (j : Int)) (by omega) (by omega), w64 (2 * (a + 1 + (j : Int))) (by omega) (by omega), w64 ((j : Int) + 1) (by omega) (by omega), ← litL_succ, show (j : Int) + 1 = ((j + 1 : Nat) : Int) by omega]
    exact ih k (j + 1) (by omega) (by omega)
theorem idx_l0 (A : Nat) (hA : A ≤ 10000) (l1 : List S36) (l2 : List S69) (l3 l4 : List Int) (s p lit : Int) (hn : l1.length ≤ 10000) (d : Nat) : ∀ (k v : Nat), v + d = A → d + l1.length + 1 < k → lift_Identity.l0 k ((v : Int) + 1) (A : Int) l1 l2 l3 l4 s p [litR v] lit = some (s, p, litL (A : Int) l1.length, [litR A], litL (A : Int) l1.length, [], lit, 0) := by
  induction d with
  | zero =>
    intro k v hv hk
    obtain ⟨k, rfl⟩ : ∃ m, k = m + 1 := ⟨k - 1, by omega⟩
    simp only [lift_Identity.l0]
    obtain rfl : v = A := by omega
    rw [if_neg (by omega)]
    exact idx_l1 (v : Int) (by omega) (by omega) l1 l2 l3 l4 s p lit _ l1.length hn l1.length k 0 (by omega) (by omega)
  | succ d ih =>
    intro k v hv hk
    obtain ⟨k, rfl⟩ : ∃ m, k = m + 1 := ⟨k - 1, by omega⟩
    simp only [lift_Identity.l0]
    have er : rd_L4 [litR v] 0 = litR v := rfl
    have es : ([litR v] : List (List Int)).set (0 : Int).toNat (litR v ++ [2 * ((v : Int) + 1)]) = [litR (v + 1)] := by rw [litR_succ]; rfl
    first | rw [show rd_L5 [litR v] 0 = litR v from rfl] | rw [show rd_L4 [litR v] 0 = litR v from rfl]
    rw [if_pos (by omega), if_pos (by simp), if_pos (by rw [litR_len]; omega), w64 (2 * ((v : Int) + 1)) (by omega) (by omega), es, w64 ((v : Int) + 1 + 1) (by omega) (by omega), show (v : Int) + 1 + 1 = ((v + 1 : Nat) : Int) + 1 by omega]
    exact ih k (v + 1) (by omega) (by omega)
theorem idx_eq (k : Nat) (A : Nat) (l1 : List S36) (l2 : List S69) (l3 l4 : List Int) (hs : Small l1 l2 l3 l4) (hw : Wf (A : Int) l1 l2 l3 l4) (hc : checkR (A : Int) l1 l2 l3 l4 = 0) (hk : 2000 ≤ k) : lift_Identity.f k (A : Int) l1 l2 l3 l4 = some (0, 1, litL (A : Int) l1.length, [litR A], litL (A : Int) l1.length, [], 1, 0) := by
  have hg := good_of _ l1 l2 l3 l4 hc
  have ha0 := hg.a0
  have ha1 := hg.a1
  have hs1 := hs.h1
  unfold lift_Identity.f
  rw [gcheck_eq _ l1 l2 l3 l4 hs hw, Option.bind_some, hc, if_pos rfl, if_pos (by decide)]
  have := idx_l0 A (by omega) l1 l2 l3 l4 0 1 1 (by omega) A k 0 (by omega) (by omega)
  exact this
def toT (l : List Bool) : List Int := l.map fun b => if b = true then 1 else 0
theorem toT_rd (l : List Bool) (j : Int) : rd (toT l) j = if rdOf false l j = true then 1 else 0 := by
  unfold rd rdOf toT
  rcases Nat.lt_or_ge j.toNat l.length with h | h
  · simp [List.getD, h]
  · simp [List.getD, List.getElem?_eq_none h]
theorem toT_V2 (l : List Bool) : V2 (toT l) := by
  intro x hx
  obtain ⟨b, _, rfl⟩ := List.mem_map.1 hx
  split <;> omega
theorem toT_len (l : List Bool) : (toT l).length = l.length := by simp [toT]
theorem toT_le2 (l : List Bool) : le2 (toT l) = true := List.all_eq_true.2 fun x hx => decide_eq_true (toT_V2 l x hx).2
theorem ofT_l0 (l : List Bool) (hl : l.length ≤ 100000) (d : Nat) : ∀ (k j : Nat) (acc : List Int), j + d = l.length → d < k → acc.length = j →
    spiritlevelref05_Of.l0 k l acc (j : Int) = some (acc ++ toT (l.drop j)) := by
  induction d with
  | zero =>
    intro k j acc hj hk _
    obtain ⟨k, rfl⟩ : ∃ m, k = m + 1 := ⟨k - 1, by omega⟩
    simp only [spiritlevelref05_Of.l0]
    rw [if_neg (by omega), List.drop_of_length_le (by omega)]; simp [toT]
  | succ d ih =>
    intro k j acc hj hk ha
    obtain ⟨k, rfl⟩ : ∃ m, k = m + 1 := ⟨k - 1, by omega⟩
    have hlt : j < l.length := by omega
    have hal : acc.length < 140737488355328 := by omega
    have ra : rdOf false l (j : Int) = l[j] := by simp [rdOf, List.getD, hlt]
    simp only [spiritlevelref05_Of.l0]
    rw [if_pos (by omega), if_pos (by omega), ra, List.drop_eq_getElem_cons hlt, if_pos hal, if_pos hal, w64 ((j : Int) + 1) (by omega) (by omega), show ((j : Int) + 1) = ((j + 1 : Nat) : Int) by omega, ih k (j + 1) _ (by omega) (by omega) (by simp; omega), ih k (j + 1) _ (by omega) (by omega) (by simp; omega)]
    unfold toT
    cases l[j] <;> simp
theorem ofT_eq (k : Nat) (l : List Bool) (hl : l.length ≤ 100000) (hk : l.length < k) : spiritlevelref05_Of.f k l = some (toT l) := by
  unfold spiritlevelref05_Of.f
  have := ofT_l0 l hl l.length k 0 [] (by omega) hk rfl
  simpa using this
-- ternary simulation: the states
def stepS (A : Nat) (l1 : List S36) (l2 : List S69) (s : List Int) : List Int := nextS (frameS (0 :: (List.replicate A 2 ++ s)) l2) l1
def walkS (A : Nat) (l1 : List S36) (l2 : List S69) : Nat → List (List Int) → List Int → Option (List (List Int))
  | 0, _, _ => none
  | n + 1, l, s => if l.contains s = true then some l else if l.length = 64 then none else walkS A l1 l2 n (l ++ [s]) (stepS A l1 l2 s)
def statesP (A : Nat) (l1 : List S36) (l2 : List S69) : Option (List (List Int)) := walkS A l1 l2 66 [] (firstS l1)
def St (l1 : List S36) (s : List Int) : Prop := s.length = l1.length ∧ V2 s
theorem V2_rep (A : Nat) : V2 (List.replicate A 2) := fun x hx => by rw [List.eq_of_mem_replicate hx]; omega
section
variable {A : Nat} {l1 : List S36} {l2 : List S69} {l3 l4 : List Int}
theorem first_St (hg : Good (A : Int) l1 l2 l3 l4) : St l1 (firstS l1) := by
  refine ⟨by simp [firstS], fun x hx => ?_⟩
  obtain ⟨y, hy, rfl⟩ := List.mem_map.1 hx
  exact (hg.l y hy).2
theorem step_St (hg : Good (A : Int) l1 l2 l3 l4) {s : List Int} (h : St l1 s) : St l1 (stepS A l1 l2 s) := by
  have li : ((List.replicate A (2 : Int)).length : Int) = (A : Int) := by rw [List.length_replicate]
  have hf := frame_facts hg h.1 li h.2 (V2_rep A)
  have hl := good_l hg h.1 li h.2 (V2_rep A)
  refine ⟨by simp [stepS, nextS], fun x hx => ?_⟩
  obtain ⟨y, hy, rfl⟩ := List.mem_map.1 hx
  exact valT_rng _ hf.2 _ (hl y hy).1 (hl y hy).2
theorem le2_V2 {l : List Int} (h : V2 l) : le2 l = true := List.all_eq_true.2 (fun x hx => decide_eq_true (h x hx).2)
theorem next_St (k : Nat) (hs : Small l1 l2 l3 l4) (hw : Wf (A : Int) l1 l2 l3 l4) (c : checkR (A : Int) l1 l2 l3 l4 = 0) {s : List Int} (h : St l1 s) (hk : 300 ≤ k) :
    ternary_Next.f k (A : Int) l1 l2 l3 l4 s (List.replicate A 2) = some (stepS A l1 l2 s, 0) := by
  rw [tNext_eq k _ l1 l2 l3 l4 s _ hs hw (fun x hx => (h.2 x hx).1) (fun x hx => (V2_rep A x hx).1) hk]
  have hask : askedS (A : Int) l1 l2 l3 l4 s (List.replicate A 2) = 0 := by
    unfold askedS
    rw [c, le2_V2 h.2, le2_V2 (V2_rep A)]
    simp [h.1]
  unfold nextA
  rw [if_pos hask]; rfl
theorem okU_St (hs : Small l1 l2 l3 l4) {s : List Int} (h : St l1 s) : okU s = true := by
  have := hs.h1
  unfold okU
  rw [Bool.and_eq_true, decide_eq_true_eq, List.all_eq_true]
  refine ⟨by have := h.1; omega, fun x hx => decide_eq_true (by have := h.2 x hx; omega)⟩
theorem statesL_eq (k : Nat) (hs : Small l1 l2 l3 l4) (hw : Wf (A : Int) l1 l2 l3 l4) (c : checkR (A : Int) l1 l2 l3 l4 = 0) (hk : 300 ≤ k) : ∀ (n : Nat) (l : List (List Int)) (s : List Int), l.length + n = 66 → l.length ≤ 64 → St l1 s →
    statesL k (A : Int) l1 l2 l3 l4 (List.replicate A 2) n l s = some (match walkS A l1 l2 n l s with | some t => (t, 0) | none => ([], 6))
  | 0, l, s, h, h2, _ => by omega
  | n + 1, l, s, h, h2, hS => by
    unfold statesL walkS
    rw [if_pos (okU_St hs hS)]
    by_cases c1 : l.contains s = true
    · rw [if_pos c1, if_pos c1]
    · rw [if_neg c1, if_neg c1]
      by_cases c2 : l.length = 64
      · rw [if_pos c2, if_pos c2]
      · rw [if_neg c2, if_neg c2, next_St k hs hw c hS hk, Option.bind_some]
        exact statesL_eq k hs hw c hk n (l ++ [s]) _ (by simp; omega) (by simp; omega) (step_St (good_of _ _ _ _ _ c) hS)
def statesR (a : Int) (A : Nat) (l1 : List S36) (l2 : List S69) (l3 l4 : List Int) : List (List Int) × Int :=
  if checkR a l1 l2 l3 l4 = 0 then (match statesP A l1 l2 with | some t => (t, 0) | none => ([], 6)) else ([], checkR a l1 l2 l3 l4)
theorem tstates_eq (k : Nat) (a : Int) (ha : 0 ≤ a → a = (A : Int)) (hs : Small l1 l2 l3 l4) (hw : Wf a l1 l2 l3 l4) (hk : 300 ≤ k) : ternsim_States.f k a l1 l2 l3 l4 = some (statesR a A l1 l2 l3 l4) := by
  unfold ternsim_States.f statesR
  rw [tFirst_eq k a l1 l2 l3 l4 hs hw hk, Option.bind_some]
  unfold firstA
  by_cases c : checkR a l1 l2 l3 l4 = 0
  · rw [if_pos c, if_pos c, if_pos rfl]
    have hg := good_of _ _ _ _ _ c
    have hn := hg.a1
    obtain rfl := ha hg.a0
    have hr : slices_Repeat_uint8_uint8.f [2] (A : Int) = some (List.replicate A 2) := by
      unfold slices_Repeat_uint8_uint8.f
      rw [if_pos ⟨rfl, by omega, by omega⟩, Int.toNat_natCast]; rfl
    rw [hr, Option.bind_some]
    exact statesL_eq k hs hw c hk 66 [] _ rfl (by simp) (first_St hg)
  · rw [if_neg c, if_neg c, if_neg c]
theorem rdL4_at (l : List (List Int)) (j : Nat) (h : j < l.length) : rd_L4 l (j : Int) = l[j] := by simp [rd_L4, List.getD, h]
theorem walk_ok (hg : Good (A : Int) l1 l2 l3 l4) : ∀ (n : Nat) (l : List (List Int)) (s : List Int) (t : List (List Int)), walkS A l1 l2 n l s = some t → l.length ≤ 64 → (∀ x ∈ l, St l1 x) → St l1 s → (∀ x ∈ t, St l1 x) ∧ t.length ≤ 64 ∧ ∃ r, t = l ++ r
  | 0, l, s, t, h, _, _, _ => by simp [walkS] at h
  | n + 1, l, s, t, h, hl, hS, hs => by
    unfold walkS at h
    by_cases c1 : l.contains s = true
    · rw [if_pos c1] at h
      obtain rfl := Option.some.inj h
      exact ⟨hS, hl, [], by simp⟩
    · rw [if_neg c1] at h
      by_cases c2 : l.length = 64
      · rw [if_pos c2] at h; cases h
      · rw [if_neg c2] at h
        obtain ⟨h1, h2, r, h3⟩ := walk_ok hg n (l ++ [s]) _ t h (by simp; omega) (fun x hx => by
          rcases List.mem_append.1 hx with hx | hx
          · exact hS x hx
          · rw [List.mem_singleton.1 hx]; exact hs) (step_St hg hs)
        exact ⟨h1, h2, s :: r, by rw [h3]; simp⟩
theorem states_ok (hg : Good (A : Int) l1 l2 l3 l4) {t : List (List Int)} (h : statesP A l1 l2 = some t) : (∀ x ∈ t, St l1 x) ∧ t.length ≤ 64 ∧ 0 < t.length := by
  unfold statesP at h
  unfold walkS at h
  rw [if_neg (by simp), if_neg (by simp), List.nil_append] at h
  have hf := first_St hg
  obtain ⟨h1, h2, r, h3⟩ := walk_ok hg 65 [firstS l1] _ t h (by simp) (fun x hx => by rw [List.mem_singleton.1 hx]; exact hf) (step_St hg hf)
  exact ⟨h1, h2, by rw [h3]; simp⟩
end
-- ternary simulation: what is given
theorem xu8_rng (a b : Int) (a0 : 0 ≤ a) (a1 : a ≤ 2) (b0 : 0 ≤ b) (b1 : b ≤ 2) : 0 ≤ Go.bits .xor .u8 a b ∧ Go.bits .xor .u8 a b ≤ 3 := by
  rcases (show a = 0 ∨ a = 1 ∨ a = 2 by omega) with rfl | rfl | rfl <;> rcases (show b = 0 ∨ b = 1 ∨ b = 2 by omega) with rfl | rfl | rfl <;> decide
def conA (l : List (List Int)) (x : Int) : Int := if l.all (fun s => decide (rd s x = rd (rd_L4 l 0) x) && decide (rd (rd_L4 l 0) x ≠ 2)) = true then rd (rd_L4 l 0) x else -1
def tieA (l : List (List Int)) (x y : Int) : Int := if l.all (fun s => decide (rd s x ≠ 2) && decide (rd s y ≠ 2) && decide (Go.bits .xor .u8 (rd s x) (rd s y) = Go.bits .xor .u8 (rd (rd_L4 l 0) x) (rd (rd_L4 l 0) y))) = true then Go.bits .xor .u8 (rd (rd_L4 l 0) x) (rd (rd_L4 l 0) y) else -1
def tieG (a : Int) (l : List (List Int)) (x : Int) : Nat → Nat → Int → Int
  | 0, _, g => g
  | d + 1, k, g => if g < 0 then (if 0 ≤ tieA l x (k : Int) then 2 * (a + 1 + (k : Int)) + tieA l x (k : Int) else tieG a l x d (k + 1) g) else g
def givenP (a : Int) (l : List (List Int)) (n : Nat) : List Int := (List.range n).map fun i : Nat => tieG a l (i : Int) i 0 (conA l (i : Int))
theorem tieG_pos (a : Int) (l : List (List Int)) (x : Int) (d k : Nat) (g : Int) (h : 0 ≤ g) : tieG a l x d k g = g := by
  cases d with
  | zero => rfl
  | succ d => rw [tieG, if_neg (by omega)]
section
variable {l : List (List Int)} {m : Nat}
theorem rdV (hS : ∀ s ∈ l, s.length = m ∧ V2 s) (i : Nat) (hi : i < l.length) (x : Int) (x0 : 0 ≤ x) (x1 : x < (m : Int)) : (0 ≤ rd l[i] x ∧ rd l[i] x ≤ 2) ∧ x < (l[i].length : Int) := by
  have h := hS _ (List.getElem_mem hi)
  exact ⟨rd_rng _ h.2 x x0 (by omega), by omega⟩
theorem tcon_l0 (hl : l.length ≤ 1000) (hS : ∀ s ∈ l, s.length = m ∧ V2 s) (x v : Int) (x0 : 0 ≤ x) (x1 : x < (m : Int)) (d : Nat) : ∀ (k j : Nat), j + d = l.length → d < k →
    ternsim_constant.l0 k x v l (l.length : Int) (j : Int) = some (if (l.drop j).all (fun s => decide (rd s x = v) && decide (v ≠ 2)) = true then wrap64 v else -1) := by
  induction d with
  | zero =>
    intro k j hj hk
    obtain ⟨k, rfl⟩ : ∃ m, k = m + 1 := ⟨k - 1, by omega⟩
    simp only [ternsim_constant.l0]
    rw [if_neg (by omega), List.drop_of_length_le (by omega)]; rfl
  | succ d ih =>
    intro k j hj hk
    obtain ⟨k, rfl⟩ : ∃ m, k = m + 1 := ⟨k - 1, by omega⟩
    have h1 : j < l.length := by omega
    have hv := rdV hS j h1 x x0 x1
    simp only [ternsim_constant.l0]
    rw [if_pos (by omega), if_pos (by omega), if_pos (by omega), if_pos x0, rdL4_at l j h1, if_pos hv.2, w64 ((j : Int) + 1) (by omega) (by omega), show ((j : Int) + 1) = ((j + 1 : Nat) : Int) by omega, ih k (j + 1) (by omega) (by omega), List.drop_eq_getElem_cons h1, List.all_cons]
    by_cases c : rd l[j] x = v
    · rw [if_pos c, decide_eq_true c, Bool.true_and]
      by_cases c2 : v = 2
      · rw [if_pos c2, decide_eq_false (show ¬ v ≠ 2 by simpa using c2)]; simp
      · rw [if_neg c2, decide_eq_true (show v ≠ 2 from c2)]; simp
    · rw [if_neg c, decide_eq_false c]; simp
theorem tcon_eq (k : Nat) (hl : l.length ≤ 1000) (hp : 0 < l.length) (hS : ∀ s ∈ l, s.length = m ∧ V2 s) (x : Int) (x0 : 0 ≤ x) (x1 : x < (m : Int)) (hk : 1000 < k) : ternsim_constant.f k l x = some (conA l x) := by
  have h0 := rdV hS 0 hp x x0 x1
  have e0 : rd_L4 l 0 = l[0] := rdL4_at l 0 hp
  unfold ternsim_constant.f conA
  rw [if_pos (by omega), if_pos x0, e0, if_pos h0.2]
  have := tcon_l0 hl hS x (rd l[0] x) x0 x1 l.length k 0 (by omega) (by omega)
  rw [show ((0 : Nat) : Int) = 0 from rfl, List.drop_zero, w64 _ (by omega) (by omega)] at this
  exact this
theorem ttie_l0 (hl : l.length ≤ 1000) (hS : ∀ s ∈ l, s.length = m ∧ V2 s) (x y v : Int) (x0 : 0 ≤ x) (x1 : x < (m : Int)) (y0 : 0 ≤ y) (y1 : y < (m : Int)) (v0 : 0 ≤ v) (v1 : v ≤ 3) (d : Nat) : ∀ (k j : Nat), j + d = l.length → d < k →
    ternsim_tied.l0 k x y v l (l.length : Int) (j : Int) = some (if (l.drop j).all (fun s => decide (rd s x ≠ 2) && decide (rd s y ≠ 2) && decide (Go.bits .xor .u8 (rd s x) (rd s y) = v)) = true then v else -1) := by
  induction d with
  | zero =>
    intro k j hj hk
    obtain ⟨k, rfl⟩ : ∃ m, k = m + 1 := ⟨k - 1, by omega⟩
    simp only [ternsim_tied.l0]
    rw [if_neg (by omega), List.drop_of_length_le (by omega), w64 _ (by omega) (by omega)]; rfl
  | succ d ih =>
    intro k j hj hk
    obtain ⟨k, rfl⟩ : ∃ m, k = m + 1 := ⟨k - 1, by omega⟩
    have h1 : j < l.length := by omega
    have hv := rdV hS j h1 x x0 x1
    have hu := rdV hS j h1 y y0 y1
    simp only [ternsim_tied.l0]
    rw [if_pos (by omega), if_pos (by omega), if_pos (by omega), if_pos x0, rdL4_at l j h1, if_pos hv.2, if_pos y0, if_pos hu.2, w64 ((j : Int) + 1) (by omega) (by omega), show ((j : Int) + 1) = ((j + 1 : Nat) : Int) by omega, ih k (j + 1) (by omega) (by omega), List.drop_eq_getElem_cons h1, List.all_cons]
    by_cases c : rd l[j] x = 2
    · rw [if_pos c, decide_eq_false (show ¬ rd l[j] x ≠ 2 by simpa using c)]; simp
    · rw [if_neg c, decide_eq_true (show rd l[j] x ≠ 2 from c), Bool.true_and]
      by_cases c2 : rd l[j] y = 2
      · rw [if_pos c2, decide_eq_false (show ¬ rd l[j] y ≠ 2 by simpa using c2)]; simp
      · rw [if_neg c2, decide_eq_true (show rd l[j] y ≠ 2 from c2), Bool.true_and]
        by_cases c3 : Go.bits .xor .u8 (rd l[j] x) (rd l[j] y) = v
        · rw [if_pos c3, decide_eq_true c3, Bool.true_and]
        · rw [if_neg c3, decide_eq_false c3]; simp
theorem ttie_eq (k : Nat) (hl : l.length ≤ 1000) (hp : 0 < l.length) (hS : ∀ s ∈ l, s.length = m ∧ V2 s) (x y : Int) (x0 : 0 ≤ x) (x1 : x < (m : Int)) (y0 : 0 ≤ y) (y1 : y < (m : Int)) (hk : 1000 < k) : ternsim_tied.f k l x y = some (tieA l x y) := by
  have h0 := rdV hS 0 hp x x0 x1
  have g0 := rdV hS 0 hp y y0 y1
  have hxu := xu8_rng _ _ h0.1.1 h0.1.2 g0.1.1 g0.1.2
  have e0 : rd_L4 l 0 = l[0] := rdL4_at l 0 hp
  unfold ternsim_tied.f tieA
  rw [if_pos (by omega), if_pos x0, e0, if_pos h0.2, if_pos y0, if_pos g0.2]
  have := ttie_l0 hl hS x y _ x0 x1 y0 y1 hxu.1 hxu.2 l.length k 0 (by omega) (by omega)
  rw [show ((0 : Nat) : Int) = 0 from rfl, List.drop_zero] at this
  exact this
theorem tieA_rng (hp : 0 < l.length) (hS : ∀ s ∈ l, s.length = m ∧ V2 s) (x y : Int) (x0 : 0 ≤ x) (x1 : x < (m : Int)) (y0 : 0 ≤ y) (y1 : y < (m : Int)) : -1 ≤ tieA l x y ∧ tieA l x y ≤ 3 := by
  have h0 := rdV hS 0 hp x x0 x1
  have g0 := rdV hS 0 hp y y0 y1
  have hxu := xu8_rng _ _ h0.1.1 h0.1.2 g0.1.1 g0.1.2
  have e0 : rd_L4 l 0 = l[0] := rdL4_at l 0 hp
  unfold tieA
  rw [e0]
  split <;> omega
end
section
variable {l : List (List Int)} {m : Nat} {a : Int} {l1 : List S36} {l2 : List S69} {l3 l4 : List Int}
theorem tgiv_l1 (hl : l.length ≤ 1000) (hp : 0 < l.length) (hS : ∀ s ∈ l, s.length = m ∧ V2 s) (a0 : 0 ≤ a) (a1 : a ≤ 1000) (hm : m ≤ 100) (i : Nat) (hi : i < m) (R : Option (List Int)) (K : Nat) (hK : 2000 ≤ K) (F : Int → List Int) (hF : ∀ g g', (F g).set i g' = F g') (hr : ∀ g, rd (F g) (i : Int) = g) (hlen : ∀ g, (F g).length = m)
    (hR : ∀ k, K ≤ k → ternsim_given.l0 k l (F (tieG a l (i : Int) i 0 (conA l (i : Int)))) (m : Int) ((i + 1 : Nat) : Int) a l1 l2 l3 l4 = R) (d : Nat) : ∀ (k j : Nat) (g : Int), j + d = i → tieG a l (i : Int) d j g = tieG a l (i : Int) i 0 (conA l (i : Int)) → K + 2 * d + 3 ≤ k →
    ternsim_given.l1 k l (F g) (i : Int) (j : Int) (m : Int) (i : Int) a l1 l2 l3 l4 = R := by
  induction d with
  | zero =>
    intro k j g hj hg hk
    obtain ⟨k, rfl⟩ : ∃ m, k = m + 2 := ⟨k - 2, by omega⟩
    simp only [ternsim_given.l1, ternsim_given.j2]
    rw [if_neg (by omega), if_neg (by decide), w64 ((i : Int) + 1) (by omega) (by omega), show ((i : Int) + 1) = ((i + 1 : Nat) : Int) by omega]
    rw [tieG] at hg
    rw [hg]
    exact hR k (by omega)
  | succ d ih =>
    intro k j g hj hg hk
    obtain ⟨k, rfl⟩ : ∃ m, k = m + 2 := ⟨k - 2, by omega⟩
    simp only [ternsim_given.l1, ternsim_given.j2]
    rw [if_pos (by omega), if_pos (by omega), hlen, if_pos (by omega), hr]
    by_cases c : g < 0
    · have ht := tieA_rng hp hS (i : Int) (j : Int) (by omega) (by omega) (by omega) (by omega)
      rw [decide_eq_true c, if_pos rfl, ttie_eq k hl hp hS _ _ (by omega) (by omega) (by omega) (by omega) (by omega), Option.bind_some, w64 ((j : Int) + 1) (by omega) (by omega), show ((j : Int) + 1) = ((j + 1 : Nat) : Int) by omega]
      rw [tieG, if_pos c] at hg
      by_cases c2 : 0 ≤ tieA l (i : Int) (j : Int)
      · rw [if_pos c2] at hg
        rw [if_pos (show tieA l (i : Int) (j : Int) ≥ 0 from c2), if_pos (by omega), if_pos (by omega), Int.toNat_natCast, hF, w64 (a + 1) (by omega) (by omega), w64 (a + 1 + (j : Int)) (by omega) (by omega), w64 (2 * (a + 1 + (j : Int))) (by omega) (by omega), w64 (2 * (a + 1 + (j : Int)) + tieA l (i : Int) (j : Int)) (by omega) (by omega)]
        exact ih k (j + 1) _ (by omega) (by rw [tieG_pos _ _ _ _ _ _ (by omega), hg]) (by omega)
      · rw [if_neg c2] at hg
        rw [if_neg (show ¬ tieA l (i : Int) (j : Int) ≥ 0 from c2)]
        exact ih k (j + 1) _ (by omega) hg (by omega)
    · rw [decide_eq_false c, if_neg (by decide), w64 ((i : Int) + 1) (by omega) (by omega), show ((i : Int) + 1) = ((i + 1 : Nat) : Int) by omega]
      rw [tieG, if_neg c] at hg
      rw [hg]
      exact hR k (by omega)
theorem givenP_succ (a : Int) (l : List (List Int)) (n : Nat) : givenP a l (n + 1) = givenP a l n ++ [tieG a l (n : Int) n 0 (conA l (n : Int))] := by simp [givenP, List.range_succ]
theorem givenP_len (a : Int) (l : List (List Int)) (n : Nat) : (givenP a l n).length = n := by simp [givenP]
theorem tgiv_l0 (hl : l.length ≤ 1000) (hp : 0 < l.length) (hS : ∀ s ∈ l, s.length = m ∧ V2 s) (a0 : 0 ≤ a) (a1 : a ≤ 1000) (hm : m ≤ 100) (d : Nat) : ∀ (k i : Nat), i + d = m → 3000 + 300 * d ≤ k →
    ternsim_given.l0 k l (givenP a l i ++ List.replicate d 0) (m : Int) (i : Int) a l1 l2 l3 l4 = some (givenP a l m) := by
  induction d with
  | zero =>
    intro k i hi hk
    obtain ⟨k, rfl⟩ : ∃ m, k = m + 1 := ⟨k - 1, by omega⟩
    obtain rfl : i = m := by omega
    simp only [ternsim_given.l0]
    rw [if_neg (by omega)]; simp
  | succ d ih =>
    intro k i hi hk
    obtain ⟨k, rfl⟩ : ∃ m, k = m + 1 := ⟨k - 1, by omega⟩
    have hgl := givenP_len a l i
    simp only [ternsim_given.l0]
    rw [if_pos (by omega), tcon_eq k hl hp hS _ (by omega) (by omega) (by omega), Option.bind_some, if_pos (by omega), if_pos (by rw [List.length_append, hgl, List.length_replicate]; omega), Int.toNat_natCast]
    have hset : ∀ g : Int, (givenP a l i ++ List.replicate (d + 1) 0).set i g = givenP a l i ++ g :: List.replicate d 0 := fun g => by
      rw [List.set_append, if_neg (by omega), hgl, Nat.sub_self, List.replicate_succ, List.set_cons_zero]
    rw [hset]
    obtain ⟨K, hK, hK0⟩ : ∃ K, K = 3000 + 300 * d ∧ 2000 ≤ K := ⟨_, rfl, Nat.le_trans (by decide) (Nat.le_add_right 3000 _)⟩
    refine tgiv_l1 hl hp hS a0 a1 hm i (by omega) _ K hK0 (fun g => givenP a l i ++ g :: List.replicate d 0) (fun g g' => ?_) (fun g => ?_) (fun g => ?_) (fun k hk => ?_) i k 0 _ (by omega) rfl (by omega)
    · rw [List.set_append, if_neg (by omega), hgl, Nat.sub_self, List.set_cons_zero]
    · rw [rd_at _ i (by rw [List.length_append, hgl]; simp)]
      rw [List.getElem_append_right (by omega)]; simp [hgl]
    · rw [List.length_append, hgl, List.length_cons, List.length_replicate]; omega
    · have := ih k (i + 1) (by omega) (by omega)
      rw [givenP_succ, List.append_assoc, List.singleton_append] at this
      exact this
theorem tgiven_eq (k : Nat) (hl : l.length ≤ 1000) (hp : 0 < l.length) (hS : ∀ s ∈ l, s.length = l1.length ∧ V2 s) (a0 : 0 ≤ a) (a1 : a ≤ 1000) (hm : l1.length ≤ 60) (hk : 30000 ≤ k) : ternsim_given.f k a l1 l2 l3 l4 l = some (givenP a l l1.length) := by
  unfold ternsim_given.f
  rw [if_pos (by omega), if_pos (by omega), Option.bind_some, Int.toNat_natCast, List.length_replicate]
  have := tgiv_l0 (l1 := l1) (l2 := l2) (l3 := l3) (l4 := l4) hl hp hS a0 a1 (by omega) l1.length k 0 (by omega) (by omega)
  rw [show ((0 : Nat) : Int) = 0 from rfl] at this
  simpa [givenP] using this
end
-- what is given holds where a state is covered
theorem cover_rd : ∀ (s b : List Int), coverS s b = true → s.length = b.length → ∀ j : Nat, j < s.length → rd s (j : Int) = 2 ∨ rd s (j : Int) = rd b (j : Int)
  | [], _, _, _, j, hj => absurd hj (by simp)
  | x :: s, [], _, h, j, hj => by simp at h
  | x :: s, y :: b, hc, hl, j, hj => by
    rw [coverS, Bool.and_eq_true] at hc
    cases j with
    | zero =>
      have h1 := hc.1
      simp only [Bool.or_eq_true, beq_iff_eq] at h1
      simpa [rd, List.getD] using h1
    | succ j =>
      have h2 := cover_rd s b hc.2 (by simpa using hl) j (by simpa using hj)
      have e : ∀ (z : Int) (l : List Int), rd (z :: l) ((j + 1 : Nat) : Int) = rd l (j : Int) := fun z l => by
        unfold rd
        rw [Int.toNat_natCast, Int.toNat_natCast]; simp [List.getD]
      rw [e, e]; exact h2
theorem covered_l0 (t : List (List Int)) (st : List Bool) (ht : t.length ≤ 64) (hst : st.length ≤ 1000) (hS : ∀ s ∈ t, s.length = st.length ∧ V2 s) (d : Nat) : ∀ (k j : Nat), j + d = t.length → d + 2000 < k →
    spiritlevellaw30_covered.l0 k t st (j : Int) = some ((t.drop j).any (fun s => coverS s (toT st))) := by
  induction d with
  | zero =>
    intro k j hj hk
    obtain ⟨k, rfl⟩ : ∃ m, k = m + 1 := ⟨k - 1, by omega⟩
    simp only [spiritlevellaw30_covered.l0]
    rw [if_neg (by omega), List.drop_of_length_le (by omega)]; rfl
  | succ d ih =>
    intro k j hj hk
    obtain ⟨k, rfl⟩ : ∃ m, k = m + 1 := ⟨k - 1, by omega⟩
    have h1 : j < t.length := by omega
    have hs := hS _ (List.getElem_mem h1)
    have a1 : t[j].all (fun x => decide (x ≤ 2)) = true := le2_V2 hs.2
    have a2 : (toT st).all (fun x => decide (x ≤ 2)) = true := toT_le2 st
    have hcv : ternary_Covers.f k t[j] (toT st) = some (coverS t[j] (toT st), 0) := by rw [covers_eq k _ _ (by omega) (by omega), if_pos ⟨a1, a2⟩, if_pos (by rw [hs.1, toT_len])]
    simp only [spiritlevellaw30_covered.l0, spiritlevellaw30_boolean.f]
    rw [if_pos (by omega), if_pos (by omega), ofT_eq k st (by omega) (by omega), Option.bind_some, Option.bind_some, rdL4_at t j h1, hcv, Option.bind_some, w64 ((j : Int) + 1) (by omega) (by omega), show ((j : Int) + 1) = ((j + 1 : Nat) : Int) by omega, ih k (j + 1) (by omega) (by omega), List.drop_eq_getElem_cons h1, List.any_cons]
    by_cases c : coverS t[j] (toT st) = true
    · rw [if_pos c, c]; rfl
    · rw [if_neg c, Bool.eq_false_iff.mpr c, Bool.false_or]
      exact if_pos rfl
theorem covered_eq (k : Nat) (t : List (List Int)) (st : List Bool) (ht : t.length ≤ 64) (hst : st.length ≤ 1000) (hS : ∀ s ∈ t, s.length = st.length ∧ V2 s) (hk : 3000 ≤ k) : spiritlevellaw30_covered.f k t st = some (t.any (fun s => coverS s (toT st))) := by
  have := covered_l0 t st ht hst hS t.length k 0 (by omega) (by omega)
  rw [show ((0 : Nat) : Int) = 0 from rfl, List.drop_zero] at this
  exact this
theorem tieG_cases (a : Int) (l : List (List Int)) (x : Int) : ∀ (d j : Nat) (g : Int), tieG a l x d j g = g ∨ ∃ k : Nat, j ≤ k ∧ k < j + d ∧ 0 ≤ tieA l x (k : Int) ∧ tieG a l x d j g = 2 * (a + 1 + (k : Int)) + tieA l x (k : Int)
  | 0, j, g => .inl rfl
  | d + 1, j, g => by
    rw [tieG]
    by_cases c : g < 0
    · rw [if_pos c]
      by_cases c2 : 0 ≤ tieA l x (j : Int)
      · rw [if_pos c2]; exact .inr ⟨j, by omega, by omega, c2, rfl⟩
      · rw [if_neg c2]
        rcases tieG_cases a l x d (j + 1) g with h | ⟨k, h1, h2, h3, h4⟩
        · exact .inl h
        · exact .inr ⟨k, by omega, by omega, h3, h4⟩
    · rw [if_neg c]; exact .inl rfl
theorem conA_yes {l : List (List Int)} {x : Int} (h : 0 ≤ conA l x) : ∀ s ∈ l, rd s x = conA l x ∧ rd s x ≠ 2 := by
  unfold conA at h ⊢
  by_cases c : l.all (fun s => decide (rd s x = rd (rd_L4 l 0) x) && decide (rd (rd_L4 l 0) x ≠ 2)) = true
  · rw [if_pos c]
    intro s hs
    have h1 := List.all_eq_true.1 c s hs
    simp only [Bool.and_eq_true, decide_eq_true_eq] at h1
    exact ⟨h1.1, by rw [h1.1]; exact h1.2⟩
  · rw [if_neg c] at h; omega
theorem tieA_yes {l : List (List Int)} {x y : Int} (h : 0 ≤ tieA l x y) : ∀ s ∈ l, rd s x ≠ 2 ∧ rd s y ≠ 2 ∧ Go.bits .xor .u8 (rd s x) (rd s y) = tieA l x y := by
  unfold tieA at h ⊢
  by_cases c : l.all (fun s => decide (rd s x ≠ 2) && decide (rd s y ≠ 2) && decide (Go.bits .xor .u8 (rd s x) (rd s y) = Go.bits .xor .u8 (rd (rd_L4 l 0) x) (rd (rd_L4 l 0) y))) = true
  · rw [if_pos c]
    intro s hs
    have h1 := List.all_eq_true.1 c s hs
    simp only [Bool.and_eq_true, decide_eq_true_eq] at h1
    exact ⟨h1.1.1, h1.1.2, h1.2⟩
  · rw [if_neg c] at h; omega
theorem xu8_01 (a b : Int) (ha : a = 0 ∨ a = 1) (hb : b = 0 ∨ b = 1) : Go.bits .xor .u8 a b = if a = b then 0 else 1 := by
  rcases ha with rfl | rfl <;> rcases hb with rfl | rfl <;> decide
theorem given_lit {A n : Nat} {t : List (List Int)} (hp : 0 < t.length) (hS : ∀ s ∈ t, s.length = n ∧ V2 s) (i : Nat) (hi : i < n) : -1 ≤ rd (givenP (A : Int) t n) (i : Int) ∧ (0 ≤ rd (givenP (A : Int) t n) (i : Int) → rd (givenP (A : Int) t n) (i : Int) / 2 < (A : Int) + 1 + (i : Int) ∧ rd (givenP (A : Int) t n) (i : Int) < 2 * ((A : Int) + 1 + (i : Int))) := by
  have e : rd (givenP (A : Int) t n) (i : Int) = tieG (A : Int) t (i : Int) i 0 (conA t (i : Int)) := by
    rw [rd_at _ i (by rw [givenP_len]; exact hi)]; simp [givenP]
  rw [e]
  have h0 := rdV hS 0 hp (i : Int) (by omega) (by omega)
  have hc : -1 ≤ conA t (i : Int) ∧ conA t (i : Int) ≤ 1 := by
    by_cases c : 0 ≤ conA t (i : Int)
    · have h1 := conA_yes c _ (List.getElem_mem hp)
      omega
    · unfold conA at c ⊢
      split
      · rename_i c2; rw [if_pos c2] at c
        have e0 : rd_L4 t 0 = t[0] := rdL4_at t 0 hp
        rw [e0] at c ⊢; omega
      · omega
  rcases tieG_cases (A : Int) t (i : Int) i 0 (conA t (i : Int)) with h | ⟨k, h1, h2, h3, h4⟩
  · rw [h]; omega
  · have h5 := tieA_yes h3 _ (List.getElem_mem hp)
    have hk := rdV hS 0 hp (k : Int) (by omega) (by omega)
    have h6 := xu8_01 (rd t[0] (i : Int)) (rd t[0] (k : Int)) (by omega) (by omega)
    rw [h5.2.2] at h6
    rw [h4]
    split at h6 <;> omega
theorem given_val {A n : Nat} {t : List (List Int)} {st : List Bool} {F : List Bool} (hS : ∀ s ∈ t, s.length = n ∧ V2 s) (hst : st.length = n) (hcov : t.any (fun s => coverS s (toT st)) = true) (hF0 : rdOf false F 0 = false) (hF : ∀ j : Nat, j < n → rdOf false F ((A : Int) + 1 + (j : Int)) = rdOf false st (j : Int)) (i : Nat) (hi : i < n) (hg : 0 ≤ rd (givenP (A : Int) t n) (i : Int)) :
    valV F (rd (givenP (A : Int) t n) (i : Int)) = rdOf false F ((A : Int) + 1 + (i : Int)) := by
  obtain ⟨s, hs, hc⟩ := List.any_eq_true.1 hcov
  have hss := hS s hs
  have hrd : ∀ j : Nat, j < n → (0 ≤ rd s (j : Int) ∧ rd s (j : Int) ≤ 2) ∧ (rd s (j : Int) ≠ 2 → rd s (j : Int) = if rdOf false st (j : Int) = true then 1 else 0) := fun j hj => by
    refine ⟨rd_rng _ hss.2 _ (by omega) (by omega), fun h2 => ?_⟩
    rcases cover_rd s (toT st) hc (by rw [toT_len]; omega) j (by omega) with h | h
    · exact absurd h h2
    · rw [h, toT_rd]
  have e : rd (givenP (A : Int) t n) (i : Int) = tieG (A : Int) t (i : Int) i 0 (conA t (i : Int)) := by
    rw [rd_at _ i (by rw [givenP_len]; exact hi)]; simp [givenP]
  rw [e] at hg ⊢
  rw [hF i hi]
  have hri := hrd i hi
  rcases tieG_cases (A : Int) t (i : Int) i 0 (conA t (i : Int)) with h | ⟨k, h1, h2, h3, h4⟩
  · rw [h] at hg ⊢
    have h5 := conA_yes hg s hs
    rw [← h5.1, hri.2 h5.2]
    unfold valV
    cases rdOf false st (i : Int) <;> simp [hF0]
  · have h5 := tieA_yes h3 s hs
    have hrk := hrd k (by omega)
    have e1 := hri.2 h5.1
    have e2 := hrk.2 h5.2.1
    have h6 := xu8_01 (rd s (i : Int)) (rd s (k : Int)) (by rw [e1]; split <;> simp) (by rw [e2]; split <;> simp)
    rw [h5.2.2] at h6
    rw [h4]
    unfold valV
    have h7 : (2 * ((A : Int) + 1 + (k : Int)) + tieA t (i : Int) (k : Int)) / 2 = (A : Int) + 1 + (k : Int) ∧ (2 * ((A : Int) + 1 + (k : Int)) + tieA t (i : Int) (k : Int)) % 2 = tieA t (i : Int) (k : Int) := by split at h6 <;> omega
    rw [h7.1, h7.2, hF k (by omega), h6, e1, e2]
    cases rdOf false st (i : Int) <;> cases rdOf false st (k : Int) <;> simp
theorem allG_len {A N : Nat} {g : List Int} (h : A + 1 + g.length ≤ N) : (allG (A : Int) N g).length = N := by
  unfold allG
  rw [show ((A : Int) + 1).toNat = A + 1 by omega, length_splice _ _ _ (by rw [List.length_replicate]; exact h), List.length_replicate]
theorem allG_rd {A N : Nat} {g : List Int} (h : A + 1 + g.length ≤ N) (v : Nat) (hv : v < N) : rd (allG (A : Int) N g) (v : Int) = if A + 1 ≤ v ∧ v < A + 1 + g.length then rd g ((v - (A + 1) : Nat) : Int) else -1 := by
  rw [rd_at _ v (by rw [allG_len h]; exact hv)]
  have e : (allG (A : Int) N g)[v]? = some (if A + 1 ≤ v ∧ v < A + 1 + g.length then rd g ((v - (A + 1) : Nat) : Int) else -1) := by
    unfold allG splice
    rw [show ((A : Int) + 1).toNat = A + 1 by omega]
    rcases Nat.lt_or_ge v (A + 1) with c | c
    · rw [List.getElem?_append_left (by rw [List.length_take, List.length_replicate]; omega), if_neg (by omega), List.getElem?_take, if_pos c, List.getElem?_replicate, if_pos hv]
    · have hl : (List.take (A + 1) (List.replicate N (-1 : Int))).length = A + 1 := by rw [List.length_take, List.length_replicate]; omega
      rw [List.getElem?_append_right (by omega), hl]
      rcases Nat.lt_or_ge v (A + 1 + g.length) with c2 | c2
      · rw [List.getElem?_append_left (by omega), if_pos ⟨c, c2⟩, List.getElem?_eq_getElem (by omega), rd_at g _ (by omega)]
      · rw [List.getElem?_append_right (by omega), if_neg (by omega), List.getElem?_drop, List.getElem?_replicate, if_pos (by omega)]
  rw [List.getElem?_eq_getElem (by rw [allG_len h]; exact hv)] at e
  exact Option.some.inj e
theorem max_ex (l : List Int) (hl : l.length ≤ 1000) (d : Nat) : ∀ (k j : Nat) (m : Int), j + d = l.length → d < k → ∃ x, slices_Max_int_int.l0 k l m (j : Int) = some x ∧ (0 ≤ x ↔ 0 ≤ m ∨ ∃ y ∈ l.drop j, 0 ≤ y) := by
  induction d with
  | zero =>
    intro k j m hj hk
    obtain ⟨k, rfl⟩ : ∃ m, k = m + 1 := ⟨k - 1, by omega⟩
    simp only [slices_Max_int_int.l0]
    rw [if_neg (by omega), List.drop_of_length_le (by omega)]
    exact ⟨m, rfl, by simp⟩
  | succ d ih =>
    intro k j m hj hk
    obtain ⟨k, rfl⟩ : ∃ m, k = m + 1 := ⟨k - 1, by omega⟩
    have h1 : j < l.length := by omega
    simp only [slices_Max_int_int.l0]
    rw [if_pos (by omega), if_pos (by omega), rd_at l j h1, w64 ((j : Int) + 1) (by omega) (by omega), show ((j : Int) + 1) = ((j + 1 : Nat) : Int) by omega]
    obtain ⟨x, h2, h3⟩ := ih k (j + 1) (mx m l[j]) (by omega) (by omega)
    refine ⟨x, h2, h3.trans ?_⟩
    rw [List.drop_eq_getElem_cons h1]
    have hm : 0 ≤ mx m l[j] ↔ 0 ≤ m ∨ 0 ≤ l[j] := by unfold mx; split <;> omega
    rw [hm]
    constructor
    · rintro ((h | h) | ⟨y, hy, h⟩)
      · exact .inl h
      · exact .inr ⟨_, List.mem_cons_self .., h⟩
      · exact .inr ⟨y, List.mem_cons_of_mem _ hy, h⟩
    · rintro (h | ⟨y, hy, h⟩)
      · exact .inl (.inl h)
      · rcases List.mem_cons.1 hy with rfl | hy
        · exact .inl (.inr h)
        · exact .inr ⟨y, hy, h⟩
theorem max_eq (k : Nat) (g : List Int) (hg : g.length ≤ 900) (hk : 1000 < k) : ∃ x, slices_Max_int_int.f k (g ++ [-1]) = some x ∧ (0 ≤ x ↔ ∃ y ∈ g, 0 ≤ y) := by
  have hl : (g ++ [(-1 : Int)]).length = g.length + 1 := by simp
  obtain ⟨x, h1, h2⟩ := max_ex (g ++ [-1]) (by omega) g.length k 1 (rd (g ++ [-1]) 0) (by omega) (by omega)
  refine ⟨x, ?_, h2.trans ?_⟩
  · unfold slices_Max_int_int.f
    rw [if_neg (by omega), if_pos (by omega)]
    exact h1
  · cases g with
    | nil => simp [rd, List.getD]
    | cons y g =>
      have e : rd (y :: g ++ [-1]) 0 = y := by simp [rd, List.getD]
      rw [e]
      simp
theorem pcheck_l0 (lat lit : Int) (gs : List S69) (hl : gs.length ≤ 2000) (d : Nat) : ∀ (k j : Nat), j + d = gs.length → d < k → ∃ x, preds_Check.l0 k lat gs (gs.length : Int) (j : Int) gs lit = some x := by
  induction d with
  | zero =>
    intro k j hj hk
    obtain ⟨k, rfl⟩ : ∃ m, k = m + 1 := ⟨k - 1, by omega⟩
    simp only [preds_Check.l0]
    rw [if_neg (by omega)]
    split
    · exact ⟨_, rfl⟩
    · split <;> exact ⟨_, rfl⟩
  | succ d ih =>
    intro k j hj hk
    obtain ⟨k, rfl⟩ : ∃ m, k = m + 1 := ⟨k - 1, by omega⟩
    simp only [preds_Check.l0]
    rw [if_pos (by omega), if_pos (by omega), if_pos (by omega), w64 ((j : Int) + 1) (by omega) (by omega), show ((j : Int) + 1) = ((j + 1 : Nat) : Int) by omega]
    split
    · exact ⟨_, rfl⟩
    · split
      · exact ⟨_, rfl⟩
      · split
        · exact ⟨_, rfl⟩
        · exact ih k (j + 1) (by omega) (by omega)
theorem pcheck_ex (k : Nat) (lat lit : Int) (gs : List S69) (h0 : 0 ≤ lat) (h1 : lat ≤ 1000) (hg : gs.length ≤ 200000) (hk : 3000 ≤ k) : ∃ x, preds_Check.f k lat gs lit = some x := by
  obtain ⟨k, rfl⟩ : ∃ m, k = m + 1 := ⟨k - 1, by omega⟩
  unfold preds_Check.f
  rw [if_neg (by omega), decide_eq_false (by omega)]
  simp only [preds_Check.j0]
  rw [if_neg (by decide), w64 _ (by omega) (by omega)]
  by_cases c : lat + (gs.length : Int) > 1000
  · rw [if_pos c]; exact ⟨_, rfl⟩
  · rw [if_neg c]
    exact pcheck_l0 lat lit gs (by omega) gs.length k 0 (by omega) (by omega)
-- what Pass returns
section
variable {A : Nat} {l1 : List S36} {l2 : List S69} {l3 l4 : List Int}
theorem allG_bad {N : Nat} {t : List (List Int)} (hp : 0 < t.length) (hS : ∀ s ∈ t, s.length = l1.length ∧ V2 s) (hN : A + 1 + l1.length ≤ N) (v : Nat) (hv : v < N) : badG (A : Int) (allG (A : Int) N (givenP (A : Int) t l1.length)) v = false := by
  have hl := givenP_len (A : Int) t l1.length
  unfold badG
  rw [allG_rd (by omega) v hv]
  by_cases c : A + 1 ≤ v ∧ v < A + 1 + (givenP (A : Int) t l1.length).length
  · rw [if_pos c]
    have h := given_lit (A := A) hp hS (v - (A + 1)) (by omega)
    rw [decide_eq_false (show ¬ rd (givenP (A : Int) t l1.length) ((v - (A + 1) : Nat) : Int) < -1 by omega)]
    by_cases c2 : 0 ≤ rd (givenP (A : Int) t l1.length) ((v - (A + 1) : Nat) : Int)
    · have h2 := (h.2 c2).2
      rw [decide_eq_false (by omega), decide_eq_false (show ¬ (v : Int) ≤ (A : Int) by omega), Bool.and_false]; rfl
    · rw [decide_eq_false (by omega), decide_eq_false c2]; rfl
  · rw [if_neg c, decide_eq_false (by omega), decide_eq_false (by omega), decide_eq_false (show ¬ (0 : Int) ≤ -1 by omega)]; rfl
def gvT (A : Nat) (l1 : List S36) (l2 : List S69) (t : List (List Int)) : List Int := allG (A : Int) (szS (A : Int) l1 l2 + 1).toNat (givenP (A : Int) t l1.length)
theorem gvT_ok (hs : Small l1 l2 l3 l4) (c : checkR (A : Int) l1 l2 l3 l4 = 0) {t : List (List Int)} (e : statesP A l1 l2 = some t) : ((gvT A l1 l2 t).length : Int) = szS (A : Int) l1 l2 + 1 ∧ ∀ v : Nat, v < (gvT A l1 l2 t).length → badG (A : Int) (gvT A l1 l2 t) v = false := by
  have hg := good_of _ _ _ _ _ c
  have hn := hg.n
  obtain ⟨t1, t2, t3⟩ := states_ok hg e
  have hl := givenP_len (A : Int) t l1.length
  have hN : A + 1 + l1.length ≤ (szS (A : Int) l1 l2 + 1).toNat := by unfold szS; omega
  have hL : (gvT A l1 l2 t).length = (szS (A : Int) l1 l2 + 1).toNat := allG_len (by omega)
  refine ⟨by rw [hL]; unfold szS; omega, fun v hv => allG_bad t3 t1 hN v (by omega)⟩
theorem fact_small (hs : Small l1 l2 l3 l4) (hg : Good (A : Int) l1 l2 l3 l4) {t : List (List Int)} (e : statesP A l1 l2 = some t) : ternsim_fact.f (l1.length : Int) t = some (factP (l1.length : Int) t) ∧ (factP (l1.length : Int) t).1.length ≤ 200000 := by
  obtain ⟨t1, t2, t3⟩ := states_ok hg e
  have hs1 := hs.h1
  have hok : okFact (l1.length : Int) t = true := by
    unfold okFact
    simp only [Bool.and_eq_true, decide_eq_true_eq, List.all_eq_true]
    exact ⟨⟨by omega, by omega⟩, fun s hs => ⟨by have := (t1 s hs).1; omega, fun x hx => (t1 s hs).2 x hx⟩⟩
  refine ⟨by unfold ternsim_fact.f; rw [if_pos hok], ?_⟩
  have h1 := fact_len (l1.length : Int) t ([], []) (fun s hs => by have := (t1 s hs).1; omega)
  have h2 := allP_len ((l1.length : Int) + 1) (t.foldl (factS (l1.length : Int)) ([], [])).2 (t.foldl (factS (l1.length : Int)) ([], [])).1 1
  simp only [List.length_nil] at h1
  unfold factP
  dsimp only
  omega
theorem tpass_of (k : Nat) (hk : 50000 ≤ k) (hs : Small l1 l2 l3 l4) (hw : Wf (A : Int) l1 l2 l3 l4) (c : checkR (A : Int) l1 l2 l3 l4 = 0) :
    ∃ (L : List S36) (G : List S69) (B C : List Int) (XA : List S69) (lit : Int), ternsim_Pass.f k (A : Int) l1 l2 l3 l4 = some ((A : Int), L, G, B, C, 0, 1, litL (A : Int) l1.length, [litR A], litL (A : Int) l1.length, XA, lit, 0) ∧
      ((L = l1 ∧ G = l2 ∧ B = l3 ∧ C = l4) ∨ ∃ t, statesP A l1 l2 = some t ∧ L = l1.map (fun x => ⟨sgnP (builtP (A : Int) l1 l2 (gvT A l1 l2 t)).2 x.f0, x.f1⟩) ∧ G = (builtP (A : Int) l1 l2 (gvT A l1 l2 t)).1 ∧ B = l3.map (sgnP (builtP (A : Int) l1 l2 (gvT A l1 l2 t)).2) ∧ C = l4.map (sgnP (builtP (A : Int) l1 l2 (gvT A l1 l2 t)).2)) ∧
      ((XA = [] ∧ lit = 1 ∧ (statesP A l1 l2 = none ∨ ∃ t, statesP A l1 l2 = some t ∧ ((∀ y ∈ givenP (A : Int) t l1.length, y < 0) ∨ preds_Check.f k (l1.length : Int) (factP (l1.length : Int) t).1 (factP (l1.length : Int) t).2 ≠ some 0))) ∨ ∃ t, statesP A l1 l2 = some t ∧ (∃ y ∈ givenP (A : Int) t l1.length, 0 ≤ y) ∧ (XA, lit) = factP (l1.length : Int) t ∧ preds_Check.f k (l1.length : Int) XA lit = some 0) := by
  have hg := good_of _ _ _ _ _ c
  have hn := hg.n
  have ha1 := hg.a1
  have hs1 := hs.h1
  have hs2 := hs.h2
  have hs3 := hs.h3
  have hs4 := hs.h4
  unfold ternsim_Pass.f
  rw [gvars_eq _ l1 l2 l3 l4 hs hw, if_pos c, Option.bind_some]
  dsimp only
  have hok : ∀ g : List Int, g.length ≤ l1.length → okPass (A : Int) (szS (A : Int) l1 l2) l1 l2 l3 l4 g = true := fun g hg2 => by
    unfold okPass szS at *
    rw [decide_eq_true_eq]
    refine ⟨?_, ?_, ?_, ?_, ?_, ?_, ?_, ?_, ?_, ?_⟩ <;> omega
  rw [if_pos rfl, if_pos (hok [] (by simp)), idx_eq k A l1 l2 l3 l4 hs hw c (by omega), Option.bind_some, tstates_eq (A := A) k (A : Int) (fun _ => rfl) hs hw (by omega), Option.bind_some]
  unfold statesR
  rw [if_pos c]
  cases e : statesP A l1 l2 with
  | none =>
    dsimp only
    rw [if_neg (by decide)]
    exact ⟨l1, l2, l3, l4, [], 1, rfl, .inl ⟨rfl, rfl, rfl, rfl⟩, .inl ⟨rfl, rfl, .inl rfl⟩⟩
  | some t =>
    obtain ⟨t1, t2, t3⟩ := states_ok hg e
    obtain ⟨hgl, hgb⟩ := gvT_ok hs c e
    obtain ⟨hfa, hfl⟩ := fact_small hs hg e
    have hgv := givenP_len (A : Int) t l1.length
    have hB : ∀ (X : List S69) (l : Int), passB (A : Int) l1 l2 l3 l4 (givenP (A : Int) t l1.length) (szS (A : Int) l1 l2) 0 1 (litL (A : Int) l1.length) [litR A] (litL (A : Int) l1.length) X l = some ((A : Int), l1.map (fun x => ⟨sgnP (builtP (A : Int) l1 l2 (gvT A l1 l2 t)).2 x.f0, x.f1⟩), (builtP (A : Int) l1 l2 (gvT A l1 l2 t)).1, l3.map (sgnP (builtP (A : Int) l1 l2 (gvT A l1 l2 t)).2), l4.map (sgnP (builtP (A : Int) l1 l2 (gvT A l1 l2 t)).2), 0, 1, litL (A : Int) l1.length, [litR A], litL (A : Int) l1.length, X, l, 0) := fun X l => by
      unfold passB
      have := hbuild_ok hs hw c hgl hgb
      unfold gvT at this ⊢
      rw [this, Option.bind_some]
    dsimp only
    rw [if_pos rfl, tgiven_eq k (by omega) t3 t1 (by omega) (by omega) hs1 (by omega), Option.bind_some, if_pos (hok _ (by omega))]
    unfold passM
    obtain ⟨m, hm, hm2⟩ := max_eq k (givenP (A : Int) t l1.length) (by omega) (by omega)
    rw [hm, Option.bind_some]
    by_cases cm : 0 ≤ m
    · rw [if_pos cm, hfa, Option.bind_some]
      obtain ⟨ce, hce⟩ := pcheck_ex k (l1.length : Int) (factP (l1.length : Int) t).2 (factP (l1.length : Int) t).1 (by omega) (by omega) hfl (by omega)
      rw [hce, Option.bind_some]
      by_cases cc : ce = 0
      · rw [if_pos cc, hB]
        subst cc
        exact ⟨_, _, _, _, _, _, rfl, .inr ⟨t, rfl, rfl, rfl, rfl, rfl⟩, .inr ⟨t, rfl, hm2.1 cm, rfl, hce⟩⟩
      · rw [if_neg cc]
        exact ⟨l1, l2, l3, l4, [], 1, rfl, .inl ⟨rfl, rfl, rfl, rfl⟩, .inl ⟨rfl, rfl, .inr ⟨t, rfl, .inr (by rw [hce]; exact fun h => cc (Option.some.inj h))⟩⟩⟩
    · rw [if_neg cm, hB]
      refine ⟨_, _, _, _, _, _, rfl, .inr ⟨t, rfl, rfl, rfl, rfl, rfl⟩, .inl ⟨rfl, rfl, .inr ⟨t, rfl, .inl (fun y hy => ?_)⟩⟩⟩
      have h2 : ¬ ∃ y ∈ givenP (A : Int) t l1.length, 0 ≤ y := fun h => cm (hm2.2 h)
      rcases Int.lt_or_le y 0 with h | h
      · exact h
      · exact absurd ⟨y, hy, h⟩ h2
theorem tpass_vals (hs : Small l1 l2 l3 l4) (hw : Wf (A : Int) l1 l2 l3 l4) (c : checkR (A : Int) l1 l2 l3 l4 = 0) {L : List S36} {G : List S69} {B C : List Int} {st inp : List Bool} (e1 : st.length = l1.length) (e2 : (inp.length : Int) = (A : Int))
    (h : (L = l1 ∧ G = l2 ∧ B = l3 ∧ C = l4) ∨ ∃ t, statesP A l1 l2 = some t ∧ L = l1.map (fun x => ⟨sgnP (builtP (A : Int) l1 l2 (gvT A l1 l2 t)).2 x.f0, x.f1⟩) ∧ G = (builtP (A : Int) l1 l2 (gvT A l1 l2 t)).1 ∧ B = l3.map (sgnP (builtP (A : Int) l1 l2 (gvT A l1 l2 t)).2) ∧ C = l4.map (sgnP (builtP (A : Int) l1 l2 (gvT A l1 l2 t)).2))
    (hcov : ∀ t, statesP A l1 l2 = some t → t.any (fun s => coverS s (toT st)) = true) :
    values_Props.f (A : Int) L G B C st inp = some (!(l4.any fun x => !(valV (frameV (false :: (inp ++ st)) l2) x)), l3.map (valV (frameV (false :: (inp ++ st)) l2)), 0) ∧ values_Next.f (A : Int) L G B C st inp = some (l1.map (fun x => valV (frameV (false :: (inp ++ st)) l2) x.f0), 0) := by
  have hg := good_of _ _ _ _ _ c
  have hn := hg.n
  have hs1 := hs.h1
  rcases h with ⟨rfl, rfl, rfl, rfl⟩ | ⟨t, ht, rfl, rfl, rfl, rfl⟩
  · have hall : allV (A : Int) L G B C st inp = (frameV (false :: (inp ++ st)) G, 0) := by
      unfold allV
      rw [if_pos c, if_pos ⟨e1, e2⟩]
    refine ⟨?_, ?_⟩
    · rw [vprops_eq _ _ _ _ _ st inp hs hw]
      unfold propsV
      rw [hall, if_pos rfl]
    · rw [vnext_eq _ _ _ _ _ st inp hs hw]
      unfold litsV
      rw [hall, if_pos rfl, List.map_map]; rfl
  · obtain ⟨hgl, hgb⟩ := gvT_ok hs c ht
    obtain ⟨t1, t2, t3⟩ := states_ok hg ht
    have hgv := givenP_len (A : Int) t l1.length
    have hN : A + 1 + l1.length ≤ (szS (A : Int) l1 l2 + 1).toNat := by unfold szS; omega
    have hL : (gvT A l1 l2 t).length = (szS (A : Int) l1 l2 + 1).toNat := allG_len (by omega)
    have hgt := hg.g
    obtain ⟨E, hE⟩ := frameV_pre l2 (false :: (inp ++ st))
    have hacc : (false :: (inp ++ st)).length = A + 1 + l1.length := by simp; omega
    have hF0 : rdOf false (frameV (false :: (inp ++ st)) l2) 0 = false := by
      rw [hE, show (0 : Int) = ((0 : Nat) : Int) from rfl, rdOf_app _ E 0 (by omega)]; rfl
    have hFj : ∀ j : Nat, j < l1.length → rdOf false (frameV (false :: (inp ++ st)) l2) ((A : Int) + 1 + (j : Int)) = rdOf false st (j : Int) := fun j hj => by
      rw [hE, show (A : Int) + 1 + (j : Int) = ((A + 1 + j : Nat) : Int) by omega, rdOf_app _ E _ (by omega)]
      have e : (false :: (inp ++ st))[A + 1 + j]? = st[j]? := by
        rw [show A + 1 + j = (A + j) + 1 by omega, List.getElem?_cons_succ, List.getElem?_append_right (by omega), show A + j - inp.length = j by omega]
      unfold rdOf
      rw [Int.toNat_natCast, Int.toNat_natCast, List.getD, List.getD, e]
    obtain ⟨hcx, hsx, hwx, hT⟩ := built_of hs c hgl hgb
    obtain ⟨-, hv⟩ := built_vals hs c e1 e2 hgl hgb (fun v hv h0 => by
      have h0' := h0
      unfold gvT at h0' ⊢
      rw [allG_rd (by omega) v (by omega)] at h0' ⊢
      by_cases cv : A + 1 ≤ v ∧ v < A + 1 + (givenP (A : Int) t l1.length).length
      · rw [if_pos cv] at h0' ⊢
        have := given_val (A := A) (F := frameV (false :: (inp ++ st)) l2) t1 e1 (hcov t ht) hF0 hFj (v - (A + 1)) (by omega) h0'
        rw [this]
        congr 1; omega
      · rw [if_neg cv] at h0'; omega)
    generalize (builtP (A : Int) l1 l2 (gvT A l1 l2 t)).1 = G at *
    generalize (builtP (A : Int) l1 l2 (gvT A l1 l2 t)).2 = T at *
    have hLl : (l1.map (fun x => (⟨sgnP T x.f0, x.f1⟩ : S36))).length = l1.length := List.length_map ..
    have hall : allV (A : Int) (l1.map (fun x => (⟨sgnP T x.f0, x.f1⟩ : S36))) G (l3.map (sgnP T)) (l4.map (sgnP T)) st inp = (frameV (false :: (inp ++ st)) G, 0) := by
      unfold allV
      rw [if_pos hcx, if_pos ⟨by rw [hLl]; exact e1, e2⟩]
    refine ⟨?_, ?_⟩
    · rw [vprops_eq _ _ _ _ _ st inp hsx hwx]
      unfold propsV
      rw [hall, if_pos rfl, List.map_map, List.any_map]
      have h3 : l3.map (valV (frameV (false :: (inp ++ st)) G) ∘ sgnP T) = l3.map (valV (frameV (false :: (inp ++ st)) l2)) := List.map_congr_left (fun x hx => hv x (hg.b x hx).1 (hg.b x hx).2)
      have h4 : (l4.any ((fun x => !(valV (frameV (false :: (inp ++ st)) G) x)) ∘ sgnP T)) = l4.any (fun x => !(valV (frameV (false :: (inp ++ st)) l2) x)) := by
        rw [Bool.eq_iff_iff, List.any_eq_true, List.any_eq_true]
        constructor
        · rintro ⟨x, hx, h⟩
          refine ⟨x, hx, ?_⟩
          rw [Function.comp, hv x (hg.c x hx).1 (hg.c x hx).2] at h
          exact h
        · rintro ⟨x, hx, h⟩
          refine ⟨x, hx, ?_⟩
          rw [Function.comp, hv x (hg.c x hx).1 (hg.c x hx).2]
          exact h
      rw [h3, h4]
    · rw [vnext_eq _ _ _ _ _ st inp hsx hwx]
      unfold litsV
      rw [hall, if_pos rfl, List.map_map, List.map_map]
      have h3 : l1.map ((valV (frameV (false :: (inp ++ st)) G) ∘ fun x => x.f0) ∘ fun x => (⟨sgnP T x.f0, x.f1⟩ : S36)) = l1.map (fun x => valV (frameV (false :: (inp ++ st)) l2) x.f0) := List.map_congr_left (fun x hx => hv x.f0 (hg.l x hx).1.1 (hg.l x hx).1.2)
      rw [h3]
end
theorem al30k : spiritlevellaw30_alive.f 4000 = some true := by kernel_rfl
section
variable {A : Nat} {l1 : List S36} {l2 : List S69} {l3 l4 : List Int}
theorem tv_hf (hs : Small l1 l2 l3 l4) (hw : Wf (A : Int) l1 l2 l3 l4) {st inp : List Bool} (hok : (allV (A : Int) l1 l2 l3 l4 st inp).2 = 0) :
    ∃ (T : List (List Int)) (e : Int) (G : List Int) (cov : Bool) (F : List Bool) (xi xs xp xl : Int) (x1 : List S36) (x2 : List S69) (x3 x4 x7 : List Int) (x8 : List (List Int)) (x9 : List Int) (xA : List S69) (r : Bool) (Bv S : List Bool), HF 50000 (A : Int) l1 l2 l3 l4 st inp T e G cov F xi xs xp xl x1 x2 x3 x4 x7 x8 x9 xA r Bv S := by
  obtain ⟨c, e1, e2, hall⟩ := allV_ok hok
  have hg := good_of _ _ _ _ _ c
  have hn := hg.n
  have ha1 := hg.a1
  have hs1 := hs.h1
  have hs2 := hs.h2
  have hs3 := hs.h3
  obtain ⟨L, G', B, C, XA, lit, hp, hL, -⟩ := tpass_of 50000 (by omega) hs hw c
  have sm : ∀ l : List Bool, l.length ≤ 200 → spiritlevelref04_Same.f 50000 l l = some true := fun l hl => by
    rw [vsame_eq 50000 l l (by omega) (by omega), decide_eq_true rfl]
  have hacc : (false :: (inp ++ st)).length = A + 1 + l1.length := by simp; omega
  have hF := frameV_len l2 (false :: (inp ++ st))
  have hSt := tstates_eq (A := A) (l1 := l1) (l2 := l2) (l3 := l3) (l4 := l4) 50000 (A : Int) (fun _ => rfl) hs hw (by omega)
  unfold statesR at hSt
  rw [if_pos c] at hSt
  have hAll : values_All.f (A : Int) l1 l2 l3 l4 st inp = some (frameV (false :: (inp ++ st)) l2, 0) := by rw [vall_eq _ l1 l2 l3 l4 st inp hs hw, hall]
  have hR : ∀ (e : Int) (G : List Int) (hcov : ∀ t, statesP A l1 l2 = some t → t.any (fun s => coverS s (toT st)) = true) (gl : e = 0 → G.length = st.length) (hl : G.length ≤ 1000)
      (good : e = 0 → ∀ i : Nat, i < G.length → 0 ≤ rd G (i : Int) → wrap64 (Int.tdiv (rd G (i : Int)) 2) < (A : Int) + 1 + (i : Int) ∧ spiritlevelref04_Value.f (frameV (false :: (inp ++ st)) l2) (rd G (i : Int)) = some (rdOf false (frameV (false :: (inp ++ st)) l2) ((A : Int) + 1 + (i : Int)))),
      RF 50000 (A : Int) l1 l2 l3 l4 st inp e G (frameV (false :: (inp ++ st)) l2) (A : Int) 0 1 lit L G' B C (litL (A : Int) l1.length) [litR A] (litL (A : Int) l1.length) XA (!(l4.any fun x => !(valV (frameV (false :: (inp ++ st)) l2) x))) (l3.map (valV (frameV (false :: (inp ++ st)) l2))) (l1.map (fun x => valV (frameV (false :: (inp ++ st)) l2) x.f0)) := fun e G hcov gl hl good => by
    have h1 := tpass_vals hs hw c e1 e2 (.inl ⟨rfl, rfl, rfl, rfl⟩) hcov
    have h2 := tpass_vals hs hw c e1 e2 hL hcov
    exact ⟨hAll, gl, ⟨by omega, by omega, hl⟩, fun h => by have := gl h; rw [hF]; omega, good, h1.1, h2.1, h1.2, h2.2, sm _ (by rw [List.length_map]; omega), sm _ (by rw [List.length_map]; omega)⟩
  cases es : statesP A l1 l2 with
  | none =>
    rw [es] at hSt
    dsimp only at hSt
    refine ⟨[], 6, [], true, _, _, _, _, _, _, _, _, _, _, _, _, _, _, _, _, hSt, ?_, hp, fun h => absurd h (by decide), fun _ => hR 6 [] (fun t h => by rw [es] at h; cases h) (fun h => absurd h (by decide)) (by simp) (fun h => absurd h (by decide))⟩
    unfold ternsim_Given.f
    rw [hSt, Option.bind_some]
    dsimp only
    rw [if_neg (by decide)]
  | some t =>
    rw [es] at hSt
    dsimp only at hSt
    obtain ⟨t1, t2, t3⟩ := states_ok hg es
    have hgl := givenP_len (A : Int) t l1.length
    refine ⟨t, 0, givenP (A : Int) t l1.length, _, _, _, _, _, _, _, _, _, _, _, _, _, _, _, _, _, hSt, ?_, hp, fun _ => covered_eq 50000 t st t2 (by omega) (fun s hs => by have := t1 s hs; exact ⟨by rw [this.1, e1], this.2⟩) (by omega), fun hcv => hR 0 _ (fun t' h => by rw [es] at h; cases h; exact hcv rfl) (fun _ => by omega) (by omega) (fun _ i hi h0 => ?_)⟩
    · unfold ternsim_Given.f
      rw [hSt, Option.bind_some]
      dsimp only
      rw [if_pos rfl, tgiven_eq 50000 (by omega) t3 t1 (by omega) (by omega) hs1 (by omega), Option.bind_some]
    · obtain ⟨E, hE⟩ := frameV_pre l2 (false :: (inp ++ st))
      have hF0 : rdOf false (frameV (false :: (inp ++ st)) l2) 0 = false := by
        rw [hE, show (0 : Int) = ((0 : Nat) : Int) from rfl, rdOf_app _ E 0 (by omega)]; rfl
      have hFj : ∀ j : Nat, j < l1.length → rdOf false (frameV (false :: (inp ++ st)) l2) ((A : Int) + 1 + (j : Int)) = rdOf false st (j : Int) := fun j hj => by
        rw [hE, show (A : Int) + 1 + (j : Int) = ((A + 1 + j : Nat) : Int) by omega, rdOf_app _ E _ (by omega)]
        have e : (false :: (inp ++ st))[A + 1 + j]? = st[j]? := by
          rw [show A + 1 + j = (A + j) + 1 by omega, List.getElem?_cons_succ, List.getElem?_append_right (by omega), show A + j - inp.length = j by omega]
        unfold rdOf
        rw [Int.toNat_natCast, Int.toNat_natCast, List.getD, List.getD, e]
      have h1 := (given_lit (A := A) t3 t1 i (by omega)).2 h0
      have h2 := given_val (A := A) (F := frameV (false :: (inp ++ st)) l2) t1 e1 (hcv rfl) hF0 hFj i (by omega) h0
      refine ⟨?_, by rw [rval_eq _ _ h0 (by omega) (by omega), h2]⟩
      rw [Int.tdiv_eq_ediv_of_nonneg h0]
      unfold wrap64
      omega
end
theorem ternsimValues_all (a0_0 : Int) (A0_1 : Option Addr) (c0_1 : Nat) (l0_1 : List (S36)) (A0_2 : Option Addr) (c0_2 : Nat) (l0_2 : List (S69)) (A0_3 : Option Addr) (c0_3 : Nat) (l0_3 : List Int) (A0_4 : Option Addr) (c0_4 : Nat) (l0_4 : List Int) (A1 : Option Addr) (c1 : Nat) (l1 : List Bool) (A2 : Option Addr) (c2 : Nat) (l2 : List Bool) (w : World) (hr0_1 : Kd.C k36 w A0_1 l0_1.length l0_1) (hc0_1 : l0_1.length ≤ c0_1) (hr0_2 : Kd.C k69 w A0_2 l0_2.length l0_2) (hc0_2 : l0_2.length ≤ c0_2) (hr0_3 : Kd.C (Kd.int .i64) w A0_3 l0_3.length l0_3) (hc0_3 : l0_3.length ≤ c0_3) (hr0_4 : Kd.C (Kd.int .i64) w A0_4 l0_4.length l0_4) (hc0_4 : l0_4.length ≤ c0_4) (hr1 : Kd.C Kd.bool w A1 l1.length l1) (hc1 : l1.length ≤ c1) (hr2 : Kd.C Kd.bool w A2 l2.length l2) (hc2 : l2.length ≤ c2) (ok0_0 : (Lit.int .i64 a0_0).wf = true) (ok0_1 : l0_1.length ≤ 9223372036854775807 ∧ l0_1.length * 16 ≤ 140737488351232 ∧ ∀ x0_ ∈ l0_1, ((Lit.int .i64 x0_.f0).wf = true) ∧ ((Lit.int .i64 x0_.f1).wf = true)) (ok0_2 : l0_2.length ≤ 9223372036854775807 ∧ l0_2.length * 16 ≤ 140737488351232 ∧ ∀ x0_ ∈ l0_2, ((Lit.int .i64 x0_.f0).wf = true) ∧ ((Lit.int .i64 x0_.f1).wf = true)) (ok0_3 : l0_3.length ≤ 9223372036854775807 ∧ l0_3.length * 8 ≤ 140737488351232 ∧ ∀ x0_ ∈ l0_3, (Lit.int .i64 x0_).wf = true) (ok0_4 : l0_4.length ≤ 9223372036854775807 ∧ l0_4.length * 8 ≤ 140737488351232 ∧ ∀ x0_ ∈ l0_4, (Lit.int .i64 x0_).wf = true) (ok1 : l1.length ≤ 9223372036854775807 ∧ l1.length * 1 ≤ 140737488351232 ∧ ∀ x0_ ∈ l1, True) (ok2 : l2.length ≤ 9223372036854775807 ∧ l2.length * 1 ≤ 140737488351232 ∧ ∀ x0_ ∈ l2, True) :
    Calls Try.prog 8 #[.agg #[.int .i64 a0_0, .slice A0_1 l0_1.length c0_1, .slice A0_2 l0_2.length c0_2, .slice A0_3 l0_3.length c0_3, .slice A0_4 l0_4.length c0_4], .slice A1 l1.length c1, .slice A2 l2.length c2] w fun e w' => e = .returned (.bool true) ∧ Below w.heap.size w w' := by
  have hw : Wf a0_0 l0_1 l0_2 l0_3 l0_4 := ⟨wf_i64 ok0_0, fun x hx => ⟨wf_i64 (ok0_1.2.2 x hx).1, wf_i64 (ok0_1.2.2 x hx).2⟩, fun x hx => ⟨wf_i64 (ok0_2.2.2 x hx).1, wf_i64 (ok0_2.2.2 x hx).2⟩, fun x hx => wf_i64 (ok0_3.2.2 x hx), fun x hx => wf_i64 (ok0_4.2.2 x hx)⟩
  obtain ⟨g, hg, hsm⟩ := great_eq a0_0 l0_1 l0_2 l0_3 l0_4
  have has : g = false → spiritlevelref04_Asked.f 50000 a0_0 l0_1 l0_2 l0_3 l0_4 l1 l2 = some (allV a0_0 l0_1 l0_2 l0_3 l0_4 l1 l2).2 := fun h => vasked_eq 50000 a0_0 l0_1 l0_2 l0_3 l0_4 l1 l2 (hsm h).1 hw (by omega)
  have hal := al30k
  by_cases d : g = false ∧ (allV a0_0 l0_1 l0_2 l0_3 l0_4 l1 l2).2 = 0
  · obtain ⟨d1, d2⟩ := d
    obtain ⟨d0, -, -, -⟩ := allV_ok d2
    have ha := (good_of _ _ _ _ _ d0).a0
    obtain ⟨A, rfl⟩ : ∃ A : Nat, a0_0 = (A : Int) := ⟨a0_0.toNat, by omega⟩
    obtain ⟨T, e, G, cov, F, xi, xs, xp, xl, x1, x2, x3, x4, x7, x8, x9, xA, r, Bv, S, h⟩ := tv_hf (hsm d1).1 hw d2
    exact values_walk 50000 (A : Int) A0_1 c0_1 l0_1 A0_2 c0_2 l0_2 A0_3 c0_3 l0_3 A0_4 c0_4 l0_4 A1 c1 l1 A2 c2 l2 T e G cov F xi xs xp xl x1 x2 x3 x4 x7 x8 x9 xA r Bv S g _ w hr0_1 hc0_1 hr0_2 hc0_2 hr0_3 hc0_3 hr0_4 hc0_4 hr1 hc1 hr2 hc2 hal hg has (fun _ _ => h)
  · exact values_walk 50000 a0_0 A0_1 c0_1 l0_1 A0_2 c0_2 l0_2 A0_3 c0_3 l0_3 A0_4 c0_4 l0_4 A1 c1 l1 A2 c2 l2 [] 0 [] false [] 0 0 0 0 [] [] [] [] [] [] [] [] false [] [] g _ w hr0_1 hc0_1 hr0_2 hc0_2 hr0_3 hc0_3 hr0_4 hc0_4 hr1 hc1 hr2 hc2 hal hg has (fun x y => absurd ⟨x, y⟩ d)
end Go.Proofs.Ytmcdanpecajklaa.Pure
