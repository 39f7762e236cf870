/- Build and Pass return what the reference returns, and leave the circuit as it is; for every circuit that is not great and at most 1,300 numbers. -/
import Derived.Test.YtnbccfecmpocaaaQHashBuildsL
namespace Go.Proofs.Ytnbccfecmpocaaa.Pure
open Go.RowKit Go.Proofs.Ytnbccfecmpocaaa.QHashBuilds Go.Proofs.YtnbccfecmpocaaaW.PrintWords Go.Proofs.YtnbccfecmpocaaaW.PrintLast
set_option linter.unusedSimpArgs false
set_option linter.unusedVariables false
theorem w64 (n : Int) (h : -9223372036854775808 ≤ n) (h2 : n ≤ 9223372036854775807) : wrap64 n = n := by unfold wrap64; omega
theorem rd_at (l : List Int) (j : Nat) (h : j < l.length) : rd l (j : Int) = l[j] := by simp [rd, List.getD, h]
theorem wf_i64 {x : Int} (h : (Lit.int .i64 x).wf = true) : -9223372036854775808 ≤ x ∧ x ≤ 9223372036854775807 := by
 simp [Lit.wf, IntKind.min, IntKind.max, IntKind.signed, IntKind.bits] at h
 omega
theorem xorNat (n : Nat) : n ^^^ 1 = if n % 2 = 0 then n + 1 else n - 1 := by
 have h1 : (n ^^^ 1) / 2 = n / 2 := by rw [Nat.xor_div_two]; simp
 have h2 : (n ^^^ 1) % 2 = (n + 1) % 2 := by
  have h := @Nat.xor_mod_two_eq_one n 1
  rcases Nat.mod_two_eq_zero_or_one n with e | e <;> rcases Nat.mod_two_eq_zero_or_one (n ^^^ 1) with e' | e' <;> simp [e, e'] at h <;> omega
 split <;> omega
theorem i64_nat (n : Nat) (h : n < 9223372036854775808) : IntKind.i64.wrap (n : Int) = n := by rw [IntKind.wrap_i64]; omega
theorem bxor1 (a : Int) (h0 : 0 ≤ a) (h1 : a < 9223372036854775807) : Go.bits .xor .i64 a 1 = if a % 2 = 0 then a + 1 else a - 1 := by
 obtain ⟨n, rfl⟩ := Int.eq_ofNat_of_zero_le h0
 have e : Go.bits .xor .i64 (n : Int) 1 = ((n ^^^ 1 : Nat) : Int) := by
  have hx : n ^^^ 1 < 9223372036854775808 := by rw [xorNat]; split <;> omega
  have hb : (1 : Int) = ((1 : Nat) : Int) := rfl
  rw [hb]
  have hc : ((BitVec.ofInt 64 (n : Int)) ^^^ (BitVec.ofInt 64 ((1 : Nat) : Int))).toNat = n ^^^ 1 := by
   rw [BitVec.ofInt_natCast, BitVec.ofInt_natCast, BitVec.toNat_xor, BitVec.toNat_ofNat, BitVec.toNat_ofNat, Nat.mod_eq_of_lt (by omega), Nat.mod_eq_of_lt (by omega)]
  have := i64_nat _ hx
  rw [← hc] at this ⊢
  exact this
 rw [e, xorNat]
 split <;> split <;> omega
-- ref02: what the reference of layer 2 and gates.Check come to, for circuits that are not great
def litOut (n l : Int) : Bool := decide (l < 0) || decide (l / 2 > n)
def latBad (n : Int) (x : S86) : Bool := litOut n x.f0 || decide (x.f1 < 0) || decide (x.f1 > 2)
def gBad (m : Int) (i : Nat) (g : S67) : Bool := decide (g.f1 < 0) || decide (g.f0 < g.f1) || decide (g.f0 / 2 > m + i)
def gsBad (m : Int) (l : List S67) : Bool := (List.range l.length).any fun i => gBad m i (rd_T67 l i)
def szS (a : Int) (l1 : List S86) (l2 : List S67) : Int := a + l1.length + l2.length
def checkR (a : Int) (l1 : List S86) (l2 : List S67) (l3 l4 : List Int) : Int :=
 if a < 0 then 8 else if a > 1000 ∨ szS a l1 l2 > 1000 ∨ l3.length > 100 ∨ l4.length > 100 then 4
 else if l3.any (litOut (szS a l1 l2)) = true ∨ l4.any (litOut (szS a l1 l2)) = true ∨ l1.any (latBad (szS a l1 l2)) = true ∨ gsBad (a + l1.length) l2 = true then 8 else 0
structure Small (l1 : List S86) (l2 : List S67) (l3 l4 : List Int) : Prop where
 h1 : l1.length ≤ 60
 h2 : l2.length ≤ 130
 h3 : l3.length ≤ 110
 h4 : l4.length ≤ 110
structure Wf (a : Int) (l1 : List S86) (l2 : List S67) (l3 l4 : List Int) : Prop where
 w0 : -9223372036854775808 ≤ a ∧ a ≤ 9223372036854775807
 w1 : ∀ x ∈ l1, (-9223372036854775808 ≤ x.f0 ∧ x.f0 ≤ 9223372036854775807) ∧ (-9223372036854775808 ≤ x.f1 ∧ x.f1 ≤ 9223372036854775807)
 w2 : ∀ x ∈ l2, (-9223372036854775808 ≤ x.f0 ∧ x.f0 ≤ 9223372036854775807) ∧ (-9223372036854775808 ≤ x.f1 ∧ x.f1 ≤ 9223372036854775807)
 w3 : ∀ x ∈ l3, -9223372036854775808 ≤ x ∧ x ≤ 9223372036854775807
 w4 : ∀ x ∈ l4, -9223372036854775808 ≤ x ∧ x ≤ 9223372036854775807
theorem great_eq (a : Int) (l1 : List S86) (l2 : List S67) (l3 l4 : List Int) :
  ∃ b, spiritlevelref02_Great.f a l1 l2 l3 l4 = some b ∧ (b = false → Small l1 l2 l3 l4 ∧ (a ≤ 40 ∨ 996 ≤ a)) := by
 unfold spiritlevelref02_Great.f
 by_cases c1 : (l1.length : Int) > 60
 ·exact ⟨true, by rw [if_pos c1], by simp⟩
 by_cases c2 : (l2.length : Int) > 120
 ·exact ⟨true, by rw [if_neg c1, if_pos c2], by simp⟩
 by_cases c3 : (l3.length : Int) > 110
 ·exact ⟨true, by rw [if_neg c1, if_neg c2, if_pos c3], by simp⟩
 by_cases c4 : (l4.length : Int) > 110
 ·exact ⟨true, by rw [if_neg c1, if_neg c2, if_neg c3, if_pos c4], by simp⟩
 by_cases c5 : a > 40
 ·exact ⟨decide (a < 996), by rw [if_neg c1, if_neg c2, if_neg c3, if_neg c4, if_pos c5], fun h => ⟨⟨by omega, by omega, by omega, by omega⟩, by simp at h; omega⟩⟩
 ·exact ⟨false, by rw [if_neg c1, if_neg c2, if_neg c3, if_neg c4, if_neg c5], fun _ => ⟨⟨by omega, by omega, by omega, by omega⟩, by omega⟩⟩
theorem literals_l0 (l : List Int) (n : Int) (hw : ∀ x ∈ l, -9223372036854775808 ≤ x ∧ x ≤ 9223372036854775807) (hl : l.length ≤ 100000) (d : Nat) : ∀ (k j : Nat), j + d = l.length → d < k →
  spiritlevelref02_literals.l0 k l n (j : Int) = some (!(l.drop j).any (litOut n)) := by
 induction d with
 | zero =>
  intro k j hj hk
  obtain ⟨k, rfl⟩ : ∃ m, k = m + 1 := ⟨k - 1, by omega⟩
  simp only [spiritlevelref02_literals.l0]
  rw [if_neg (by omega), List.drop_of_length_le (by omega)]; rfl
 | succ d ih =>
  intro k j hj hk
  obtain ⟨k, rfl⟩ : ∃ m, k = m + 1 := ⟨k - 1, by omega⟩
  have hlt : j < l.length := by omega
  have hwj := hw l[j] (List.getElem_mem hlt)
  simp only [spiritlevelref02_literals.l0]
  rw [if_pos (by omega), if_pos (by omega), rd_at l j hlt, List.drop_eq_getElem_cons hlt, List.any_cons]
  by_cases c : l[j] < 0
  ·rw [if_pos c]; simp [litOut, c]
  ·rw [if_neg c, Int.tdiv_eq_ediv_of_nonneg (by omega), w64 _ (by omega) (by omega)]
   by_cases c2 : l[j] / 2 > n
   ·rw [if_pos c2]; simp [litOut, c2]
   ·rw [if_neg c2, w64 _ (by omega) (by omega), show ((j : Int) + 1) = ((j + 1 : Nat) : Int) by omega, ih k (j + 1) (by omega) (by omega)]
    have : litOut n l[j] = false := by simp [litOut]; omega
    rw [this]; simp
theorem literals_eq (k : Nat) (l : List Int) (n : Int) (hw : ∀ x ∈ l, -9223372036854775808 ≤ x ∧ x ≤ 9223372036854775807) (hl : l.length ≤ 100000) (hk : l.length < k) :
  spiritlevelref02_literals.f k l n = some (!l.any (litOut n)) := by
 have := literals_l0 l n hw hl l.length k 0 (by omega) hk
 simpa [spiritlevelref02_literals.f] using this
theorem rdL_at (l : List S86) (j : Nat) (h : j < l.length) : rd_T86 l (j : Int) = l[j] := by simp [rd_T86, List.getD, h]
theorem rdA_at (l : List S67) (j : Nat) (h : j < l.length) : rd_T67 l (j : Int) = l[j] := by simp [rd_T67, List.getD, h]
theorem check_l1 (a : Int) (l1 : List S86) (l2 : List S67) (l3 l4 : List Int) (hs : Small l1 l2 l3 l4) (hw : Wf a l1 l2 l3 l4) (h0 : 0 ≤ a) (h1 : a ≤ 1000) (d : Nat) : ∀ (k j : Nat), j + d = l2.length → d < k →
  spiritlevelref02_Check.l1 k (j : Int) a l1 l2 l3 l4 = some (if ((List.range' j d).any fun i => gBad (a + l1.length) i (rd_T67 l2 i)) = true then 8 else 0) := by
 have hs1 := hs.h1
 have hs2 := hs.h2
 induction d with
 | zero =>
  intro k j hj hk
  obtain ⟨k, rfl⟩ : ∃ m, k = m + 1 := ⟨k - 1, by omega⟩
  simp only [spiritlevelref02_Check.l1]
  rw [if_neg (by omega)]; rfl
 | succ d ih =>
  intro k j hj hk
  obtain ⟨k, rfl⟩ : ∃ m, k = m + 1 := ⟨k - 1, by omega⟩
  have hlt : j < l2.length := by omega
  have hwj := hw.w2 l2[j] (List.getElem_mem hlt)
  simp only [spiritlevelref02_Check.l1]
  rw [if_pos (by omega), if_pos (by omega), List.range'_succ, List.any_cons, rdA_at l2 j hlt]
  by_cases c : l2[j].f1 < 0
  ·rw [if_pos c, if_pos (by simp [gBad, c])]
  rw [if_neg c]
  by_cases c2 : l2[j].f0 < l2[j].f1
  ·rw [if_pos c2, if_pos (by simp [gBad, c2])]
  rw [if_neg c2, Int.tdiv_eq_ediv_of_nonneg (by omega), w64 (l2[j].f0 / 2) (by omega) (by omega), w64 (a + l1.length) (by omega) (by omega), w64 (a + l1.length + j) (by omega) (by omega)]
  by_cases c3 : l2[j].f0 / 2 > a + l1.length + j
  ·rw [if_pos c3, if_pos (by simp [gBad, c3])]
  rw [if_neg c3, w64 _ (by omega) (by omega), show ((j : Int) + 1) = ((j + 1 : Nat) : Int) by omega, ih k (j + 1) (by omega) (by omega)]
  have : gBad (a + l1.length) j l2[j] = false := by simp [gBad]; omega
  rw [this]; rfl
theorem check_l0 (a n : Int) (l1 : List S86) (l2 : List S67) (l3 l4 : List Int) (hs : Small l1 l2 l3 l4) (hw : Wf a l1 l2 l3 l4) (h0 : 0 ≤ a) (h1 : a ≤ 1000) (d : Nat) : ∀ (k j : Nat), j + d = l1.length → d + l2.length + 5 < k →
  spiritlevelref02_Check.l0 k n (j : Int) a l1 l2 l3 l4 = some (if (l1.drop j).any (latBad n) = true ∨ gsBad (a + l1.length) l2 = true then 8 else 0) := by
 have hs1 := hs.h1
 have hs2 := hs.h2
 induction d with
 | zero =>
  intro k j hj hk
  obtain ⟨k, rfl⟩ : ∃ m, k = m + 1 := ⟨k - 1, by omega⟩
  simp only [spiritlevelref02_Check.l0]
  rw [if_neg (by omega), List.drop_of_length_le (by omega), show (0 : Int) = ((0 : Nat) : Int) from rfl, check_l1 a l1 l2 l3 l4 hs hw h0 h1 l2.length k 0 (by omega) (by omega)]
  simp [gsBad, List.range_eq_range']
 | succ d ih =>
  intro k j hj hk
  obtain ⟨k, rfl⟩ : ∃ m, k = m + 1 := ⟨k - 1, by omega⟩
  have hlt : j < l1.length := by omega
  have hwj := hw.w1 l1[j] (List.getElem_mem hlt)
  simp only [spiritlevelref02_Check.l0]
  rw [if_pos (by omega), if_pos (by omega), List.drop_eq_getElem_cons hlt, List.any_cons, rdL_at l1 j hlt, literals_eq k _ n (by simp; exact hwj.1) (by simp) (by simp; omega)]
  simp only [Option.bind_some, List.any_cons, List.any_nil, Bool.or_false]
  by_cases c : litOut n l1[j].f0 = true
  ·rw [if_neg (by simp [c]), if_pos (by simp [latBad, c])]
  rw [if_pos (by simp [c])]
  by_cases c2 : l1[j].f1 < 0
  ·rw [if_pos c2, if_pos (by simp [latBad, c2])]
  rw [if_neg c2]
  by_cases c3 : l1[j].f1 > 2
  ·rw [if_pos c3, if_pos (by simp [latBad, c3])]
  rw [if_neg c3, w64 _ (by omega) (by omega), show ((j : Int) + 1) = ((j + 1 : Nat) : Int) by omega, ih k (j + 1) (by omega) (by omega)]
  have : latBad n l1[j] = false := by simp [latBad, c]; omega
  simp [this]
theorem size_eq (a : Int) (l1 : List S86) (l2 : List S67) (l3 l4 : List Int) (hs : Small l1 l2 l3 l4) (h0 : 0 ≤ a) (h1 : a ≤ 1000) : spiritlevelref02_Size.f a l1 l2 l3 l4 = some (szS a l1 l2) := by
 have hs1 := hs.h1
 have hs2 := hs.h2
 unfold spiritlevelref02_Size.f szS
 rw [w64 (a + l1.length) (by omega) (by omega), w64 _ (by omega) (by omega)]
theorem rcheck_eq (k : Nat) (a : Int) (l1 : List S86) (l2 : List S67) (l3 l4 : List Int) (hs : Small l1 l2 l3 l4) (hw : Wf a l1 l2 l3 l4) (hk : 300 ≤ k) :
  spiritlevelref02_Check.f k a l1 l2 l3 l4 = some (checkR a l1 l2 l3 l4) := by
 have hs1 := hs.h1
 have hs2 := hs.h2
 have hs3 := hs.h3
 have hs4 := hs.h4
 obtain ⟨k, rfl⟩ : ∃ m, k = m + 3 := ⟨k - 3, by omega⟩
 unfold spiritlevelref02_Check.f checkR
 by_cases c0 : a < 0
 ·rw [if_pos c0, if_pos c0]
 rw [if_neg c0, if_neg c0]
 have j0 : spiritlevelref02_Check.j0 (k + 3) true a l1 l2 l3 l4 = some 4 := by simp [spiritlevelref02_Check.j0]
 by_cases c1 : a > 1000
 ·rw [if_pos c1, if_pos (Or.inl c1), j0]
 rw [if_neg c1, size_eq a l1 l2 l3 l4 hs (by omega) (by omega)]
 simp only [Option.bind_some]
 by_cases c2 : szS a l1 l2 > 1000
 ·rw [if_pos c2, if_pos (Or.inr (Or.inl c2)), j0]
 rw [if_neg c2]
 by_cases c3 : (l3.length : Int) > 100
 ·rw [if_pos c3, if_pos (by omega), j0]
 rw [if_neg c3]
 by_cases c4 : (l4.length : Int) > 100
 ·rw [decide_eq_true c4, if_pos (by omega), j0]
 rw [decide_eq_false c4, if_neg (by omega)]
 simp only [spiritlevelref02_Check.j0]
 rw [if_neg (by decide), size_eq a l1 l2 l3 l4 hs (by omega) (by omega)]
 simp only [Option.bind_some]
 rw [literals_eq _ l3 _ hw.w3 (by omega) (by omega)]
 simp only [Option.bind_some]
 by_cases d3 : l3.any (litOut (szS a l1 l2)) = true
 ·rw [if_neg (by simp [d3]), if_pos (Or.inl d3)]; simp [spiritlevelref02_Check.j1]
 rw [if_pos (by simp [d3]), literals_eq _ l4 _ hw.w4 (by omega) (by omega)]
 simp only [Option.bind_some]
 by_cases d4 : l4.any (litOut (szS a l1 l2)) = true
 ·rw [if_pos (Or.inr (Or.inl d4)), d4]; simp [spiritlevelref02_Check.j1]
 have d4' : l4.any (litOut (szS a l1 l2)) = false := by simpa using d4
 rw [d4']
 simp only [spiritlevelref02_Check.j1, Bool.not_false, Bool.not_true]
 rw [if_neg (by decide), show (0 : Int) = ((0 : Nat) : Int) from rfl, check_l0 a _ l1 l2 l3 l4 hs hw (by omega) (by omega) l1.length _ 0 (by omega) (by omega)]
 simp [d3]
theorem gcheck_eq (a : Int) (l1 : List S86) (l2 : List S67) (l3 l4 : List Int) (hs : Small l1 l2 l3 l4) (hw : Wf a l1 l2 l3 l4) :
  gates_Check.f a l1 l2 l3 l4 = some (checkR a l1 l2 l3 l4) := by
 have hs1 := hs.h1
 have hs2 := hs.h2
 unfold gates_Check.f checkR
 congr 1
 by_cases c0 : a < 0
 ·rw [if_pos c0, if_pos c0]
 rw [if_neg c0, if_neg c0]
 by_cases c1 : a > 1000
 ·rw [if_pos c1, if_pos (Or.inl c1)]
 have e3 : st3 a l1.length l2.length = szS a l1 l2 + 1 := by
  unfold st3 st2 st1 szS
  rw [w64 (1 + a) (by omega) (by omega), w64 (1 + a + l1.length) (by omega) (by omega), w64 _ (by omega) (by omega)]
  omega
 have e2 : st2 a l1.length = a + l1.length + 1 := by
  unfold st2 st1
  rw [w64 (1 + a) (by omega) (by omega), w64 _ (by omega) (by omega)]
  omega
 have hz : 0 ≤ szS a l1 l2 ∧ szS a l1 l2 ≤ 1190 := by unfold szS; omega
 rw [if_neg c1, e3, w64 (szS a l1 l2 + 1 - 1) (by omega) (by omega), Int.add_sub_cancel]
 by_cases c2 : szS a l1 l2 > 1000
 ·rw [if_pos c2, if_pos (Or.inr (Or.inl c2))]
 rw [if_neg c2]
 by_cases c3 : l3.length > 100 ∨ l4.length > 100
 ·rw [if_pos (show (if (l3.length : Int) < (l4.length : Int) then (l4.length : Int) else (l3.length : Int)) > 100 by split <;> omega), if_pos (show a > 1000 ∨ szS a l1 l2 > 1000 ∨ l3.length > 100 ∨ l4.length > 100 by omega)]
 rw [if_neg (show ¬ (if (l3.length : Int) < (l4.length : Int) then (l4.length : Int) else (l3.length : Int)) > 100 by split <;> omega), if_neg (show ¬ (a > 1000 ∨ szS a l1 l2 > 1000 ∨ l3.length > 100 ∨ l4.length > 100) by omega)]
 have o : outS (szS a l1 l2 + 1) = litOut (szS a l1 l2) := by
  funext l
  unfold outS litOut
  congr 1
 have o2 : wrongS (szS a l1 l2 + 1) = latBad (szS a l1 l2) := by
  funext x
  unfold wrongS latBad
  rw [o]
 have o3 : gatesBad (st2 a l1.length) l2 = gsBad (a + l1.length) l2 := by
  unfold gatesBad gsBad
  rw [Bool.eq_iff_iff, List.any_eq_true, List.any_eq_true]
  have hp : ∀ i ∈ List.range l2.length, gateBad (st2 a l1.length) i (rd_T67 l2 i) = gBad (a + l1.length) i (rd_T67 l2 i) := by
   intro i hi
   rw [List.mem_range] at hi
   unfold gateBad gBad
   rw [e2, w64 (a + l1.length + 1 + i) (by omega) (by omega), w64 _ (by omega) (by omega)]
   congr 1
   exact decide_eq_decide.2 (by omega)
  constructor
  ·rintro ⟨i, hi, h⟩; exact ⟨i, hi, by rw [← hp i hi]; exact h⟩
  ·rintro ⟨i, hi, h⟩; exact ⟨i, hi, by rw [hp i hi]; exact h⟩
 rw [o, o2, o3]
 by_cases d3 : l3.any (litOut (szS a l1 l2)) = true
 ·rw [if_pos d3, if_pos (Or.inl d3)]
 rw [if_neg d3]
 by_cases d4 : l4.any (litOut (szS a l1 l2)) = true
 ·rw [if_pos d4, if_pos (Or.inr (Or.inl d4))]
 rw [if_neg d4]
 by_cases d5 : l1.any (latBad (szS a l1 l2)) = true
 ·rw [if_pos d5, if_pos (Or.inr (Or.inr (Or.inl d5)))]
 rw [if_neg d5]
 by_cases d6 : gsBad (a + l1.length) l2 = true
 ·rw [if_pos d6, if_pos (Or.inr (Or.inr (Or.inr d6)))]
 ·rw [if_neg d6, if_neg (by simp [d3, d4, d5, d6])]
-- ref02's comparisons of equal circuits
theorem sameInts_l0 (l : List Int) (hl : l.length ≤ 100000) (d : Nat) : ∀ (k j : Nat), j + d = l.length → d < k → spiritlevelref02_SameInts.l0 k l l (j : Int) = some true := by
 induction d with
 | zero =>
  intro k j hj hk
  obtain ⟨k, rfl⟩ : ∃ m, k = m + 1 := ⟨k - 1, by omega⟩
  simp only [spiritlevelref02_SameInts.l0]
  rw [if_neg (by omega)]
 | succ d ih =>
  intro k j hj hk
  obtain ⟨k, rfl⟩ : ∃ m, k = m + 1 := ⟨k - 1, by omega⟩
  simp only [spiritlevelref02_SameInts.l0]
  rw [if_pos (by omega), if_pos (by omega), if_pos (by omega), if_pos trivial, w64 _ (by omega) (by omega), show ((j : Int) + 1) = ((j + 1 : Nat) : Int) by omega, ih k (j + 1) (by omega) (by omega)]
theorem sameInts_eq (k : Nat) (l : List Int) (hl : l.length ≤ 100000) (hk : l.length < k) : spiritlevelref02_SameInts.f k l l = some true := by
 unfold spiritlevelref02_SameInts.f
 rw [if_pos rfl]
 exact sameInts_l0 l hl l.length k 0 (by omega) hk
theorem same_l1 (a : Int) (l1 : List S86) (l2 : List S67) (l3 l4 : List Int) (hs : Small l1 l2 l3 l4) (d : Nat) : ∀ (k j : Nat), j + d = l2.length → d < k →
  spiritlevelref02_Same.l1 k (j : Int) a l1 l2 l3 l4 a l1 l2 l3 l4 = some true := by
 have hs2 := hs.h2
 induction d with
 | zero =>
  intro k j hj hk
  obtain ⟨k, rfl⟩ : ∃ m, k = m + 1 := ⟨k - 1, by omega⟩
  simp only [spiritlevelref02_Same.l1]
  rw [if_neg (by omega)]
 | succ d ih =>
  intro k j hj hk
  obtain ⟨k, rfl⟩ : ∃ m, k = m + 1 := ⟨k - 1, by omega⟩
  simp only [spiritlevelref02_Same.l1]
  rw [if_pos (by omega), if_pos (by omega), if_pos (by omega), if_neg (by simp), w64 _ (by omega) (by omega), show ((j : Int) + 1) = ((j + 1 : Nat) : Int) by omega, ih k (j + 1) (by omega) (by omega)]
theorem same_l0 (a : Int) (l1 : List S86) (l2 : List S67) (l3 l4 : List Int) (hs : Small l1 l2 l3 l4) (d : Nat) : ∀ (k j : Nat), j + d = l1.length → d + l2.length + 2 < k →
  spiritlevelref02_Same.l0 k (j : Int) a l1 l2 l3 l4 a l1 l2 l3 l4 = some true := by
 have hs1 := hs.h1
 induction d with
 | zero =>
  intro k j hj hk
  obtain ⟨k, rfl⟩ : ∃ m, k = m + 1 := ⟨k - 1, by omega⟩
  simp only [spiritlevelref02_Same.l0]
  rw [if_neg (by omega), show (0 : Int) = ((0 : Nat) : Int) from rfl, same_l1 a l1 l2 l3 l4 hs l2.length k 0 (by omega) (by omega)]
 | succ d ih =>
  intro k j hj hk
  obtain ⟨k, rfl⟩ : ∃ m, k = m + 1 := ⟨k - 1, by omega⟩
  simp only [spiritlevelref02_Same.l0]
  rw [if_pos (by omega), if_pos (by omega), if_pos (by omega), if_neg (by simp), w64 _ (by omega) (by omega), show ((j : Int) + 1) = ((j + 1 : Nat) : Int) by omega, ih k (j + 1) (by omega) (by omega)]
theorem same_eq (k : Nat) (a : Int) (l1 : List S86) (l2 : List S67) (l3 l4 : List Int) (hs : Small l1 l2 l3 l4) (hk : 300 ≤ k) :
  spiritlevelref02_Same.f k a l1 l2 l3 l4 a l1 l2 l3 l4 = some true := by
 have hs1 := hs.h1
 have hs2 := hs.h2
 have hs3 := hs.h3
 have hs4 := hs.h4
 obtain ⟨k, rfl⟩ : ∃ m, k = m + 1 := ⟨k - 1, by omega⟩
 unfold spiritlevelref02_Same.f
 rw [if_pos rfl, if_pos rfl, if_pos rfl, sameInts_eq _ l3 (by omega) (by omega)]
 simp only [Option.bind_some]
 rw [if_pos trivial, sameInts_eq _ l4 (by omega) (by omega)]
 simp only [Option.bind_some, Bool.not_true, spiritlevelref02_Same.j0]
 rw [if_neg (by decide), show (0 : Int) = ((0 : Nat) : Int) from rfl]
 exact same_l0 a l1 l2 l3 l4 hs l1.length k 0 (by omega) (by omega)
theorem twin_eq (a : Int) (l1 : List S86) (l2 : List S67) (l3 l4 : List Int) (hs : Small l1 l2 l3 l4) : spiritlevelref02_Twin.f a l1 l2 l3 l4 = some (a, l1, l2, l3, l4) := by
 have hs1 := hs.h1
 have hs2 := hs.h2
 have hs3 := hs.h3
 have hs4 := hs.h4
 unfold spiritlevelref02_Twin.f
 simp only [Option.bind_some, List.length_nil, List.nil_append, Nat.zero_add]
 rw [if_pos (by omega), if_pos (by omega), if_pos (by omega), if_pos (by omega)]
theorem checkR_ok (a : Int) (l1 : List S86) (l2 : List S67) (l3 l4 : List Int) (h : checkR a l1 l2 l3 l4 = 0) : 0 ≤ a ∧ a ≤ 1000 ∧ szS a l1 l2 ≤ 1000 := by
 unfold checkR at h
 by_cases c0 : a < 0
 ·rw [if_pos c0] at h; omega
 rw [if_neg c0] at h
 by_cases c1 : a > 1000 ∨ szS a l1 l2 > 1000 ∨ l3.length > 100 ∨ l4.length > 100
 ·rw [if_pos c1] at h; omega
 ·omega
theorem gvars_eq (a : Int) (l1 : List S86) (l2 : List S67) (l3 l4 : List Int) (hs : Small l1 l2 l3 l4) (hw : Wf a l1 l2 l3 l4) :
  gates_Vars.f a l1 l2 l3 l4 = some (if checkR a l1 l2 l3 l4 = 0 then (szS a l1 l2, 0) else (0, checkR a l1 l2 l3 l4)) := by
 have hs1 := hs.h1
 have hs2 := hs.h2
 unfold gates_Vars.f
 rw [gcheck_eq a l1 l2 l3 l4 hs hw]
 simp only [Option.bind_some]
 by_cases h : checkR a l1 l2 l3 l4 = 0
 ·obtain ⟨h0, h1, h2⟩ := checkR_ok _ _ _ _ _ h
  unfold szS at h2
  rw [if_pos h, if_pos h]
  unfold st3 st2 st1 szS
  rw [w64 (1 + a) (by omega) (by omega), w64 (1 + a + l1.length) (by omega) (by omega), w64 (1 + a + l1.length + l2.length) (by omega) (by omega), w64 _ (by omega) (by omega)]
  congr 2; omega
 ·rw [if_neg h, if_neg h]
-- a valid circuit
def Gates (base : Nat) (gs : List S67) : Prop := ∀ (i : Nat) (h : i < gs.length), 0 ≤ gs[i].f1 ∧ gs[i].f1 ≤ gs[i].f0 ∧ gs[i].f0 / 2 < (base + i : Nat)
structure Good (a : Int) (l1 : List S86) (l2 : List S67) (l3 l4 : List Int) : Prop where
 a0 : 0 ≤ a
 a1 : a ≤ 1000
 n : szS a l1 l2 ≤ 1000
 g : Gates (1 + a.toNat + l1.length) l2
 l : ∀ x ∈ l1, (0 ≤ x.f0 ∧ x.f0 / 2 ≤ szS a l1 l2) ∧ (0 ≤ x.f1 ∧ x.f1 ≤ 2)
 b : ∀ x ∈ l3, 0 ≤ x ∧ x / 2 ≤ szS a l1 l2
 c : ∀ x ∈ l4, 0 ≤ x ∧ x / 2 ≤ szS a l1 l2
theorem litOut_in {n l : Int} (h : litOut n l = false) : 0 ≤ l ∧ l / 2 ≤ n := by
 simp only [litOut, Bool.or_eq_false_iff, decide_eq_false_iff_not] at h
 omega
theorem good_of (a : Int) (l1 : List S86) (l2 : List S67) (l3 l4 : List Int) (h : checkR a l1 l2 l3 l4 = 0) : Good a l1 l2 l3 l4 := by
 unfold checkR at h
 by_cases c0 : a < 0
 ·rw [if_pos c0] at h; omega
 rw [if_neg c0] at h
 by_cases c1 : a > 1000 ∨ szS a l1 l2 > 1000 ∨ l3.length > 100 ∨ l4.length > 100
 ·rw [if_pos c1] at h; omega
 rw [if_neg c1] at h
 by_cases c2 : l3.any (litOut (szS a l1 l2)) = true ∨ l4.any (litOut (szS a l1 l2)) = true ∨ l1.any (latBad (szS a l1 l2)) = true ∨ gsBad (a + l1.length) l2 = true
 ·rw [if_pos c2] at h; omega
 have d3 : l3.any (litOut (szS a l1 l2)) = false := by
  cases e : l3.any (litOut (szS a l1 l2)) with
  | false => rfl
  | true => exact absurd (Or.inl e) c2
 have d4 : l4.any (litOut (szS a l1 l2)) = false := by
  cases e : l4.any (litOut (szS a l1 l2)) with
  | false => rfl
  | true => exact absurd (Or.inr (Or.inl e)) c2
 have d1 : l1.any (latBad (szS a l1 l2)) = false := by
  cases e : l1.any (latBad (szS a l1 l2)) with
  | false => rfl
  | true => exact absurd (Or.inr (Or.inr (Or.inl e))) c2
 have d2 : gsBad (a + l1.length) l2 = false := by
  cases e : gsBad (a + l1.length) l2 with
  | false => rfl
  | true => exact absurd (Or.inr (Or.inr (Or.inr e))) c2
 refine ⟨by omega, by omega, by omega, ?_, ?_, ?_, ?_⟩
 ·intro i hi
  have := List.any_eq_false.1 d2 i (List.mem_range.2 hi)
  rw [rdA_at l2 i hi] at this
  simp [gBad] at this
  omega
 ·intro x hx
  have := List.any_eq_false.1 d1 x hx
  simp only [latBad, Bool.not_eq_true, Bool.or_eq_false_iff, decide_eq_false_iff_not] at this
  exact ⟨litOut_in this.1.1, by omega⟩
 ·intro x hx
  exact litOut_in (by simpa using List.any_eq_false.1 d3 x hx)
 ·intro x hx
  exact litOut_in (by simpa using List.any_eq_false.1 d4 x hx)
theorem check_of (a : Int) (l1 : List S86) (l2 : List S67) (l3 l4 : List Int) (h : Good a l1 l2 l3 l4) (h3 : l3.length ≤ 100) (h4 : l4.length ≤ 100) : checkR a l1 l2 l3 l4 = 0 := by
 have ha0 := h.a0
 have ha1 := h.a1
 have hn := h.n
 unfold checkR
 rw [if_neg (by omega), if_neg (by omega), if_neg]
 rintro (c | c | c | c)
 ·obtain ⟨x, hx, hb⟩ := List.any_eq_true.1 c
  have := h.b x hx
  simp [litOut] at hb
  omega
 ·obtain ⟨x, hx, hb⟩ := List.any_eq_true.1 c
  have := h.c x hx
  simp [litOut] at hb
  omega
 ·obtain ⟨x, hx, hb⟩ := List.any_eq_true.1 c
  have := h.l x hx
  simp [latBad, litOut] at hb
  omega
 ·obtain ⟨i, hi, hb⟩ := List.any_eq_true.1 c
  have hi := List.mem_range.1 hi
  have := h.g i hi
  rw [rdA_at l2 i hi] at hb
  simp [gBad] at hb
  omega
theorem okH_of {a : Int} {l1 : List S86} {l2 : List S67} {l3 l4 : List Int} (hg : Good a l1 l2 l3 l4) (hs : Small l1 l2 l3 l4) : okH a l1 l2 l3 l4 = true := by
 have h0 := hg.a0
 have h1 := hg.a1
 have s1 := hs.h1
 have s2 := hs.h2
 have s3 := hs.h3
 have s4 := hs.h4
 unfold okH
 rw [Bool.and_eq_true, decide_eq_true_eq, List.all_eq_true]
 refine ⟨by omega, fun g hgm => ?_⟩
 obtain ⟨i, hi, rfl⟩ := List.getElem_of_mem hgm
 obtain ⟨b1, b2, b3⟩ := hg.g i hi
 unfold okG
 rw [decide_eq_true_eq]
 omega
theorem bx_eq (y : Int) (h0 : 0 ≤ y) (h1 : y < 9223372036854775807) : Go.bits .xor .i64 y 1 = if y % 2 = 0 then y + 1 else y - 1 := bxor1 y h0 h1
theorem bx_bx (y : Int) (h0 : 0 ≤ y) (h1 : y < 9223372036854775800) : Go.bits .xor .i64 (Go.bits .xor .i64 y 1) 1 = y := by
 rw [bx_eq y h0 (by omega)]
 split
 ·rw [bx_eq _ (by omega) (by omega), if_neg (by omega)]; omega
 ·rw [bx_eq _ (by omega) (by omega), if_pos (by omega)]; omega
theorem findG_some {first : Int} {gs : List S67} {x y l : Int} (h : findG first gs x y = some l) : ∃ (i : Nat) (hi : i < gs.length), l = 2 * (first + (i : Int)) ∧ gs[i].f0 = x ∧ gs[i].f1 = y := by
 unfold findG at h
 obtain ⟨i, hi, rfl⟩ := Option.map_eq_some_iff.1 h
 obtain ⟨hlt, hp, _⟩ := List.findIdx?_eq_some_iff_getElem.1 hi
 have := of_decide_eq_true hp
 exact ⟨i, hlt, rfl, this.1, this.2⟩
theorem andP_cases (first : Int) (gs : List S67) (x y : Int) : (andP first gs x y).1 = gs ∨ ((andP first gs x y) = (gs ++ [⟨mx x y, mn x y⟩], 2 * (first + (gs.length : Int))) ∧ x ≠ 0 ∧ y ≠ 0 ∧ x ≠ 1 ∧ y ≠ 1 ∧ x ≠ y ∧ x ≠ Go.bits .xor .i64 y 1 ∧ findG first gs (mx x y) (mn x y) = none) := by
 unfold andP
 split
 ·exact Or.inl rfl
 ·rename_i c1
  split
  ·exact Or.inl rfl
  ·rename_i c2
   split
   ·exact Or.inl rfl
   ·rename_i c3
    cases e : findG first gs (mx x y) (mn x y) with
    | some l => exact Or.inl rfl
    | none => exact Or.inr ⟨rfl, fun h => c1 (Or.inl h), fun h => c1 (Or.inr (Or.inl h)), fun h => c2 (Or.inl h), c3, fun h => c2 (Or.inr h), fun h => c1 (Or.inr (Or.inr h)), rfl⟩
structure Fine (first : Int) (gs : List S67) : Prop where
 ok : ∀ (i : Nat) (h : i < gs.length), 2 ≤ gs[i].f1 ∧ gs[i].f1 < gs[i].f0 ∧ gs[i].f0 ≠ Go.bits .xor .i64 gs[i].f1 1 ∧ gs[i].f0 / 2 < first + (i : Int)
 one : ∀ (i j : Nat) (hi : i < gs.length) (hj : j < gs.length), i < j → ¬ (gs[i].f0 = gs[j].f0 ∧ gs[i].f1 = gs[j].f1)
theorem fine_nil (first : Int) : Fine first [] := ⟨fun i h => absurd h (by simp), fun i j hi => absurd hi (by simp)⟩
theorem findG_miss {first : Int} {gs : List S67} {p q : Int} (h : findG first gs p q = none) (i : Nat) (hi : i < gs.length) : ¬ (gs[i].f0 = p ∧ gs[i].f1 = q) := by
 unfold findG at h
 rw [Option.map_eq_none_iff, List.findIdx?_eq_none_iff] at h
 have := h _ (List.getElem_mem hi)
 simpa using this
theorem fine_step {first : Int} {gs : List S67} {x y : Int} (hf : 1 ≤ first) (h : Fine first gs) (x0 : 0 ≤ x) (x1 : x / 2 < first + (gs.length : Int)) (y0 : 0 ≤ y) (y1 : y / 2 < first + (gs.length : Int)) (hx : x < 1000000) (hy : y < 1000000) :
  Fine first (andP first gs x y).1 ∧ 0 ≤ (andP first gs x y).2 ∧ (andP first gs x y).2 / 2 < first + ((andP first gs x y).1.length : Int) := by
 rcases andP_cases first gs x y with e | ⟨e, c0, c1, c2, c3, c4, c5, c6⟩
 ·rw [e]
  refine ⟨h, ?_⟩
  unfold andP
  split
  ·dsimp only; omega
  ·split
   ·dsimp only; omega
   ·split
    ·dsimp only; omega
    ·split
     ·rename_i l hl
      obtain ⟨i, hi, rfl, -, -⟩ := findG_some hl
      dsimp only; omega
     ·rename_i hl
      dsimp only
      exfalso
      unfold andP at e
      simp_all
 ·rw [e]
  dsimp only
  have hm : 2 ≤ mn x y ∧ mn x y < mx x y ∧ mx x y / 2 < first + (gs.length : Int) ∧ mx x y ≠ Go.bits .xor .i64 (mn x y) 1 := by
   have h2 : y ≠ Go.bits .xor .i64 x 1 := fun h => c5 (by rw [h, bx_bx x x0 (by omega)])
   unfold mx mn
   split <;> split <;> first | omega | (refine ⟨by omega, by omega, by omega, ?_⟩; assumption)
  refine ⟨⟨fun i hi => ?_, fun i j hi hj hij => ?_⟩, by omega, by rw [List.length_append, List.length_singleton]; omega⟩
  ·by_cases c : i < gs.length
   ·rw [List.getElem_append_left c]
    exact h.ok i c
   ·have hi2 : i = gs.length := by rw [List.length_append, List.length_singleton] at hi; omega
    subst hi2
    simp only [List.getElem_concat_length]
    exact ⟨hm.1, hm.2.1, hm.2.2.2, hm.2.2.1⟩
  ·have hjl : j ≤ gs.length := by rw [List.length_append, List.length_singleton] at hj; omega
   have hil : i < gs.length := by omega
   rw [List.getElem_append_left hil]
   by_cases c : j < gs.length
   ·rw [List.getElem_append_left c]
    exact h.one i j hil c hij
   ·have hj2 : j = gs.length := by omega
    subst hj2
    simp only [List.getElem_concat_length]
    exact findG_miss c6 i hil
theorem sgn_lit {T : List Int} {B : Int} (hT : ∀ t ∈ T, 0 ≤ t ∧ t / 2 < B) (hB : B ≤ 100000) (l : Int) (h0 : 0 ≤ l) (h1 : l / 2 < T.length) (h2 : l ≤ 1000000) : 0 ≤ sgnP T l ∧ sgnP T l / 2 < B := by
 have hm := hT _ (rd_mem T (l / 2) (by omega) h1)
 rw [sgnP_eq T l h0 (by omega) hm.1 (by omega)]
 unfold notH
 split
 ·exact hm
 ·split <;> omega
structure InvB (first : Int) (k : Nat) (s : List S67 × List Int) : Prop where
 fine : Fine first s.1
 len : s.2.length = k
 cnt : s.1.length = 0 ∨ first + (s.1.length : Int) ≤ (k : Int)
 lits : ∀ t ∈ s.2, 0 ≤ t ∧ t / 2 < first + (s.1.length : Int)
theorem inv_step {first : Int} {ands : List S67} {given : List Int} {ins : Int} {k : Nat} (hf : 1 ≤ first) (ha : okA first ands = true) (hg : badG ins given k = false) (hk : (k : Int) < first + (ands.length : Int)) (hN : first + (ands.length : Int) ≤ 50000) {s : List S67 × List Int} (h : InvB first k s) : InvB first (k + 1) (stepB first ands given s) := by
 obtain ⟨h1, h2, h3, h4⟩ := h
 have hB : first + (s.1.length : Int) ≤ 100000 := by omega
 unfold stepB
 rw [h2]
 by_cases c : 0 ≤ rd given (k : Int)
 ·rw [if_pos c]
  have hb := badG_not hg c
  have hs := sgn_lit h4 hB _ c (by rw [h2]; omega) (by omega)
  refine ⟨h1, by dsimp only; rw [List.length_append, List.length_singleton, h2], by dsimp only; omega, fun t ht => ?_⟩
  rcases List.mem_append.1 ht with ht | ht
  ·exact h4 t ht
  ·rw [List.mem_singleton.1 ht]; exact hs
 ·rw [if_neg c]
  by_cases c1 : (k : Int) < first
  ·rw [if_pos c1]
   refine ⟨h1, by dsimp only; rw [List.length_append, List.length_singleton, h2], by dsimp only; omega, fun t ht => ?_⟩
   rcases List.mem_append.1 ht with ht | ht
   ·exact h4 t ht
   ·rw [List.mem_singleton.1 ht]; dsimp only; omega
  ·rw [if_neg c1]
   obtain ⟨i, hi⟩ : ∃ i : Nat, (i : Int) = (k : Int) - first := ⟨((k : Int) - first).toNat, by omega⟩
   obtain ⟨a0, a1, a2, a3⟩ := okA_at ha i (by omega)
   rw [← hi]
   have hs := sgn_lit h4 hB _ a0 (by rw [h2]; omega) (by omega)
   have ht := sgn_lit h4 hB _ a2 (by rw [h2]; omega) (by omega)
   generalize sgnP s.2 (rd_T67 ands (i : Int)).f0 = x at *
   generalize sgnP s.2 (rd_T67 ands (i : Int)).f1 = y at *
   obtain ⟨f1, f2, f3⟩ := fine_step hf h1 hs.1 hs.2 ht.1 ht.2 (by omega) (by omega)
   have hl := andP_len first s.1 x y
   have hge : s.1.length ≤ (andP first s.1 x y).1.length := by
    rcases andP_cases first s.1 x y with e | ⟨e, -⟩
    ·rw [e]; exact Nat.le_refl _
    ·rw [e]; simp
   refine ⟨f1, by dsimp only; rw [List.length_append, List.length_singleton, h2], by dsimp only; omega, fun t ht => ?_⟩
   rcases List.mem_append.1 ht with ht | ht
   ·have := h4 t ht; dsimp only; omega
   ·rw [List.mem_singleton.1 ht]; exact ⟨f2, f3⟩
theorem inv_run {first : Int} {ands : List S67} {given : List Int} {ins : Int} (hf : 1 ≤ first) (ha : okA first ands = true) (hN : first + (ands.length : Int) ≤ 50000) : ∀ k : Nat, (k : Int) ≤ first + (ands.length : Int) → (∀ v : Nat, v < k → badG ins given v = false) → InvB first k (runB first ands given k)
 | 0, _, _ => ⟨fine_nil first, rfl, Or.inl rfl, fun t ht => absurd ht (by simp [runB])⟩
 | k + 1, hk, hg => inv_step hf ha (hg k (by omega)) (by omega) hN (inv_run hf ha hN k (by omega) (fun v hv => hg v (by omega)))
theorem okC_of {a : Int} {l1 : List S86} {l2 : List S67} {l3 l4 g : List Int} (hg : Good a l1 l2 l3 l4) (hs : Small l1 l2 l3 l4) (h : g.length ≤ 60000) : okC a l1 l2 l3 l4 g = true := by
 have ho := okH_of hg hs
 unfold okC okA
 simp only [Bool.and_eq_true, decide_eq_true_eq, List.all_eq_true]
 refine ⟨⟨⟨⟨⟨ho, fun i hi => ?_⟩, h⟩, fun x hx => ?_⟩, fun x hx => ?_⟩, fun x hx => ?_⟩
 ·have hi := List.mem_range.1 hi
  obtain ⟨b1, b2, b3⟩ := hg.g i hi
  have er : rd_T67 l2 (i : Int) = l2[i] := by simp [rd_T67, List.getD, hi]
  have := hg.a0
  rw [er]; omega
 ·have := (hg.l x hx).1; unfold szS at this; omega
 ·have := hg.b x hx; unfold szS at this; omega
 ·have := hg.c x hx; unfold szS at this; omega
theorem lens_of {a : Int} {l1 : List S86} {l2 : List S67} {l3 l4 : List Int} (h : checkR a l1 l2 l3 l4 = 0) : l3.length ≤ 100 ∧ l4.length ≤ 100 := by
 unfold checkR at h
 by_cases c0 : a < 0
 ·rw [if_pos c0] at h; omega
 ·rw [if_neg c0] at h
  by_cases c1 : a > 1000 ∨ szS a l1 l2 > 1000 ∨ l3.length > 100 ∨ l4.length > 100
  ·rw [if_pos c1] at h; omega
  ·omega
theorem built_good {a : Int} {l1 : List S86} {l2 G : List S67} {l3 l4 T : List Int} {N : Nat} (hg : Good a l1 l2 l3 l4) (hi : InvB (a + (l1.length : Int) + 1) N (G, T)) (hN : (N : Int) = szS a l1 l2 + 1) :
  Good a (l1.map (fun x => (⟨sgnP T x.f0, x.f1⟩ : S86))) G (l3.map (sgnP T)) (l4.map (sgnP T)) ∧ G.length ≤ l2.length := by
 obtain ⟨h1, h2, h3, h4⟩ := hi
 dsimp only at h1 h2 h3 h4
 have ha0 := hg.a0
 have ha1 := hg.a1
 have hn := hg.n
 have hG : G.length ≤ l2.length := by unfold szS at hN; omega
 have hz : szS a (l1.map (fun x => (⟨sgnP T x.f0, x.f1⟩ : S86))) G = a + (l1.length : Int) + (G.length : Int) := by unfold szS; rw [List.length_map]
 have hB : a + (l1.length : Int) + 1 + (G.length : Int) ≤ 100000 := by unfold szS at hn; omega
 have key : ∀ x : Int, 0 ≤ x → x / 2 ≤ szS a l1 l2 → 0 ≤ sgnP T x ∧ sgnP T x / 2 ≤ a + (l1.length : Int) + (G.length : Int) := fun x x0 x1 => by
  have := sgn_lit h4 hB x x0 (by omega) (by omega)
  omega
 refine ⟨⟨ha0, ha1, by rw [hz]; unfold szS at hn; omega, fun i hi => ?_, fun x hx => ?_, fun x hx => ?_, fun x hx => ?_⟩, hG⟩
 ·obtain ⟨b1, b2, b3, b4⟩ := h1.ok i hi
  rw [List.length_map]
  refine ⟨by omega, by omega, by omega⟩
 ·obtain ⟨y, hy, rfl⟩ := List.mem_map.1 hx
  obtain ⟨b1, b2⟩ := hg.l y hy
  rw [hz]
  exact ⟨key _ b1.1 b1.2, b2⟩
 ·obtain ⟨y, hy, rfl⟩ := List.mem_map.1 hx
  obtain ⟨b1, b2⟩ := hg.b y hy
  rw [hz]
  exact key _ b1 b2
 ·obtain ⟨y, hy, rfl⟩ := List.mem_map.1 hx
  obtain ⟨b1, b2⟩ := hg.c y hy
  rw [hz]
  exact key _ b1 b2
theorem good_wf {a : Int} {l1 : List S86} {l2 : List S67} {l3 l4 : List Int} (hg : Good a l1 l2 l3 l4) (h2 : l2.length ≤ 130) : Wf a l1 l2 l3 l4 := by
 have ha0 := hg.a0
 have ha1 := hg.a1
 have hn := hg.n
 refine ⟨by omega, fun x hx => ?_, fun x hx => ?_, fun x hx => ?_, fun x hx => ?_⟩
 ·have := hg.l x hx; omega
 ·obtain ⟨i, hi, rfl⟩ := List.getElem_of_mem hx
  obtain ⟨b1, b2, b3⟩ := hg.g i hi
  unfold szS at hn
  omega
 ·have := hg.b x hx; omega
 ·have := hg.c x hx; omega
def litL (a : Int) (n : Nat) : List Int := (List.range n).map (fun j : Nat => 2 * (a + 1 + (j : Int)))
def litR (n : Nat) : List Int := (List.range n).map (fun j : Nat => 2 * ((j : Int) + 1))
theorem litL_succ (a : Int) (n : Nat) : litL a (n + 1) = litL a n ++ [2 * (a + 1 + (n : Int))] := by simp [litL, List.range_succ]
theorem litR_succ (n : Nat) : litR (n + 1) = litR n ++ [2 * ((n : Int) + 1)] := by simp [litR, List.range_succ]
theorem litL_len (a : Int) (n : Nat) : (litL a n).length = n := by simp [litL]
theorem litR_len (n : Nat) : (litR n).length = n := by simp [litR]
theorem idx_l1 (a : Int) (a0 : 0 ≤ a) (a1 : a ≤ 10000) (l1 : List S86) (l2 : List S67) (l3 l4 : List Int) (s p lit : Int) (rows : List (List Int)) (n : Nat) (hn : n ≤ 10000) (d : Nat) : ∀ (k j : Nat), j + d = n → d < k → lift_Identity.l1 k (n : Int) (j : Int) a l1 l2 l3 l4 s p (litL a j) rows lit = some (s, p, litL a n, rows, litL a n, [], lit, 0) := by
 induction d with
 | zero =>
  intro k j hj hk
  obtain ⟨k, rfl⟩ : ∃ m, k = m + 1 := ⟨k - 1, by omega⟩
  simp only [lift_Identity.l1]
  obtain rfl : j = n := by omega
  rw [if_neg (by omega)]
  unfold slices_Clone_int_int.f
  rw [if_pos (by rw [litL_len]; omega)]
  rfl
 | succ d ih =>
  intro k j hj hk
  obtain ⟨k, rfl⟩ : ∃ m, k = m + 1 := ⟨k - 1, by omega⟩
  simp only [lift_Identity.l1]
  rw [if_pos (by omega), if_pos (by rw [litL_len]; omega), w64 (a + 1) (by omega) (by omega), w64 (a + 1 + (j : Int)) (by omega) (by omega), w64 (2 * (a + 1 + (j : Int))) (by omega) (by omega), w64 ((j : Int) + 1) (by omega) (by omega), ← litL_succ, show (j : Int) + 1 = ((j + 1 : Nat) : Int) by omega]
  exact ih k (j + 1) (by omega) (by omega)
theorem idx_l0 (A : Nat) (hA : A ≤ 10000) (l1 : List S86) (l2 : List S67) (l3 l4 : List Int) (s p lit : Int) (hn : l1.length ≤ 10000) (d : Nat) : ∀ (k v : Nat), v + d = A → d + l1.length + 1 < k → lift_Identity.l0 k ((v : Int) + 1) (A : Int) l1 l2 l3 l4 s p [litR v] lit = some (s, p, litL (A : Int) l1.length, [litR A], litL (A : Int) l1.length, [], lit, 0) := by
 induction d with
 | zero =>
  intro k v hv hk
  obtain ⟨k, rfl⟩ : ∃ m, k = m + 1 := ⟨k - 1, by omega⟩
  simp only [lift_Identity.l0]
  obtain rfl : v = A := by omega
  rw [if_neg (by omega)]
  exact idx_l1 (v : Int) (by omega) (by omega) l1 l2 l3 l4 s p lit _ l1.length hn l1.length k 0 (by omega) (by omega)
 | succ d ih =>
  intro k v hv hk
  obtain ⟨k, rfl⟩ : ∃ m, k = m + 1 := ⟨k - 1, by omega⟩
  simp only [lift_Identity.l0]
  have er : rd_L3 [litR v] 0 = litR v := rfl
  have es : ([litR v] : List (List Int)).set (0 : Int).toNat (litR v ++ [2 * ((v : Int) + 1)]) = [litR (v + 1)] := by rw [litR_succ]; rfl
  rw [er, if_pos (by omega), if_pos (by simp), if_pos (by rw [litR_len]; omega), w64 (2 * ((v : Int) + 1)) (by omega) (by omega), es, w64 ((v : Int) + 1 + 1) (by omega) (by omega), show (v : Int) + 1 + 1 = ((v + 1 : Nat) : Int) + 1 by omega]
  exact ih k (v + 1) (by omega) (by omega)
theorem idx_eq (k : Nat) (A : Nat) (l1 : List S86) (l2 : List S67) (l3 l4 : List Int) (hs : Small l1 l2 l3 l4) (hw : Wf (A : Int) l1 l2 l3 l4) (hc : checkR (A : Int) l1 l2 l3 l4 = 0) (hk : 2000 ≤ k) : lift_Identity.f k (A : Int) l1 l2 l3 l4 = some (0, 1, litL (A : Int) l1.length, [litR A], litL (A : Int) l1.length, [], 1, 0) := by
 have hg := good_of _ l1 l2 l3 l4 hc
 have ha0 := hg.a0
 have ha1 := hg.a1
 have hs1 := hs.h1
 unfold lift_Identity.f
 rw [gcheck_eq _ l1 l2 l3 l4 hs hw, Option.bind_some, hc, if_pos rfl, if_pos (by decide)]
 have := idx_l0 A (by omega) l1 l2 l3 l4 0 1 1 (by omega) A k 0 (by omega) (by omega)
 exact this
theorem sax_l1 (A : Nat) (hA : A ≤ 10000) (l1 : List S86) (l2 : List S67) (l3 l4 : List Int) (s p : Int) (x2 x4 : List Int) (x5 : List S67) (x6 : Int) (d : Nat) : ∀ (k j : Nat), j + d = A → d < k → spiritlevelref25_Same.l1 k (j : Int) (A : Int) l1 l2 l3 l4 s p x2 [litR j] x4 x5 x6 = some (s, p, x2, [litR A], x4, x5, x6) := by
 induction d with
 | zero =>
  intro k j hj hk
  obtain ⟨k, rfl⟩ : ∃ m, k = m + 1 := ⟨k - 1, by omega⟩
  simp only [spiritlevelref25_Same.l1]
  obtain rfl : j = A := by omega
  rw [if_neg (by omega)]
 | succ d ih =>
  intro k j hj hk
  obtain ⟨k, rfl⟩ : ∃ m, k = m + 1 := ⟨k - 1, by omega⟩
  simp only [spiritlevelref25_Same.l1]
  have er : rd_L3 [litR j] 0 = litR j := rfl
  have es : ([litR j] : List (List Int)).set (0 : Int).toNat (litR j ++ [2 * ((j : Int) + 1)]) = [litR (j + 1)] := by rw [litR_succ]; rfl
  rw [er, if_pos (by omega), if_pos (by simp), if_pos (by rw [litR_len]; omega), w64 ((j : Int) + 1) (by omega) (by omega), w64 (2 * ((j : Int) + 1)) (by omega) (by omega), es, show (j : Int) + 1 = ((j + 1 : Nat) : Int) by omega]
  exact ih k (j + 1) (by omega) (by omega)
theorem sax_l0 (A : Nat) (hA : A ≤ 10000) (l1 : List S86) (l2 : List S67) (l3 l4 : List Int) (s p : Int) (hn : l1.length ≤ 10000) (x5 : List S67) (x6 : Int) (d : Nat) : ∀ (k j : Nat), j + d = l1.length → d + A + 1 < k → spiritlevelref25_Same.l0 k (j : Int) (A : Int) l1 l2 l3 l4 s p (litL (A : Int) j) [litR 0] (litL (A : Int) j) x5 x6 = some (s, p, litL (A : Int) l1.length, [litR A], litL (A : Int) l1.length, x5, x6) := by
 induction d with
 | zero =>
  intro k j hj hk
  obtain ⟨k, rfl⟩ : ∃ m, k = m + 1 := ⟨k - 1, by omega⟩
  simp only [spiritlevelref25_Same.l0]
  rw [if_neg (by omega), show j = l1.length by omega]
  exact sax_l1 A hA l1 l2 l3 l4 s p _ _ x5 x6 A k 0 (by omega) (by omega)
 | succ d ih =>
  intro k j hj hk
  obtain ⟨k, rfl⟩ : ∃ m, k = m + 1 := ⟨k - 1, by omega⟩
  simp only [spiritlevelref25_Same.l0]
  have el : spiritlevelref25_Latch.f (A : Int) l1 l2 l3 l4 (j : Int) = some (2 * ((A : Int) + 1 + (j : Int))) := by
   unfold spiritlevelref25_Latch.f
   rw [w64 ((A : Int) + 1) (by omega) (by omega), w64 ((A : Int) + 1 + (j : Int)) (by omega) (by omega), w64 _ (by omega) (by omega)]
  rw [if_pos (by omega), el, Option.bind_some, if_pos (by rw [litL_len]; omega), Option.bind_some, if_pos (by rw [litL_len]; omega), w64 ((j : Int) + 1) (by omega) (by omega), ← litL_succ, show (j : Int) + 1 = ((j + 1 : Nat) : Int) by omega]
  exact ih k (j + 1) (by omega) (by omega)
theorem sax_eq (k : Nat) (A : Nat) (hA : A ≤ 1000) (l1 : List S86) (l2 : List S67) (l3 l4 : List Int) (hs : Small l1 l2 l3 l4) (hk : 2000 ≤ k) : spiritlevelref25_Same.f k (A : Int) l1 l2 l3 l4 = some (0, 1, litL (A : Int) l1.length, [litR A], litL (A : Int) l1.length, [], 1) := by
 have hs1 := hs.h1
 unfold spiritlevelref25_Same.f spiritlevelref25_True.f
 rw [Option.bind_some]
 exact sax_l0 A (by omega) l1 l2 l3 l4 0 1 (by omega) [] 1 l1.length k 0 (by omega) (by omega)
theorem none_l0 (a : Int) (l1 : List S86) (l2 : List S67) (l3 l4 : List Int) (N : Nat) (hN : (N : Int) = szS a l1 l2 + 1) (hN2 : N ≤ 10000) (hz : spiritlevelref02_Size.f a l1 l2 l3 l4 = some (szS a l1 l2)) (d : Nat) : ∀ (k j : Nat), j + d = N → d < k → spiritlevelref26_None.l0 k (List.replicate j (-1)) (j : Int) a l1 l2 l3 l4 = some (List.replicate N (-1)) := by
 induction d with
 | zero =>
  intro k j hj hk
  obtain ⟨k, rfl⟩ : ∃ m, k = m + 1 := ⟨k - 1, by omega⟩
  simp only [spiritlevelref26_None.l0]
  rw [hz, Option.bind_some, if_neg (by omega), show j = N by omega]
 | succ d ih =>
  intro k j hj hk
  obtain ⟨k, rfl⟩ : ∃ m, k = m + 1 := ⟨k - 1, by omega⟩
  simp only [spiritlevelref26_None.l0]
  rw [hz, Option.bind_some, if_pos (by omega), if_pos (by rw [List.length_replicate]; omega), w64 ((j : Int) + 1) (by omega) (by omega), ← List.replicate_succ', show (j : Int) + 1 = ((j + 1 : Nat) : Int) by omega]
  exact ih k (j + 1) (by omega) (by omega)
theorem bld_bad (a : Int) (l1 : List S86) (l2 : List S67) (l3 l4 g : List Int) (hl : g.length ≤ 60000) (d : Nat) : ∀ (k j : Nat), j + d = g.length → d < k → (∃ v : Nat, j ≤ v ∧ v < g.length ∧ badG a g v = true) → spiritlevelref26_Build.l0 k g (j : Int) a l1 l2 l3 l4 = some (0, [], [], [], [], [], 2) := by
 induction d with
 | zero =>
  intro k j hj hk h
  obtain ⟨v, h1, h2, -⟩ := h
  omega
 | succ d ih =>
  intro k j hj hk h
  obtain ⟨k, rfl⟩ : ∃ m, k = m + 1 := ⟨k - 1, by omega⟩
  simp only [spiritlevelref26_Build.l0]
  rw [if_pos (by omega), if_pos (by omega), w64 (2 * (j : Int)) (by omega) (by omega)]
  by_cases c1 : rd g (j : Int) < -1
  ·rw [if_pos c1]
  rw [if_neg c1]
  by_cases c2 : rd g (j : Int) ≥ 2 * (j : Int)
  ·rw [if_pos c2]
  rw [if_neg c2]
  have next : (rd g (j : Int) ≥ 0 → ¬ (j : Int) ≤ a) → spiritlevelref26_Build.l0 k g (wrap64 ((j : Int) + 1)) a l1 l2 l3 l4 = some (0, [], [], [], [], [], 2) := fun h3 => by
   rw [w64 ((j : Int) + 1) (by omega) (by omega), show (j : Int) + 1 = ((j + 1 : Nat) : Int) by omega]
   refine ih k (j + 1) (by omega) (by omega) ?_
   obtain ⟨v, h1, h2, hb⟩ := h
   refine ⟨v, ?_, h2, hb⟩
   rcases Nat.lt_or_ge j v with h5 | h5
   ·omega
   ·exfalso
    obtain rfl : v = j := by omega
    unfold badG at hb
    rw [Bool.or_eq_true, Bool.or_eq_true, decide_eq_true_eq, decide_eq_true_eq, Bool.and_eq_true, decide_eq_true_eq, decide_eq_true_eq] at hb
    rcases hb with (hb | hb) | hb
    ·exact c1 hb
    ·exact c2 hb
    ·exact h3 hb.1 hb.2
  by_cases c3 : rd g (j : Int) ≥ 0
  ·rw [if_pos c3]
   by_cases c4 : (j : Int) ≤ a
   ·rw [if_pos c4]
   ·rw [if_neg c4]; exact next (fun _ => c4)
  ·rw [if_neg c3]; exact next (fun h => absurd h c3)
theorem bld_ok (a : Int) (l1 : List S86) (l2 : List S67) (l3 l4 g : List Int) (hl : g.length ≤ 60000) (hg : ∀ v : Nat, v < g.length → badG a g v = false) (d : Nat) : ∀ (k j : Nat), j + d = g.length → d < k → spiritlevelref26_Build.l0 k g (j : Int) a l1 l2 l3 l4 = (spiritlevelref26_Built.f a l1 l2 l3 l4 g).bind fun b => some (b.1, b.2.1, b.2.2.1, b.2.2.2.1, b.2.2.2.2.1, b.2.2.2.2.2, 0) := by
 induction d with
 | zero =>
  intro k j hj hk
  obtain ⟨k, rfl⟩ : ∃ m, k = m + 1 := ⟨k - 1, by omega⟩
  simp only [spiritlevelref26_Build.l0]
  rw [if_neg (by omega)]
 | succ d ih =>
  intro k j hj hk
  obtain ⟨k, rfl⟩ : ∃ m, k = m + 1 := ⟨k - 1, by omega⟩
  simp only [spiritlevelref26_Build.l0]
  have hb := hg j (by omega)
  unfold badG at hb
  rw [Bool.or_eq_false_iff, Bool.or_eq_false_iff, decide_eq_false_iff_not, decide_eq_false_iff_not] at hb
  obtain ⟨⟨h1, h2⟩, h3⟩ := hb
  have next : spiritlevelref26_Build.l0 k g (wrap64 ((j : Int) + 1)) a l1 l2 l3 l4 = (spiritlevelref26_Built.f a l1 l2 l3 l4 g).bind fun b => some (b.1, b.2.1, b.2.2.1, b.2.2.2.1, b.2.2.2.2.1, b.2.2.2.2.2, 0) := by
   rw [w64 ((j : Int) + 1) (by omega) (by omega), show (j : Int) + 1 = ((j + 1 : Nat) : Int) by omega]
   exact ih k (j + 1) (by omega) (by omega)
  rw [if_pos (by omega), if_pos (by omega), w64 (2 * (j : Int)) (by omega) (by omega), if_neg h1, if_neg h2]
  by_cases c3 : rd g (j : Int) ≥ 0
  ·rw [if_pos c3, if_neg (fun c4 => by rw [decide_eq_true (show 0 ≤ rd g (j : Int) from c3), decide_eq_true c4] at h3; exact absurd h3 (by decide))]
   exact next
  ·rw [if_neg c3]; exact next
theorem rbuild_eq (k : Nat) (a : Int) (l1 : List S86) (l2 : List S67) (l3 l4 g : List Int) (hs : Small l1 l2 l3 l4) (hw : Wf a l1 l2 l3 l4) (hl : g.length ≤ 60000) (hk : 70000 ≤ k) : spiritlevelref26_Build.f k a l1 l2 l3 l4 g = hash_Build.f a l1 l2 l3 l4 g := by
 unfold spiritlevelref26_Build.f hash_Build.f
 rw [rcheck_eq k a l1 l2 l3 l4 hs hw (by omega), gvars_eq a l1 l2 l3 l4 hs hw, Option.bind_some, Option.bind_some]
 by_cases c : checkR a l1 l2 l3 l4 = 0
 ·have hg := good_of a l1 l2 l3 l4 c
  have ha0 := hg.a0
  have ha1 := hg.a1
  have hn := hg.n
  rw [if_pos c, if_pos c, size_eq a l1 l2 l3 l4 hs ha0 (by omega), Option.bind_some]
  dsimp only
  have ho := okC_of (g := g) hg hs hl
  have hcc : okC a l1 l2 l3 l4 g = true ∧ szS a l1 l2 = a + (l1.length : Int) + (l2.length : Int) := ⟨ho, rfl⟩
  rw [if_pos rfl, if_pos hcc, w64 (szS a l1 l2 + 1) (by unfold szS at *; omega) (by unfold szS at *; omega)]
  by_cases ce : (g.length : Int) = szS a l1 l2 + 1
  ·rw [if_pos ce]
   cases e : (List.range g.length).any (badG a g) with
   | true =>
    rw [if_pos (Or.inr rfl)]
    obtain ⟨v, hv1, hv2⟩ := List.any_eq_true.1 e
    exact bld_bad a l1 l2 l3 l4 g hl g.length k 0 (by omega) (by omega) ⟨v, Nat.zero_le _, List.mem_range.1 hv1, hv2⟩
   | false =>
    have hgb : ∀ v : Nat, v < g.length → badG a g v = false := fun v hv => by
     cases e2 : badG a g v with
     | false => rfl
     | true => exact absurd (List.any_eq_true.2 ⟨v, List.mem_range.2 hv, e2⟩) (by rw [e]; decide)
    rw [if_neg (by rintro (h | h); exact h ce; exact absurd h (by decide))]
    have hB : spiritlevelref26_Built.f a l1 l2 l3 l4 g = some (a, l1.map (fun x => ⟨sgnP (builtP a l1 l2 g).2 x.f0, x.f1⟩), (builtP a l1 l2 g).1, l3.map (sgnP (builtP a l1 l2 g).2), l4.map (sgnP (builtP a l1 l2 g).2), (builtP a l1 l2 g).2) := by
     unfold spiritlevelref26_Built.f
     rw [if_pos]
     unfold okBt
     rw [ho, decide_eq_true (show (g.length : Int) = a + (l1.length : Int) + (l2.length : Int) + 1 from ce), Bool.true_and, Bool.true_and, List.all_eq_true]
     intro v hv
     rw [hgb v (List.mem_range.1 hv)]; rfl
    have := bld_ok a l1 l2 l3 l4 g hl hgb g.length k 0 (by omega) (by omega)
    rw [hB] at this
    exact this
  ·rw [if_neg ce, if_pos (Or.inl ce)]
 ·rw [if_neg c, if_neg c]
  dsimp only
  rw [if_neg c]
theorem built_of {a : Int} {l1 : List S86} {l2 : List S67} {l3 l4 g : List Int} (hs : Small l1 l2 l3 l4) (c : checkR a l1 l2 l3 l4 = 0) (hgl : (g.length : Int) = szS a l1 l2 + 1) (hgb : ∀ v : Nat, v < g.length → badG a g v = false) :
  checkR a (l1.map (fun x => (⟨sgnP (builtP a l1 l2 g).2 x.f0, x.f1⟩ : S86))) (builtP a l1 l2 g).1 (l3.map (sgnP (builtP a l1 l2 g).2)) (l4.map (sgnP (builtP a l1 l2 g).2)) = 0 ∧ Small (l1.map (fun x => (⟨sgnP (builtP a l1 l2 g).2 x.f0, x.f1⟩ : S86))) (builtP a l1 l2 g).1 (l3.map (sgnP (builtP a l1 l2 g).2)) (l4.map (sgnP (builtP a l1 l2 g).2)) ∧ Wf a (l1.map (fun x => (⟨sgnP (builtP a l1 l2 g).2 x.f0, x.f1⟩ : S86))) (builtP a l1 l2 g).1 (l3.map (sgnP (builtP a l1 l2 g).2)) (l4.map (sgnP (builtP a l1 l2 g).2)) ∧ (builtP a l1 l2 g).2.length = g.length := by
 have hg := good_of a l1 l2 l3 l4 c
 have ha0 := hg.a0
 have ha1 := hg.a1
 have hn := hg.n
 have hs1 := hs.h1
 have hs2 := hs.h2
 have hs3 := hs.h3
 have hs4 := hs.h4
 have hA : okA (a + (l1.length : Int) + 1) l2 = true := by
  have := okC_of (g := g) hg hs (by unfold szS at *; omega)
  unfold okC at this
  simp only [Bool.and_eq_true] at this
  exact this.1.1.1.1.2
 have hinv : InvB (a + (l1.length : Int) + 1) g.length (builtP a l1 l2 g) := inv_run (by omega) hA (by unfold szS at hn; omega) g.length (by unfold szS at hgl; omega) hgb
 generalize builtP a l1 l2 g = bp at *
 obtain ⟨G, T⟩ := bp
 obtain ⟨hgx, hGl⟩ := built_good hg hinv hgl
 have hlx := lens_of c
 have hT : T.length = g.length := hinv.len
 dsimp only
 have hsx : Small (l1.map (fun x => (⟨sgnP T x.f0, x.f1⟩ : S86))) G (l3.map (sgnP T)) (l4.map (sgnP T)) := ⟨by rw [List.length_map]; omega, by omega, by rw [List.length_map]; omega, by rw [List.length_map]; omega⟩
 exact ⟨check_of a _ G _ _ hgx (by rw [List.length_map]; omega) (by rw [List.length_map]; omega), hsx, good_wf hgx hsx.h2, hT⟩
theorem sred_eq (k : Nat) (a : Int) (l1 : List S86) (l2 : List S67) (l3 l4 : List Int) (x y : List Int) (z : List (List Int)) (p q r : Int) (hs : Small l1 l2 l3 l4) (hx : x.length ≤ 3000) (hy : y.length ≤ 3000) (hz : z = [] ∨ ∃ u, z = [u] ∧ u.length ≤ 3000) (hk : 5000 ≤ k) : spiritlevelref25_SameReduced.f k a l1 l2 l3 l4 p q x z y [] r a l1 l2 l3 l4 p q x z y [] r = some true := by
 have hp : ∀ m, spiritlevelref25_SamePred.f (m + 2) [] r [] r = some true := fun m => by
  unfold spiritlevelref25_SamePred.f
  rw [if_pos rfl]
  simp [spiritlevelref25_SamePred.j0, spiritlevelref25_SamePred.l0]
 unfold spiritlevelref25_SameReduced.f
 rw [same_eq k a l1 l2 l3 l4 hs (by omega), Option.bind_some, if_pos rfl]
 obtain ⟨k, rfl⟩ : ∃ m, k = m + 1 + 1 + 1 := ⟨k - 3, by omega⟩
 have hl : spiritlevelref25_SameLift.f (k + 1 + 1 + 1) p q x z y [] r p q x z y [] r = some true := by
  unfold spiritlevelref25_SameLift.f
  rw [if_pos rfl, if_pos rfl, sameInts_eq _ x (by omega) (by omega), Option.bind_some, if_pos rfl, sameInts_eq _ y (by omega) (by omega), Option.bind_some, if_pos rfl, if_pos rfl, hp (k + 1), Option.bind_some]
  simp only [spiritlevelref25_SameLift.j0, Bool.not_true]
  rw [if_neg (by decide)]
  rcases hz with rfl | ⟨u, rfl, hu⟩
  ·simp only [spiritlevelref25_SameLift.l0]
   rw [if_neg (by simp)]
  ·have er : rd_L3 [u] 0 = u := rfl
   simp only [spiritlevelref25_SameLift.l0]
   rw [if_pos (by simp), if_pos (by decide), if_pos (by simp), er, sameInts_eq _ u (by omega) (by omega), Option.bind_some, if_pos rfl, w64 (0 + 1) (by decide) (by decide), if_neg (by simp)]
 rw [hl, Option.bind_some]
theorem pass_eq (k : Nat) (a : Int) (l1 : List S86) (l2 : List S67) (l3 l4 : List Int) (hs : Small l1 l2 l3 l4) (hw : Wf a l1 l2 l3 l4) (hk : 70000 ≤ k) :
  ∃ r : Int × List S86 × List S67 × List Int × List Int × Int × Int × List Int × List (List Int) × List Int × List S67 × Int × Int, hash_Pass.f k a l1 l2 l3 l4 = some r ∧ spiritlevelref26_Pass.f k a l1 l2 l3 l4 = some r ∧ spiritlevelref25_SameReduced.f k r.1 r.2.1 r.2.2.1 r.2.2.2.1 r.2.2.2.2.1 r.2.2.2.2.2.1 r.2.2.2.2.2.2.1 r.2.2.2.2.2.2.2.1 r.2.2.2.2.2.2.2.2.1 r.2.2.2.2.2.2.2.2.2.1 r.2.2.2.2.2.2.2.2.2.2.1 r.2.2.2.2.2.2.2.2.2.2.2.1 r.1 r.2.1 r.2.2.1 r.2.2.2.1 r.2.2.2.2.1 r.2.2.2.2.2.1 r.2.2.2.2.2.2.1 r.2.2.2.2.2.2.2.1 r.2.2.2.2.2.2.2.2.1 r.2.2.2.2.2.2.2.2.2.1 r.2.2.2.2.2.2.2.2.2.2.1 r.2.2.2.2.2.2.2.2.2.2.2.1 = some true := by
 unfold hash_Pass.f spiritlevelref26_Pass.f
 rw [rcheck_eq k a l1 l2 l3 l4 hs hw (by omega), gvars_eq a l1 l2 l3 l4 hs hw, Option.bind_some, Option.bind_some]
 by_cases c : checkR a l1 l2 l3 l4 = 0
 ·have hg := good_of a l1 l2 l3 l4 c
  have ha0 := hg.a0
  have ha1 := hg.a1
  have hn := hg.n
  have hs1 := hs.h1
  rw [if_pos c, if_pos c]
  dsimp only
  obtain ⟨N, hN⟩ : ∃ N : Nat, (N : Int) = szS a l1 l2 + 1 := ⟨(szS a l1 l2 + 1).toNat, by unfold szS; omega⟩
  rw [if_pos rfl, w64 (szS a l1 l2 + 1) (by omega) (by omega), ← hN]
  have hrep : slices_Repeat_int_int.f [-1] (N : Int) = some (List.replicate N (-1)) := by
   unfold slices_Repeat_int_int.f
   rw [if_pos ⟨rfl, by unfold szS at hN; omega, by omega⟩, Int.toNat_natCast]
   rfl
  have hnone : spiritlevelref26_None.f k a l1 l2 l3 l4 = some (List.replicate N (-1)) := by
   unfold spiritlevelref26_None.f
   exact none_l0 a l1 l2 l3 l4 N hN (by omega) (size_eq a l1 l2 l3 l4 hs ha0 (by omega)) N k 0 (by omega) (by omega)
  have hlen : (List.replicate N (-1 : Int)).length = N := List.length_replicate
  have hgb : ∀ v : Nat, v < (List.replicate N (-1 : Int)).length → badG a (List.replicate N (-1)) v = false := fun v hv => by
   have hr : rd (List.replicate N (-1)) (v : Int) = -1 := by rw [rd_at _ v hv]; simp
   unfold badG
   rw [hr, decide_eq_false (by decide), decide_eq_false (by omega), decide_eq_false (by decide)]
   rfl
  rw [hrep, hnone, Option.bind_some, Option.bind_some]
  have hgl : ((List.replicate N (-1 : Int)).length : Int) = szS a l1 l2 + 1 := by rw [hlen]; exact hN
  have ho := okC_of (g := List.replicate N (-1)) hg hs (by rw [hlen]; omega)
  obtain ⟨hcx, hsx, hwx, hT⟩ := built_of hs c hgl hgb
  have hB : hash_Build.f a l1 l2 l3 l4 (List.replicate N (-1)) = some (a, l1.map (fun x => ⟨sgnP (builtP a l1 l2 (List.replicate N (-1))).2 x.f0, x.f1⟩), (builtP a l1 l2 (List.replicate N (-1))).1, l3.map (sgnP (builtP a l1 l2 (List.replicate N (-1))).2), l4.map (sgnP (builtP a l1 l2 (List.replicate N (-1))).2), (builtP a l1 l2 (List.replicate N (-1))).2, 0) := by
   unfold hash_Build.f
   rw [gvars_eq a l1 l2 l3 l4 hs hw, if_pos c, Option.bind_some]
   dsimp only
   rw [if_pos rfl, if_pos ⟨ho, rfl⟩, if_neg]
   rintro (h | h)
   ·exact h hgl
   ·obtain ⟨v, hv, hb⟩ := List.any_eq_true.1 h
    rw [hgb v (List.mem_range.1 hv)] at hb
    exact absurd hb (by decide)
  have hR : spiritlevelref26_Built.f a l1 l2 l3 l4 (List.replicate N (-1)) = some (a, l1.map (fun x => ⟨sgnP (builtP a l1 l2 (List.replicate N (-1))).2 x.f0, x.f1⟩), (builtP a l1 l2 (List.replicate N (-1))).1, l3.map (sgnP (builtP a l1 l2 (List.replicate N (-1))).2), l4.map (sgnP (builtP a l1 l2 (List.replicate N (-1))).2), (builtP a l1 l2 (List.replicate N (-1))).2) := by
   unfold spiritlevelref26_Built.f
   rw [if_pos]
   unfold okBt
   rw [ho, decide_eq_true (show ((List.replicate N (-1 : Int)).length : Int) = a + (l1.length : Int) + (l2.length : Int) + 1 from hgl), Bool.true_and, Bool.true_and, List.all_eq_true]
   intro v hv
   rw [hgb v (List.mem_range.1 hv)]; rfl
  rw [hB, hR, Option.bind_some, Option.bind_some]
  dsimp only
  obtain ⟨A, rfl⟩ : ∃ A : Nat, a = (A : Int) := ⟨a.toNat, by omega⟩
  generalize (builtP (A : Int) l1 l2 (List.replicate N (-1))).1 = G at *
  generalize (builtP (A : Int) l1 l2 (List.replicate N (-1))).2 = T at *
  generalize hL : l1.map (fun x => (⟨sgnP T x.f0, x.f1⟩ : S86)) = L at *
  generalize l3.map (sgnP T) = B at *
  generalize l4.map (sgnP T) = C at *
  have hAs : spiritlevelref26_As.f k (A : Int) L G B C = some ((A : Int), L, G, B, C, 0, 1, litL (A : Int) L.length, [litR A], litL (A : Int) L.length, [], 1) := by
   unfold spiritlevelref26_As.f
   rw [twin_eq (A : Int) L G B C hsx, Option.bind_some, sax_eq k A (by omega) L G B C hsx (by omega), Option.bind_some]
  rw [idx_eq k A L G B C hsx hwx hcx (by omega), hAs, Option.bind_some, Option.bind_some]
  have hsx1 := hsx.h1
  exact ⟨_, rfl, rfl, sred_eq k (A : Int) L G B C _ _ _ _ _ _ hsx (by rw [litL_len]; omega) (by rw [litL_len]; omega) (Or.inr ⟨_, rfl, by rw [litR_len]; omega⟩) (by omega)⟩
 ·rw [if_neg c, if_neg c]
  dsimp only
  rw [if_neg c]
  exact ⟨_, rfl, rfl, sred_eq k 0 [] [] [] [] [] [] [] _ _ _ ⟨by simp, by simp, by simp, by simp⟩ (by simp) (by simp) (Or.inl rfl) (by omega)⟩
theorem builds_pure (a : Int) (l1 : List S86) (l2 : List S67) (l3 l4 g : List Int) (hw : Wf a l1 l2 l3 l4) (b : Bool) (hsm : b = false → Small l1 l2 l3 l4 ∧ True) :
  ∃ (i e : Int) (L : List S86) (G : List S67) (Bd Cn Td : List Int) (p1 p6 p7 p12 p13 : Int) (PL : List S86) (PG : List S67) (PB PC P7 : List Int) (P8 : List (List Int)) (P9 : List Int) (P10 : List S67), b = false → g.length ≤ 1300 → spiritlevelref02_Twin.f a l1 l2 l3 l4 = some (a, l1, l2, l3, l4) ∧ hash_Build.f a l1 l2 l3 l4 g = some (i, L, G, Bd, Cn, Td, e) ∧ spiritlevelref26_Build.f 80000 a l1 l2 l3 l4 g = some (i, L, G, Bd, Cn, Td, e) ∧ hash_Pass.f 80000 a l1 l2 l3 l4 = some (p1, PL, PG, PB, PC, p6, p7, P7, P8, P9, P10, p12, p13) ∧ spiritlevelref26_Pass.f 80000 a l1 l2 l3 l4 = some (p1, PL, PG, PB, PC, p6, p7, P7, P8, P9, P10, p12, p13) ∧ spiritlevelref02_Same.f 80000 i L G Bd Cn i L G Bd Cn = some true ∧ spiritlevelref02_SameInts.f 80000 Td Td = some true ∧ spiritlevelref25_SameReduced.f 80000 p1 PL PG PB PC p6 p7 P7 P8 P9 P10 p12 p1 PL PG PB PC p6 p7 P7 P8 P9 P10 p12 = some true ∧ spiritlevelref02_Same.f 80000 a l1 l2 l3 l4 a l1 l2 l3 l4 = some true := by
 by_cases c0 : b = false ∧ g.length ≤ 1300
 case neg => exact ⟨0, 0, [], [], [], [], [], 0, 0, 0, 0, 0, [], [], [], [], [], [], [], [], fun h1 h2 => absurd ⟨h1, h2⟩ c0⟩
 obtain ⟨hb, hl⟩ := c0
 obtain ⟨hs, -⟩ := hsm hb
 have hrb := rbuild_eq 80000 a l1 l2 l3 l4 g hs hw (by omega) (by omega)
 obtain ⟨⟨p1, PL, PG, PB, PC, p6, p7, P7, P8, P9, P10, p12, p13⟩, hr1, hr2, hr3⟩ := pass_eq 80000 a l1 l2 l3 l4 hs hw (by omega)
 have key : ∃ x, hash_Build.f a l1 l2 l3 l4 g = some x ∧ Small x.2.1 x.2.2.1 x.2.2.2.1 x.2.2.2.2.1 ∧ x.2.2.2.2.2.1.length ≤ 1300 := by
  unfold hash_Build.f
  rw [gvars_eq a l1 l2 l3 l4 hs hw, Option.bind_some]
  by_cases c : checkR a l1 l2 l3 l4 = 0
  ·have hg := good_of a l1 l2 l3 l4 c
   rw [if_pos c]
   dsimp only
   rw [if_pos rfl, if_pos ⟨okC_of hg hs (by omega), rfl⟩]
   by_cases cb : (g.length : Int) ≠ szS a l1 l2 + 1 ∨ (List.range g.length).any (badG a g) = true
   ·rw [if_pos cb]
    exact ⟨_, rfl, ⟨by simp, by simp, by simp, by simp⟩, by simp⟩
   ·rw [if_neg cb]
    have hgl : (g.length : Int) = szS a l1 l2 + 1 := Classical.not_not.1 (fun h => cb (Or.inl h))
    have hgb : ∀ v : Nat, v < g.length → badG a g v = false := fun v hv => by
     cases e : badG a g v with
     | false => rfl
     | true => exact absurd (Or.inr (List.any_eq_true.2 ⟨v, List.mem_range.2 hv, e⟩)) cb
    obtain ⟨hcx, hsx, hwx, hT⟩ := built_of hs c hgl hgb
    exact ⟨_, rfl, hsx, by dsimp only; omega⟩
  ·rw [if_neg c]
   dsimp only
   rw [if_neg c]
   exact ⟨_, rfl, ⟨by simp, by simp, by simp, by simp⟩, by simp⟩
 obtain ⟨⟨i, L, G, Bd, Cn, Td, e⟩, hx, hsx, hxl⟩ := key
 dsimp only at hsx hxl hr3
 exact ⟨i, e, L, G, Bd, Cn, Td, p1, p6, p7, p12, p13, PL, PG, PB, PC, P7, P8, P9, P10, fun _ _ => ⟨twin_eq a l1 l2 l3 l4 hs, hx, by rw [hrb]; exact hx, hr1, hr2, same_eq 80000 _ _ _ _ _ hsx (by omega), sameInts_eq 80000 _ (by omega) (by omega), hr3, same_eq 80000 a l1 l2 l3 l4 hs (by omega)⟩⟩
theorem hashBuilds_all (a0_0 : Int) (A0_1 : Option Addr) (c0_1 : Nat) (l0_1 : List (S86)) (A0_2 : Option Addr) (c0_2 : Nat) (l0_2 : List (S67)) (A0_3 : Option Addr) (c0_3 : Nat) (l0_3 : List Int) (A0_4 : Option Addr) (c0_4 : Nat) (l0_4 : List Int) (A1 : Option Addr) (c1 : Nat) (l1 : List Int) (w : World) (hr0_1 : Kd.C k86 w A0_1 l0_1.length l0_1) (hc0_1 : l0_1.length ≤ c0_1) (hr0_2 : Kd.C k67 w A0_2 l0_2.length l0_2) (hc0_2 : l0_2.length ≤ c0_2) (hr0_3 : Kd.C (Kd.int .i64) w A0_3 l0_3.length l0_3) (hc0_3 : l0_3.length ≤ c0_3) (hr0_4 : Kd.C (Kd.int .i64) w A0_4 l0_4.length l0_4) (hc0_4 : l0_4.length ≤ c0_4) (hr1 : Kd.C (Kd.int .i64) w A1 l1.length l1) (hc1 : l1.length ≤ c1) (ok0_0 : (Lit.int .i64 a0_0).wf = true) (ok0_1 : l0_1.length ≤ 9223372036854775807 ∧ l0_1.length * 16 ≤ 140737488351232 ∧ ∀ x0_ ∈ l0_1, ((Lit.int .i64 x0_.f0).wf = true) ∧ ((Lit.int .i64 x0_.f1).wf = true)) (ok0_2 : l0_2.length ≤ 9223372036854775807 ∧ l0_2.length * 16 ≤ 140737488351232 ∧ ∀ x0_ ∈ l0_2, ((Lit.int .i64 x0_.f0).wf = true) ∧ ((Lit.int .i64 x0_.f1).wf = true)) (ok0_3 : l0_3.length ≤ 9223372036854775807 ∧ l0_3.length * 8 ≤ 140737488351232 ∧ ∀ x0_ ∈ l0_3, (Lit.int .i64 x0_).wf = true) (ok0_4 : l0_4.length ≤ 9223372036854775807 ∧ l0_4.length * 8 ≤ 140737488351232 ∧ ∀ x0_ ∈ l0_4, (Lit.int .i64 x0_).wf = true) (ok1 : l1.length ≤ 9223372036854775807 ∧ l1.length * 8 ≤ 140737488351232 ∧ ∀ x0_ ∈ l1, (Lit.int .i64 x0_).wf = true) :
 Calls Try.prog 5 #[.agg #[.int .i64 a0_0, .slice A0_1 l0_1.length c0_1, .slice A0_2 l0_2.length c0_2, .slice A0_3 l0_3.length c0_3, .slice A0_4 l0_4.length c0_4], .slice A1 l1.length c1] w fun e w' => e = .returned (.bool true) ∧ Below w.heap.size w w' := by
 have hw : Wf a0_0 l0_1 l0_2 l0_3 l0_4 := ⟨wf_i64 ok0_0, fun x hx => ⟨wf_i64 (ok0_1.2.2 x hx).1, wf_i64 (ok0_1.2.2 x hx).2⟩, fun x hx => ⟨wf_i64 (ok0_2.2.2 x hx).1, wf_i64 (ok0_2.2.2 x hx).2⟩, fun x hx => wf_i64 (ok0_3.2.2 x hx), fun x hx => wf_i64 (ok0_4.2.2 x hx)⟩
 obtain ⟨b, hb, hsm⟩ := great_eq a0_0 l0_1 l0_2 l0_3 l0_4
 obtain ⟨i, e, L, G, Bd, Cn, Td, p1, p6, p7, p12, p13, PL, PG, PB, PC, P7, P8, P9, P10, hX⟩ := builds_pure a0_0 l0_1 l0_2 l0_3 l0_4 l1 hw b (fun h => ⟨(hsm h).1, trivial⟩)
 exact builds_walk 80000 b a0_0 A0_1 c0_1 l0_1 A0_2 c0_2 l0_2 A0_3 c0_3 l0_3 A0_4 c0_4 l0_4 A1 c1 l1 i e L G Bd Cn Td p1 p6 p7 p12 p13 PL PG PB PC P7 P8 P9 P10 w hr0_1 hc0_1 hr0_2 hc0_2 hr0_3 hc0_3 hr0_4 hc0_4 hr1 hc1 hb hX
end Go.Proofs.Ytnbccfecmpocaaa.Pure
