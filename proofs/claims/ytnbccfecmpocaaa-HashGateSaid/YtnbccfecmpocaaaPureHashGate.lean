/- The literal of an AND that was built has the value of the AND, all others keep theirs, and built again, with its parts exchanged, it is the same; for every valid circuit that is not great, two numbers, a state and inputs. -/
import Derived.Test.YtnbccfecmpocaaaQHashGatex10
namespace Go.Proofs.Ytnbccfecmpocaaa.Pure
open Go.RowKit Go.Proofs.Ytnbccfecmpocaaa.QHashGate Go.Proofs.YtnbccfecmpocaaaW.PrintWords Go.Proofs.YtnbccfecmpocaaaW.PrintLast
set_option linter.unusedSimpArgs false
set_option linter.unusedVariables false
theorem w64 (n : Int) (h : -9223372036854775808 ≤ n) (h2 : n ≤ 9223372036854775807) : wrap64 n = n := by unfold wrap64; omega
theorem rd_at (l : List Int) (j : Nat) (h : j < l.length) : rd l (j : Int) = l[j] := by simp [rd, List.getD, h]
theorem wf_i64 {x : Int} (h : (Lit.int .i64 x).wf = true) : -9223372036854775808 ≤ x ∧ x ≤ 9223372036854775807 := by
  simp [Lit.wf, IntKind.min, IntKind.max, IntKind.signed, IntKind.bits] at h
  omega
theorem wf_u8 {x : Int} (h : (Lit.int .u8 x).wf = true) : 0 ≤ x ∧ x ≤ 255 := by
  simp [Lit.wf, IntKind.min, IntKind.max, IntKind.signed, IntKind.bits] at h
  omega
theorem band1 (a : Int) (h0 : 0 ≤ a) (h1 : a < 9223372036854775807) : Go.bits .and .i64 a 1 = a % 2 := by
  have := bits_mask .i64 63 (by decide) (fun n h h' => by rw [IntKind.wrap_i64]; omega) 1 (by decide) a h0 (by omega)
  simpa using this

theorem xorNat (n : Nat) : n ^^^ 1 = if n % 2 = 0 then n + 1 else n - 1 := by
  have h1 : (n ^^^ 1) / 2 = n / 2 := by rw [Nat.xor_div_two]; simp
  have h2 : (n ^^^ 1) % 2 = (n + 1) % 2 := by
    have h := @Nat.xor_mod_two_eq_one n 1
    rcases Nat.mod_two_eq_zero_or_one n with e | e <;> rcases Nat.mod_two_eq_zero_or_one (n ^^^ 1) with e' | e' <;> simp [e, e'] at h <;> omega
  split <;> omega
theorem i64_nat (n : Nat) (h : n < 9223372036854775808) : IntKind.i64.wrap (n : Int) = n := by rw [IntKind.wrap_i64]; omega
theorem bxor1 (a : Int) (h0 : 0 ≤ a) (h1 : a < 9223372036854775807) : Go.bits .xor .i64 a 1 = if a % 2 = 0 then a + 1 else a - 1 := by
  obtain ⟨n, rfl⟩ := Int.eq_ofNat_of_zero_le h0
  have e : Go.bits .xor .i64 (n : Int) 1 = ((n ^^^ 1 : Nat) : Int) := by
    have hx : n ^^^ 1 < 9223372036854775808 := by rw [xorNat]; split <;> omega
    have hb : (1 : Int) = ((1 : Nat) : Int) := rfl
    rw [hb]
    have hc : ((BitVec.ofInt 64 (n : Int)) ^^^ (BitVec.ofInt 64 ((1 : Nat) : Int))).toNat = n ^^^ 1 := by
      rw [BitVec.ofInt_natCast, BitVec.ofInt_natCast, BitVec.toNat_xor, BitVec.toNat_ofNat, BitVec.toNat_ofNat, Nat.mod_eq_of_lt (by omega), Nat.mod_eq_of_lt (by omega)]
    have := i64_nat _ hx
    rw [← hc] at this ⊢
    exact this
  rw [e, xorNat]
  split <;> split <;> omega

-- ref02: what the reference of layer 2 and gates.Check come to, for circuits that are not great
def litOut (n l : Int) : Bool := decide (l < 0) || decide (l / 2 > n)
def latBad (n : Int) (x : S86) : Bool := litOut n x.f0 || decide (x.f1 < 0) || decide (x.f1 > 2)
def gBad (m : Int) (i : Nat) (g : S67) : Bool := decide (g.f1 < 0) || decide (g.f0 < g.f1) || decide (g.f0 / 2 > m + i)
def gsBad (m : Int) (l : List S67) : Bool := (List.range l.length).any fun i => gBad m i (rd_T67 l i)
def szS (a : Int) (l1 : List S86) (l2 : List S67) : Int := a + l1.length + l2.length
def checkR (a : Int) (l1 : List S86) (l2 : List S67) (l3 l4 : List Int) : Int :=
  if a < 0 then 8 else if a > 1000 ∨ szS a l1 l2 > 1000 ∨ l3.length > 100 ∨ l4.length > 100 then 4
  else if l3.any (litOut (szS a l1 l2)) = true ∨ l4.any (litOut (szS a l1 l2)) = true ∨ l1.any (latBad (szS a l1 l2)) = true ∨ gsBad (a + l1.length) l2 = true then 8 else 0
/-- The lengths of a circuit that is not great. -/
structure Small (l1 : List S86) (l2 : List S67) (l3 l4 : List Int) : Prop where
  h1 : l1.length ≤ 60
  h2 : l2.length ≤ 130
  h3 : l3.length ≤ 110
  h4 : l4.length ≤ 110
/-- All numbers of a circuit are int64. -/
structure Wf (a : Int) (l1 : List S86) (l2 : List S67) (l3 l4 : List Int) : Prop where
  w0 : -9223372036854775808 ≤ a ∧ a ≤ 9223372036854775807
  w1 : ∀ x ∈ l1, (-9223372036854775808 ≤ x.f0 ∧ x.f0 ≤ 9223372036854775807) ∧ (-9223372036854775808 ≤ x.f1 ∧ x.f1 ≤ 9223372036854775807)
  w2 : ∀ x ∈ l2, (-9223372036854775808 ≤ x.f0 ∧ x.f0 ≤ 9223372036854775807) ∧ (-9223372036854775808 ≤ x.f1 ∧ x.f1 ≤ 9223372036854775807)
  w3 : ∀ x ∈ l3, -9223372036854775808 ≤ x ∧ x ≤ 9223372036854775807
  w4 : ∀ x ∈ l4, -9223372036854775808 ≤ x ∧ x ≤ 9223372036854775807
theorem great_eq (a : Int) (l1 : List S86) (l2 : List S67) (l3 l4 : List Int) :
    ∃ b, spiritlevelref02_Great.f a l1 l2 l3 l4 = some b ∧ (b = false → Small l1 l2 l3 l4 ∧ (a ≤ 40 ∨ 996 ≤ a)) := by
  unfold spiritlevelref02_Great.f
  by_cases c1 : (l1.length : Int) > 60
  · exact ⟨true, by rw [if_pos c1], by simp⟩
  by_cases c2 : (l2.length : Int) > 120
  · exact ⟨true, by rw [if_neg c1, if_pos c2], by simp⟩
  by_cases c3 : (l3.length : Int) > 110
  · exact ⟨true, by rw [if_neg c1, if_neg c2, if_pos c3], by simp⟩
  by_cases c4 : (l4.length : Int) > 110
  · exact ⟨true, by rw [if_neg c1, if_neg c2, if_neg c3, if_pos c4], by simp⟩
  by_cases c5 : a > 40
  · exact ⟨decide (a < 996), by rw [if_neg c1, if_neg c2, if_neg c3, if_neg c4, if_pos c5], fun h => ⟨⟨by omega, by omega, by omega, by omega⟩, by simp at h; omega⟩⟩
  · exact ⟨false, by rw [if_neg c1, if_neg c2, if_neg c3, if_neg c4, if_neg c5], fun _ => ⟨⟨by omega, by omega, by omega, by omega⟩, by omega⟩⟩
theorem literals_l0 (l : List Int) (n : Int) (hw : ∀ x ∈ l, -9223372036854775808 ≤ x ∧ x ≤ 9223372036854775807) (hl : l.length ≤ 100000) (d : Nat) : ∀ (k j : Nat), j + d = l.length → d < k →
    spiritlevelref02_literals.l0 k l n (j : Int) = some (!(l.drop j).any (litOut n)) := by
  induction d with
  | zero =>
    intro k j hj hk
    obtain ⟨k, rfl⟩ : ∃ m, k = m + 1 := ⟨k - 1, by omega⟩
    simp only [spiritlevelref02_literals.l0]
    rw [if_neg (by omega), List.drop_of_length_le (by omega)]; rfl
  | succ d ih =>
    intro k j hj hk
    obtain ⟨k, rfl⟩ : ∃ m, k = m + 1 := ⟨k - 1, by omega⟩
    have hlt : j < l.length := by omega
    have hwj := hw l[j] (List.getElem_mem hlt)
    simp only [spiritlevelref02_literals.l0]
    rw [if_pos (by omega), if_pos (by omega), rd_at l j hlt, List.drop_eq_getElem_cons hlt, List.any_cons]
    by_cases c : l[j] < 0
    · rw [if_pos c]; simp [litOut, c]
    · rw [if_neg c, Int.tdiv_eq_ediv_of_nonneg (by omega), w64 _ (by omega) (by omega)]
      by_cases c2 : l[j] / 2 > n
      · rw [if_pos c2]; simp [litOut, c2]
      · rw [if_neg c2, w64 _ (by omega) (by omega), show ((j : Int) + 1) = ((j + 1 : Nat) : Int) by omega, ih k (j + 1) (by omega) (by omega)]
        have : litOut n l[j] = false := by simp [litOut]; omega
        rw [this]; simp
theorem literals_eq (k : Nat) (l : List Int) (n : Int) (hw : ∀ x ∈ l, -9223372036854775808 ≤ x ∧ x ≤ 9223372036854775807) (hl : l.length ≤ 100000) (hk : l.length < k) :
    spiritlevelref02_literals.f k l n = some (!l.any (litOut n)) := by
  have := literals_l0 l n hw hl l.length k 0 (by omega) hk
  simpa [spiritlevelref02_literals.f] using this
theorem rdL_at (l : List S86) (j : Nat) (h : j < l.length) : rd_T86 l (j : Int) = l[j] := by simp [rd_T86, List.getD, h]
theorem rdA_at (l : List S67) (j : Nat) (h : j < l.length) : rd_T67 l (j : Int) = l[j] := by simp [rd_T67, List.getD, h]
theorem check_l1 (a : Int) (l1 : List S86) (l2 : List S67) (l3 l4 : List Int) (hs : Small l1 l2 l3 l4) (hw : Wf a l1 l2 l3 l4) (h0 : 0 ≤ a) (h1 : a ≤ 1000) (d : Nat) : ∀ (k j : Nat), j + d = l2.length → d < k →
    spiritlevelref02_Check.l1 k (j : Int) a l1 l2 l3 l4 = some (if ((List.range' j d).any fun i => gBad (a + l1.length) i (rd_T67 l2 i)) = true then 8 else 0) := by
  have hs1 := hs.h1
  have hs2 := hs.h2
  induction d with
  | zero =>
    intro k j hj hk
    obtain ⟨k, rfl⟩ : ∃ m, k = m + 1 := ⟨k - 1, by omega⟩
    simp only [spiritlevelref02_Check.l1]
    rw [if_neg (by omega)]; rfl
  | succ d ih =>
    intro k j hj hk
    obtain ⟨k, rfl⟩ : ∃ m, k = m + 1 := ⟨k - 1, by omega⟩
    have hlt : j < l2.length := by omega
    have hwj := hw.w2 l2[j] (List.getElem_mem hlt)
    simp only [spiritlevelref02_Check.l1]
    rw [if_pos (by omega), if_pos (by omega), List.range'_succ, List.any_cons, rdA_at l2 j hlt]
    by_cases c : l2[j].f1 < 0
    · rw [if_pos c, if_pos (by simp [gBad, c])]
    rw [if_neg c]
    by_cases c2 : l2[j].f0 < l2[j].f1
    · rw [if_pos c2, if_pos (by simp [gBad, c2])]
    rw [if_neg c2, Int.tdiv_eq_ediv_of_nonneg (by omega), w64 (l2[j].f0 / 2) (by omega) (by omega), w64 (a + l1.length) (by omega) (by omega), w64 (a + l1.length + j) (by omega) (by omega)]
    by_cases c3 : l2[j].f0 / 2 > a + l1.length + j
    · rw [if_pos c3, if_pos (by simp [gBad, c3])]
    rw [if_neg c3, w64 _ (by omega) (by omega), show ((j : Int) + 1) = ((j + 1 : Nat) : Int) by omega, ih k (j + 1) (by omega) (by omega)]
    have : gBad (a + l1.length) j l2[j] = false := by simp [gBad]; omega
    rw [this]; rfl
theorem check_l0 (a n : Int) (l1 : List S86) (l2 : List S67) (l3 l4 : List Int) (hs : Small l1 l2 l3 l4) (hw : Wf a l1 l2 l3 l4) (h0 : 0 ≤ a) (h1 : a ≤ 1000) (d : Nat) : ∀ (k j : Nat), j + d = l1.length → d + l2.length + 5 < k →
    spiritlevelref02_Check.l0 k n (j : Int) a l1 l2 l3 l4 = some (if (l1.drop j).any (latBad n) = true ∨ gsBad (a + l1.length) l2 = true then 8 else 0) := by
  have hs1 := hs.h1
  have hs2 := hs.h2
  induction d with
  | zero =>
    intro k j hj hk
    obtain ⟨k, rfl⟩ : ∃ m, k = m + 1 := ⟨k - 1, by omega⟩
    simp only [spiritlevelref02_Check.l0]
    rw [if_neg (by omega), List.drop_of_length_le (by omega), show (0 : Int) = ((0 : Nat) : Int) from rfl, check_l1 a l1 l2 l3 l4 hs hw h0 h1 l2.length k 0 (by omega) (by omega)]
    simp [gsBad, List.range_eq_range']
  | succ d ih =>
    intro k j hj hk
    obtain ⟨k, rfl⟩ : ∃ m, k = m + 1 := ⟨k - 1, by omega⟩
    have hlt : j < l1.length := by omega
    have hwj := hw.w1 l1[j] (List.getElem_mem hlt)
    simp only [spiritlevelref02_Check.l0]
    rw [if_pos (by omega), if_pos (by omega), List.drop_eq_getElem_cons hlt, List.any_cons, rdL_at l1 j hlt, literals_eq k _ n (by simp; exact hwj.1) (by simp) (by simp; omega)]
    simp only [Option.bind_some, List.any_cons, List.any_nil, Bool.or_false]
    by_cases c : litOut n l1[j].f0 = true
    · rw [if_neg (by simp [c]), if_pos (by simp [latBad, c])]
    rw [if_pos (by simp [c])]
    by_cases c2 : l1[j].f1 < 0
    · rw [if_pos c2, if_pos (by simp [latBad, c2])]
    rw [if_neg c2]
    by_cases c3 : l1[j].f1 > 2
    · rw [if_pos c3, if_pos (by simp [latBad, c3])]
    rw [if_neg c3, w64 _ (by omega) (by omega), show ((j : Int) + 1) = ((j + 1 : Nat) : Int) by omega, ih k (j + 1) (by omega) (by omega)]
    have : latBad n l1[j] = false := by simp [latBad, c]; omega
    simp [this]
theorem size_eq (a : Int) (l1 : List S86) (l2 : List S67) (l3 l4 : List Int) (hs : Small l1 l2 l3 l4) (h0 : 0 ≤ a) (h1 : a ≤ 1000) : spiritlevelref02_Size.f a l1 l2 l3 l4 = some (szS a l1 l2) := by
  have hs1 := hs.h1
  have hs2 := hs.h2
  unfold spiritlevelref02_Size.f szS
  rw [w64 (a + l1.length) (by omega) (by omega), w64 _ (by omega) (by omega)]
theorem rcheck_eq (k : Nat) (a : Int) (l1 : List S86) (l2 : List S67) (l3 l4 : List Int) (hs : Small l1 l2 l3 l4) (hw : Wf a l1 l2 l3 l4) (hk : 300 ≤ k) :
    spiritlevelref02_Check.f k a l1 l2 l3 l4 = some (checkR a l1 l2 l3 l4) := by
  have hs1 := hs.h1
  have hs2 := hs.h2
  have hs3 := hs.h3
  have hs4 := hs.h4
  obtain ⟨k, rfl⟩ : ∃ m, k = m + 3 := ⟨k - 3, by omega⟩
  unfold spiritlevelref02_Check.f checkR
  by_cases c0 : a < 0
  · rw [if_pos c0, if_pos c0]
  rw [if_neg c0, if_neg c0]
  have j0 : spiritlevelref02_Check.j0 (k + 3) true a l1 l2 l3 l4 = some 4 := by simp [spiritlevelref02_Check.j0]
  by_cases c1 : a > 1000
  · rw [if_pos c1, if_pos (Or.inl c1), j0]
  rw [if_neg c1, size_eq a l1 l2 l3 l4 hs (by omega) (by omega)]
  simp only [Option.bind_some]
  by_cases c2 : szS a l1 l2 > 1000
  · rw [if_pos c2, if_pos (Or.inr (Or.inl c2)), j0]
  rw [if_neg c2]
  by_cases c3 : (l3.length : Int) > 100
  · rw [if_pos c3, if_pos (by omega), j0]
  rw [if_neg c3]
  by_cases c4 : (l4.length : Int) > 100
  · rw [decide_eq_true c4, if_pos (by omega), j0]
  rw [decide_eq_false c4, if_neg (by omega)]
  simp only [spiritlevelref02_Check.j0]
  rw [if_neg (by decide), size_eq a l1 l2 l3 l4 hs (by omega) (by omega)]
  simp only [Option.bind_some]
  rw [literals_eq _ l3 _ hw.w3 (by omega) (by omega)]
  simp only [Option.bind_some]
  by_cases d3 : l3.any (litOut (szS a l1 l2)) = true
  · rw [if_neg (by simp [d3]), if_pos (Or.inl d3)]; simp [spiritlevelref02_Check.j1]
  rw [if_pos (by simp [d3]), literals_eq _ l4 _ hw.w4 (by omega) (by omega)]
  simp only [Option.bind_some]
  by_cases d4 : l4.any (litOut (szS a l1 l2)) = true
  · rw [if_pos (Or.inr (Or.inl d4)), d4]; simp [spiritlevelref02_Check.j1]
  have d4' : l4.any (litOut (szS a l1 l2)) = false := by simpa using d4
  rw [d4']
  simp only [spiritlevelref02_Check.j1, Bool.not_false, Bool.not_true]
  rw [if_neg (by decide), show (0 : Int) = ((0 : Nat) : Int) from rfl, check_l0 a _ l1 l2 l3 l4 hs hw (by omega) (by omega) l1.length _ 0 (by omega) (by omega)]
  simp [d3]
theorem gcheck_eq (a : Int) (l1 : List S86) (l2 : List S67) (l3 l4 : List Int) (hs : Small l1 l2 l3 l4) (hw : Wf a l1 l2 l3 l4) :
    gates_Check.f a l1 l2 l3 l4 = some (checkR a l1 l2 l3 l4) := by
  have hs1 := hs.h1
  have hs2 := hs.h2
  unfold gates_Check.f checkR
  congr 1
  by_cases c0 : a < 0
  · rw [if_pos c0, if_pos c0]
  rw [if_neg c0, if_neg c0]
  by_cases c1 : a > 1000
  · rw [if_pos c1, if_pos (Or.inl c1)]
  have e3 : st3 a l1.length l2.length = szS a l1 l2 + 1 := by
    unfold st3 st2 st1 szS
    rw [w64 (1 + a) (by omega) (by omega), w64 (1 + a + l1.length) (by omega) (by omega), w64 _ (by omega) (by omega)]
    omega
  have e2 : st2 a l1.length = a + l1.length + 1 := by
    unfold st2 st1
    rw [w64 (1 + a) (by omega) (by omega), w64 _ (by omega) (by omega)]
    omega
  have hz : 0 ≤ szS a l1 l2 ∧ szS a l1 l2 ≤ 1190 := by unfold szS; omega
  rw [if_neg c1, e3, w64 (szS a l1 l2 + 1 - 1) (by omega) (by omega), Int.add_sub_cancel]
  by_cases c2 : szS a l1 l2 > 1000
  · rw [if_pos c2, if_pos (Or.inr (Or.inl c2))]
  rw [if_neg c2]
  by_cases c3 : l3.length > 100 ∨ l4.length > 100
  · rw [if_pos (show (if (l3.length : Int) < (l4.length : Int) then (l4.length : Int) else (l3.length : Int)) > 100 by split <;> omega), if_pos (show a > 1000 ∨ szS a l1 l2 > 1000 ∨ l3.length > 100 ∨ l4.length > 100 by omega)]
  rw [if_neg (show ¬ (if (l3.length : Int) < (l4.length : Int) then (l4.length : Int) else (l3.length : Int)) > 100 by split <;> omega), if_neg (show ¬ (a > 1000 ∨ szS a l1 l2 > 1000 ∨ l3.length > 100 ∨ l4.length > 100) by omega)]
  have o : outS (szS a l1 l2 + 1) = litOut (szS a l1 l2) := by
    funext l
    unfold outS litOut
    congr 1
  have o2 : wrongS (szS a l1 l2 + 1) = latBad (szS a l1 l2) := by
    funext x
    unfold wrongS latBad
    rw [o]
  have o3 : gatesBad (st2 a l1.length) l2 = gsBad (a + l1.length) l2 := by
    unfold gatesBad gsBad
    rw [Bool.eq_iff_iff, List.any_eq_true, List.any_eq_true]
    have hp : ∀ i ∈ List.range l2.length, gateBad (st2 a l1.length) i (rd_T67 l2 i) = gBad (a + l1.length) i (rd_T67 l2 i) := by
      intro i hi
      rw [List.mem_range] at hi
      unfold gateBad gBad
      rw [e2, w64 (a + l1.length + 1 + i) (by omega) (by omega), w64 _ (by omega) (by omega)]
      congr 1
      exact decide_eq_decide.2 (by omega)
    constructor
    · rintro ⟨i, hi, h⟩; exact ⟨i, hi, by rw [← hp i hi]; exact h⟩
    · rintro ⟨i, hi, h⟩; exact ⟨i, hi, by rw [hp i hi]; exact h⟩
  rw [o, o2, o3]
  by_cases d3 : l3.any (litOut (szS a l1 l2)) = true
  · rw [if_pos d3, if_pos (Or.inl d3)]
  rw [if_neg d3]
  by_cases d4 : l4.any (litOut (szS a l1 l2)) = true
  · rw [if_pos d4, if_pos (Or.inr (Or.inl d4))]
  rw [if_neg d4]
  by_cases d5 : l1.any (latBad (szS a l1 l2)) = true
  · rw [if_pos d5, if_pos (Or.inr (Or.inr (Or.inl d5)))]
  rw [if_neg d5]
  by_cases d6 : gsBad (a + l1.length) l2 = true
  · rw [if_pos d6, if_pos (Or.inr (Or.inr (Or.inr d6)))]
  · rw [if_neg d6, if_neg (by simp [d3, d4, d5, d6])]

-- ref02's comparisons of equal circuits
theorem sameInts_l0 (l : List Int) (hl : l.length ≤ 100000) (d : Nat) : ∀ (k j : Nat), j + d = l.length → d < k → spiritlevelref02_SameInts.l0 k l l (j : Int) = some true := by
  induction d with
  | zero =>
    intro k j hj hk
    obtain ⟨k, rfl⟩ : ∃ m, k = m + 1 := ⟨k - 1, by omega⟩
    simp only [spiritlevelref02_SameInts.l0]
    rw [if_neg (by omega)]
  | succ d ih =>
    intro k j hj hk
    obtain ⟨k, rfl⟩ : ∃ m, k = m + 1 := ⟨k - 1, by omega⟩
    simp only [spiritlevelref02_SameInts.l0]
    rw [if_pos (by omega), if_pos (by omega), if_pos (by omega), if_pos trivial, w64 _ (by omega) (by omega), show ((j : Int) + 1) = ((j + 1 : Nat) : Int) by omega, ih k (j + 1) (by omega) (by omega)]
theorem sameInts_eq (k : Nat) (l : List Int) (hl : l.length ≤ 100000) (hk : l.length < k) : spiritlevelref02_SameInts.f k l l = some true := by
  unfold spiritlevelref02_SameInts.f
  rw [if_pos rfl]
  exact sameInts_l0 l hl l.length k 0 (by omega) hk
theorem same_l1 (a : Int) (l1 : List S86) (l2 : List S67) (l3 l4 : List Int) (hs : Small l1 l2 l3 l4) (d : Nat) : ∀ (k j : Nat), j + d = l2.length → d < k →
    spiritlevelref02_Same.l1 k (j : Int) a l1 l2 l3 l4 a l1 l2 l3 l4 = some true := by
  have hs2 := hs.h2
  induction d with
  | zero =>
    intro k j hj hk
    obtain ⟨k, rfl⟩ : ∃ m, k = m + 1 := ⟨k - 1, by omega⟩
    simp only [spiritlevelref02_Same.l1]
    rw [if_neg (by omega)]
  | succ d ih =>
    intro k j hj hk
    obtain ⟨k, rfl⟩ : ∃ m, k = m + 1 := ⟨k - 1, by omega⟩
    simp only [spiritlevelref02_Same.l1]
    rw [if_pos (by omega), if_pos (by omega), if_pos (by omega), if_neg (by simp), w64 _ (by omega) (by omega), show ((j : Int) + 1) = ((j + 1 : Nat) : Int) by omega, ih k (j + 1) (by omega) (by omega)]
theorem same_l0 (a : Int) (l1 : List S86) (l2 : List S67) (l3 l4 : List Int) (hs : Small l1 l2 l3 l4) (d : Nat) : ∀ (k j : Nat), j + d = l1.length → d + l2.length + 2 < k →
    spiritlevelref02_Same.l0 k (j : Int) a l1 l2 l3 l4 a l1 l2 l3 l4 = some true := by
  have hs1 := hs.h1
  induction d with
  | zero =>
    intro k j hj hk
    obtain ⟨k, rfl⟩ : ∃ m, k = m + 1 := ⟨k - 1, by omega⟩
    simp only [spiritlevelref02_Same.l0]
    rw [if_neg (by omega), show (0 : Int) = ((0 : Nat) : Int) from rfl, same_l1 a l1 l2 l3 l4 hs l2.length k 0 (by omega) (by omega)]
  | succ d ih =>
    intro k j hj hk
    obtain ⟨k, rfl⟩ : ∃ m, k = m + 1 := ⟨k - 1, by omega⟩
    simp only [spiritlevelref02_Same.l0]
    rw [if_pos (by omega), if_pos (by omega), if_pos (by omega), if_neg (by simp), w64 _ (by omega) (by omega), show ((j : Int) + 1) = ((j + 1 : Nat) : Int) by omega, ih k (j + 1) (by omega) (by omega)]
theorem same_eq (k : Nat) (a : Int) (l1 : List S86) (l2 : List S67) (l3 l4 : List Int) (hs : Small l1 l2 l3 l4) (hk : 300 ≤ k) :
    spiritlevelref02_Same.f k a l1 l2 l3 l4 a l1 l2 l3 l4 = some true := by
  have hs1 := hs.h1
  have hs2 := hs.h2
  have hs3 := hs.h3
  have hs4 := hs.h4
  obtain ⟨k, rfl⟩ : ∃ m, k = m + 1 := ⟨k - 1, by omega⟩
  unfold spiritlevelref02_Same.f
  rw [if_pos rfl, if_pos rfl, if_pos rfl, sameInts_eq _ l3 (by omega) (by omega)]
  simp only [Option.bind_some]
  rw [if_pos trivial, sameInts_eq _ l4 (by omega) (by omega)]
  simp only [Option.bind_some, Bool.not_true, spiritlevelref02_Same.j0]
  rw [if_neg (by decide), show (0 : Int) = ((0 : Nat) : Int) from rfl]
  exact same_l0 a l1 l2 l3 l4 hs l1.length k 0 (by omega) (by omega)
theorem checkR_ok (a : Int) (l1 : List S86) (l2 : List S67) (l3 l4 : List Int) (h : checkR a l1 l2 l3 l4 = 0) : 0 ≤ a ∧ a ≤ 1000 ∧ szS a l1 l2 ≤ 1000 := by
  unfold checkR at h
  by_cases c0 : a < 0
  · rw [if_pos c0] at h; omega
  rw [if_neg c0] at h
  by_cases c1 : a > 1000 ∨ szS a l1 l2 > 1000 ∨ l3.length > 100 ∨ l4.length > 100
  · rw [if_pos c1] at h; omega
  · omega
theorem gvars_eq (a : Int) (l1 : List S86) (l2 : List S67) (l3 l4 : List Int) (hs : Small l1 l2 l3 l4) (hw : Wf a l1 l2 l3 l4) :
    gates_Vars.f a l1 l2 l3 l4 = some (if checkR a l1 l2 l3 l4 = 0 then (szS a l1 l2, 0) else (0, checkR a l1 l2 l3 l4)) := by
  have hs1 := hs.h1
  have hs2 := hs.h2
  unfold gates_Vars.f
  rw [gcheck_eq a l1 l2 l3 l4 hs hw]
  simp only [Option.bind_some]
  by_cases h : checkR a l1 l2 l3 l4 = 0
  · obtain ⟨h0, h1, h2⟩ := checkR_ok _ _ _ _ _ h
    unfold szS at h2
    rw [if_pos h, if_pos h]
    unfold st3 st2 st1 szS
    rw [w64 (1 + a) (by omega) (by omega), w64 (1 + a + l1.length) (by omega) (by omega), w64 (1 + a + l1.length + l2.length) (by omega) (by omega), w64 _ (by omega) (by omega)]
    congr 2; omega
  · rw [if_neg h, if_neg h]

-- a valid circuit
/-- The gates are in order, behind so many variables. -/
def Gates (base : Nat) (gs : List S67) : Prop := ∀ (i : Nat) (h : i < gs.length), 0 ≤ gs[i].f1 ∧ gs[i].f1 ≤ gs[i].f0 ∧ gs[i].f0 / 2 < (base + i : Nat)
/-- What a valid circuit gives. -/
structure Good (a : Int) (l1 : List S86) (l2 : List S67) (l3 l4 : List Int) : Prop where
  a0 : 0 ≤ a
  a1 : a ≤ 1000
  n : szS a l1 l2 ≤ 1000
  g : Gates (1 + a.toNat + l1.length) l2
  l : ∀ x ∈ l1, (0 ≤ x.f0 ∧ x.f0 / 2 ≤ szS a l1 l2) ∧ (0 ≤ x.f1 ∧ x.f1 ≤ 2)
  b : ∀ x ∈ l3, 0 ≤ x ∧ x / 2 ≤ szS a l1 l2
  c : ∀ x ∈ l4, 0 ≤ x ∧ x / 2 ≤ szS a l1 l2
theorem litOut_in {n l : Int} (h : litOut n l = false) : 0 ≤ l ∧ l / 2 ≤ n := by
  simp only [litOut, Bool.or_eq_false_iff, decide_eq_false_iff_not] at h
  omega
theorem good_of (a : Int) (l1 : List S86) (l2 : List S67) (l3 l4 : List Int) (h : checkR a l1 l2 l3 l4 = 0) : Good a l1 l2 l3 l4 := by
  unfold checkR at h
  by_cases c0 : a < 0
  · rw [if_pos c0] at h; omega
  rw [if_neg c0] at h
  by_cases c1 : a > 1000 ∨ szS a l1 l2 > 1000 ∨ l3.length > 100 ∨ l4.length > 100
  · rw [if_pos c1] at h; omega
  rw [if_neg c1] at h
  by_cases c2 : l3.any (litOut (szS a l1 l2)) = true ∨ l4.any (litOut (szS a l1 l2)) = true ∨ l1.any (latBad (szS a l1 l2)) = true ∨ gsBad (a + l1.length) l2 = true
  · rw [if_pos c2] at h; omega
  have d3 : l3.any (litOut (szS a l1 l2)) = false := by
    cases e : l3.any (litOut (szS a l1 l2)) with
    | false => rfl
    | true => exact absurd (Or.inl e) c2
  have d4 : l4.any (litOut (szS a l1 l2)) = false := by
    cases e : l4.any (litOut (szS a l1 l2)) with
    | false => rfl
    | true => exact absurd (Or.inr (Or.inl e)) c2
  have d1 : l1.any (latBad (szS a l1 l2)) = false := by
    cases e : l1.any (latBad (szS a l1 l2)) with
    | false => rfl
    | true => exact absurd (Or.inr (Or.inr (Or.inl e))) c2
  have d2 : gsBad (a + l1.length) l2 = false := by
    cases e : gsBad (a + l1.length) l2 with
    | false => rfl
    | true => exact absurd (Or.inr (Or.inr (Or.inr e))) c2
  refine ⟨by omega, by omega, by omega, ?_, ?_, ?_, ?_⟩
  · intro i hi
    have := List.any_eq_false.1 d2 i (List.mem_range.2 hi)
    rw [rdA_at l2 i hi] at this
    simp [gBad] at this
    omega
  · intro x hx
    have := List.any_eq_false.1 d1 x hx
    simp only [latBad, Bool.not_eq_true, Bool.or_eq_false_iff, decide_eq_false_iff_not] at this
    exact ⟨litOut_in this.1.1, by omega⟩
  · intro x hx
    exact litOut_in (by simpa using List.any_eq_false.1 d3 x hx)
  · intro x hx
    exact litOut_in (by simpa using List.any_eq_false.1 d4 x hx)
theorem check_of (a : Int) (l1 : List S86) (l2 : List S67) (l3 l4 : List Int) (h : Good a l1 l2 l3 l4) (h3 : l3.length ≤ 100) (h4 : l4.length ≤ 100) : checkR a l1 l2 l3 l4 = 0 := by
  have ha0 := h.a0
  have ha1 := h.a1
  have hn := h.n
  unfold checkR
  rw [if_neg (by omega), if_neg (by omega), if_neg]
  rintro (c | c | c | c)
  · obtain ⟨x, hx, hb⟩ := List.any_eq_true.1 c
    have := h.b x hx
    simp [litOut] at hb
    omega
  · obtain ⟨x, hx, hb⟩ := List.any_eq_true.1 c
    have := h.c x hx
    simp [litOut] at hb
    omega
  · obtain ⟨x, hx, hb⟩ := List.any_eq_true.1 c
    have := h.l x hx
    simp [latBad, litOut] at hb
    omega
  · obtain ⟨i, hi, hb⟩ := List.any_eq_true.1 c
    have hi := List.mem_range.1 hi
    have := h.g i hi
    rw [rdA_at l2 i hi] at hb
    simp [gBad] at hb
    omega

-- two-valued frames
def valV (l : List Bool) (x : Int) : Bool := (rdOf false l (x / 2)) != decide (x % 2 = 1)
def frameV : List Bool → List S67 → List Bool
  | acc, [] => acc
  | acc, g :: gs => frameV (acc ++ [valV acc g.f0 && valV acc g.f1]) gs
theorem frameV_len : ∀ (gs : List S67) (acc : List Bool), (frameV acc gs).length = acc.length + gs.length
  | [], acc => rfl
  | g :: gs, acc => by rw [frameV, frameV_len gs]; simp; omega
theorem frameV_snoc : ∀ (gs : List S67) (acc : List Bool) (g : S67), frameV acc (gs ++ [g]) = frameV acc gs ++ [valV (frameV acc gs) g.f0 && valV (frameV acc gs) g.f1]
  | [], acc, g => rfl
  | x :: gs, acc, g => by rw [List.cons_append, frameV, frameV_snoc gs]; rfl
theorem vof_eq (l : List Bool) (x : Int) (h0 : 0 ≤ x) (h1 : x / 2 < l.length) (h2 : l.length ≤ 100000) : values_of.f l x = some (valV l x) := by
  unfold values_of.f valV
  rw [if_pos (by omega), if_pos h1, band1 x h0 (by omega)]
  congr 2
theorem valV_app (l m : List Bool) (x : Int) (h0 : 0 ≤ x) (h1 : x / 2 < l.length) : valV (l ++ m) x = valV l x := by
  unfold valV rdOf
  have : (x / 2).toNat < l.length := by omega
  simp [List.getD, List.getElem?_append_left this]
theorem gatesV_eq : ∀ (gs : List S67) (acc : List Bool), Gates acc.length gs → acc.length + gs.length ≤ 100000 → gatesV (acc ++ List.replicate gs.length false) acc.length gs = some (frameV acc gs)
  | [], acc, _, _ => by simp [gatesV, frameV]
  | g :: gs, acc, hg, hb => by
    have h0 := hg 0 (by simp)
    simp only [List.getElem_cons_zero, Nat.add_zero] at h0
    have hl : (acc ++ List.replicate (g :: gs).length false).length = acc.length + (gs.length + 1) := by simp
    simp only [List.length_cons] at hb
    simp only [gatesV, frameV]
    rw [vof_eq _ g.f0 (by omega) (by rw [hl]; omega) (by rw [hl]; omega), vof_eq _ g.f1 (by omega) (by rw [hl]; omega) (by rw [hl]; omega), valV_app acc _ _ (by omega) (by omega), valV_app acc _ _ (by omega) (by omega)]
    simp only [Option.bind_some]
    have e : (if valV acc g.f0 = true then some (valV acc g.f1) else some false) = some (valV acc g.f0 && valV acc g.f1) := by cases valV acc g.f0 <;> simp
    rw [e]
    simp only [Option.bind_some]
    have hg' : Gates (acc ++ [valV acc g.f0 && valV acc g.f1]).length gs := fun i hi => by
      have := hg (i + 1) (by simpa using hi)
      simp only [List.getElem_cons_succ] at this
      exact ⟨this.1, this.2.1, by simp; omega⟩
    have ih := gatesV_eq gs (acc ++ [valV acc g.f0 && valV acc g.f1]) hg' (by simp; omega)
    have e2 : (acc ++ List.replicate (g :: gs).length false).set acc.length (valV acc g.f0 && valV acc g.f1) = (acc ++ [valV acc g.f0 && valV acc g.f1]) ++ List.replicate gs.length false := by
      rw [List.set_append, if_neg (by omega), Nat.sub_self, List.length_cons, List.replicate_succ, List.set_cons_zero, List.append_assoc]
      rfl
    rw [e2, ← ih]
    simp
def allV (a : Int) (l1 : List S86) (l2 : List S67) (l3 l4 : List Int) (st inp : List Bool) : List Bool × Int :=
  if checkR a l1 l2 l3 l4 = 0 then (if st.length = l1.length ∧ (inp.length : Int) = a then (frameV (false :: (inp ++ st)) l2, 0) else ([], 2)) else ([], checkR a l1 l2 l3 l4)
theorem vall_eq (a : Int) (l1 : List S86) (l2 : List S67) (l3 l4 : List Int) (st inp : List Bool) (hs : Small l1 l2 l3 l4) (hw : Wf a l1 l2 l3 l4) :
    values_All.f a l1 l2 l3 l4 st inp = some (allV a l1 l2 l3 l4 st inp) := by
  unfold values_All.f allV
  rw [gvars_eq a l1 l2 l3 l4 hs hw]
  simp only [Option.bind_some]
  by_cases c : checkR a l1 l2 l3 l4 = 0
  · rw [if_pos c, if_pos c]
    simp only [if_true]
    by_cases d : st.length = l1.length ∧ (inp.length : Int) = a
    · have hg := good_of a l1 l2 l3 l4 c
      have ha0 := hg.a0
      have ha1 := hg.a1
      have hn := hg.n
      rw [if_pos d, if_pos d, if_pos (by unfold szS at hn ⊢; constructor <;> omega)]
      have h1 : (false :: (inp ++ st)).length = 1 + a.toNat + l1.length := by simp; omega
      have := gatesV_eq l2 (false :: (inp ++ st)) (by rw [h1]; exact hg.g) (by rw [h1]; unfold szS at hn; omega)
      have e1 : (false :: (inp ++ (st ++ List.replicate l2.length false))) = (false :: (inp ++ st)) ++ List.replicate l2.length false := by simp
      rw [e1, show 1 + inp.length + st.length = (false :: (inp ++ st)).length by simp; omega, this]
      rfl
    · rw [if_neg d, if_neg d]
  · rw [if_neg c, if_neg c, if_neg c]
theorem vsame_l0 (a b : List Bool) (hab : a.length = b.length) (hl : a.length ≤ 100000) (d : Nat) : ∀ (k j : Nat), j + d = a.length → d < k →
    spiritlevelref04_Same.l0 k a b (j : Int) = some (decide (a.drop j = b.drop j)) := by
  induction d with
  | zero =>
    intro k j hj hk
    obtain ⟨k, rfl⟩ : ∃ m, k = m + 1 := ⟨k - 1, by omega⟩
    simp only [spiritlevelref04_Same.l0]
    rw [if_neg (by omega), List.drop_of_length_le (by omega), List.drop_of_length_le (by omega)]; rfl
  | succ d ih =>
    intro k j hj hk
    obtain ⟨k, rfl⟩ : ∃ m, k = m + 1 := ⟨k - 1, by omega⟩
    have h1 : j < a.length := by omega
    have h2 : j < b.length := by omega
    have ra : rdOf false a (j : Int) = a[j] := by simp [rdOf, List.getD, h1]
    have rb : rdOf false b (j : Int) = b[j] := by simp [rdOf, List.getD, h2]
    simp only [spiritlevelref04_Same.l0]
    rw [if_pos (by omega), if_pos (by omega), if_pos (show (j : Int) < (b.length : Int) by omega), ra, rb, List.drop_eq_getElem_cons (l := a) h1, List.drop_eq_getElem_cons (l := b) h2, w64 ((j : Int) + 1) (by omega) (by omega), show ((j : Int) + 1) = ((j + 1 : Nat) : Int) by omega, ih k (j + 1) (by omega) (by omega)]
    by_cases c : a[j] = b[j]
    · rw [if_neg (by simp [c]), c]
      simp only [List.cons.injEq, true_and]
    · rw [if_pos (by simp [c])]
      have : ¬ (a[j] :: List.drop (j + 1) a = b[j] :: List.drop (j + 1) b) := fun h => c (List.cons.inj h).1
      rw [decide_eq_false this]
theorem vsame_eq (k : Nat) (a b : List Bool) (hl : a.length ≤ 100000) (hk : a.length < k) : spiritlevelref04_Same.f k a b = some (decide (a = b)) := by
  unfold spiritlevelref04_Same.f
  by_cases c : a.length = b.length
  · rw [if_pos (by omega)]
    have := vsame_l0 a b c hl a.length k 0 (by omega) hk
    simpa using this
  · rw [if_neg (by omega)]
    have : a ≠ b := fun h => c (by rw [h])
    simp [this]
theorem vasked_eq (k : Nat) (a : Int) (l1 : List S86) (l2 : List S67) (l3 l4 : List Int) (st inp : List Bool) (hs : Small l1 l2 l3 l4) (hw : Wf a l1 l2 l3 l4) (hk : 300 ≤ k) :
    spiritlevelref04_Asked.f k a l1 l2 l3 l4 st inp = some (allV a l1 l2 l3 l4 st inp).2 := by
  unfold spiritlevelref04_Asked.f allV
  rw [rcheck_eq k a l1 l2 l3 l4 hs hw hk]
  simp only [Option.bind_some]
  by_cases c : checkR a l1 l2 l3 l4 = 0
  · rw [if_pos c, if_pos c]
    by_cases c1 : st.length = l1.length
    · rw [if_pos (by omega)]
      by_cases c2 : (inp.length : Int) = a
      · rw [if_pos c2, if_pos ⟨c1, c2⟩]
      · rw [if_neg c2, if_neg (fun h => c2 h.2)]
    · rw [if_neg (by omega), if_neg (fun h => c1 h.1)]
  · rw [if_neg c, if_neg c]
theorem allV_ok {a : Int} {l1 : List S86} {l2 : List S67} {l3 l4 : List Int} {st inp : List Bool} (h : (allV a l1 l2 l3 l4 st inp).2 = 0) :
    checkR a l1 l2 l3 l4 = 0 ∧ st.length = l1.length ∧ (inp.length : Int) = a ∧ allV a l1 l2 l3 l4 st inp = (frameV (false :: (inp ++ st)) l2, 0) := by
  unfold allV at h ⊢
  by_cases c : checkR a l1 l2 l3 l4 = 0
  · rw [if_pos c] at h ⊢
    by_cases d : st.length = l1.length ∧ (inp.length : Int) = a
    · rw [if_pos d] at h ⊢; exact ⟨c, d.1, d.2, rfl⟩
    · rw [if_neg d] at h; simp at h
  · rw [if_neg c] at h; exact absurd h c
theorem great_l2 (a : Int) (l1 : List S86) (l2 : List S67) (l3 l4 : List Int) (h : spiritlevelref02_Great.f a l1 l2 l3 l4 = some false) : l2.length ≤ 120 := by
  unfold spiritlevelref02_Great.f at h
  by_cases c1 : (l1.length : Int) > 60
  · rw [if_pos c1] at h; simp at h
  rw [if_neg c1] at h
  by_cases c2 : (l2.length : Int) > 120
  · rw [if_pos c2] at h; simp at h
  · omega
theorem vframe_len {a : Int} {l1 : List S86} {l2 : List S67} {st inp : List Bool} (h1 : st.length = l1.length) (h2 : (inp.length : Int) = a) : ((frameV (false :: (inp ++ st)) l2).length : Int) = 1 + szS a l1 l2 := by
  rw [frameV_len]; unfold szS; simp; omega
theorem great_120 {a : Int} {l1 : List S86} {l2 : List S67} {l3 l4 : List Int} (h : spiritlevelref02_Great.f a l1 l2 l3 l4 = some false) : l2.length ≤ 120 := by
  unfold spiritlevelref02_Great.f at h
  by_cases c1 : (l1.length : Int) > 60
  · rw [if_pos c1] at h; simp at h
  by_cases c2 : (l2.length : Int) > 120
  · rw [if_neg c1, if_pos c2] at h; simp at h
  omega
theorem more_good {a : Int} {l1 : List S86} {l2 : List S67} {l3 l4 : List Int} (c0 : checkR a l1 l2 l3 l4 = 0) (p q : Int) (d0 : szS a l1 l2 < 1000) (d1 : 0 ≤ q) (d2 : q ≤ p) (d3 : p / 2 ≤ szS a l1 l2) :
    checkR a l1 (l2 ++ [(⟨p, q⟩ : S67)]) l3 l4 = 0 := by
  have hg := good_of a l1 l2 l3 l4 c0
  have ha0 := hg.a0
  have ha1 := hg.a1
  have hn := hg.n
  have hsz : szS a l1 (l2 ++ [(⟨p, q⟩ : S67)]) = szS a l1 l2 + 1 := by unfold szS; simp; omega
  have hg' : Good a l1 (l2 ++ [(⟨p, q⟩ : S67)]) l3 l4 := by
    refine ⟨ha0, ha1, by omega, ?_, ?_, ?_, ?_⟩
    · intro i hi
      by_cases c : i < l2.length
      · rw [List.getElem_append_left c]; exact hg.g i c
      · have hi' : i = l2.length := by simp at hi; omega
        subst hi'
        simp only [List.getElem_append_right (Nat.le_refl _), Nat.sub_self, List.getElem_cons_zero]
        unfold szS at d3
        refine ⟨by omega, by omega, ?_⟩
        omega
    · intro x hx
      have := hg.l x hx
      exact ⟨⟨this.1.1, by omega⟩, this.2⟩
    · intro x hx
      have := hg.b x hx
      exact ⟨this.1, by omega⟩
    · intro x hx
      have := hg.c x hx
      exact ⟨this.1, by omega⟩
  have hl34 : l3.length ≤ 100 ∧ l4.length ≤ 100 := by
    unfold checkR at c0
    rw [if_neg (by omega)] at c0
    by_cases c1 : a > 1000 ∨ szS a l1 l2 > 1000 ∨ l3.length > 100 ∨ l4.length > 100
    · rw [if_pos c1] at c0; omega
    · omega
  exact check_of a l1 (l2 ++ [(⟨p, q⟩ : S67)]) l3 l4 hg' hl34.1 hl34.2

-- an AND that is built, and its value
theorem bx_eq (y : Int) (h0 : 0 ≤ y) (h1 : y < 9223372036854775807) : Go.bits .xor .i64 y 1 = if y % 2 = 0 then y + 1 else y - 1 := bxor1 y h0 h1
theorem bx_bx (y : Int) (h0 : 0 ≤ y) (h1 : y < 9223372036854775800) : Go.bits .xor .i64 (Go.bits .xor .i64 y 1) 1 = y := by
  rw [bx_eq y h0 (by omega)]
  split
  · rw [bx_eq _ (by omega) (by omega), if_neg (by omega)]; omega
  · rw [bx_eq _ (by omega) (by omega), if_pos (by omega)]; omega
theorem bx_val (F : List Bool) (y : Int) (h0 : 0 ≤ y) (h1 : y < 9223372036854775807) : valV F (Go.bits .xor .i64 y 1) = !valV F y := by
  rw [bx_eq y h0 h1]
  unfold valV
  split
  · rename_i h
    rw [show (y + 1) / 2 = y / 2 by omega, decide_eq_true (show (y + 1) % 2 = 1 by omega), decide_eq_false (show ¬ y % 2 = 1 by omega)]
    cases rdOf false F (y / 2) <;> rfl
  · rename_i h
    rw [show (y - 1) / 2 = y / 2 by omega, decide_eq_false (show ¬ (y - 1) % 2 = 1 by omega), decide_eq_true (show y % 2 = 1 by omega)]
    cases rdOf false F (y / 2) <;> rfl
theorem frameV_app : ∀ (g1 g2 : List S67) (acc : List Bool), frameV acc (g1 ++ g2) = frameV (frameV acc g1) g2
  | [], _, _ => rfl
  | g :: g1, g2, acc => by
    rw [List.cons_append, frameV, frameV, frameV_app g1 g2]
theorem frameV_pre : ∀ (gs : List S67) (acc : List Bool), ∃ E, frameV acc gs = acc ++ E
  | [], acc => ⟨[], by rw [frameV, List.append_nil]⟩
  | g :: gs, acc => by
    obtain ⟨E, h⟩ := frameV_pre gs (acc ++ [valV acc g.f0 && valV acc g.f1])
    exact ⟨_, by rw [frameV, h, List.append_assoc]⟩
theorem rdOf_app (l m : List Bool) (i : Nat) (h : i < l.length) : rdOf false (l ++ m) (i : Int) = rdOf false l (i : Int) := by
  simp [rdOf, List.getD, List.getElem?_append_left h]
/-- A gate has the value of the AND of its parts. -/
theorem frame_at {acc : List Bool} {gs : List S67} (hg : Gates acc.length gs) (i : Nat) (hi : i < gs.length) :
    rdOf false (frameV acc gs) ((acc.length + i : Nat) : Int) = (valV (frameV acc gs) gs[i].f0 && valV (frameV acc gs) gs[i].f1) := by
  have e : gs = gs.take i ++ ([gs[i]] ++ gs.drop (i + 1)) := by
    rw [List.singleton_append, ← List.drop_eq_getElem_cons hi, List.take_append_drop]
  have hF : frameV acc gs = frameV (frameV acc (gs.take i) ++ [valV (frameV acc (gs.take i)) gs[i].f0 && valV (frameV acc (gs.take i)) gs[i].f1]) (gs.drop (i + 1)) := by
    conv => lhs; rw [e, frameV_app, frameV_app]
    rfl
  have hl : (frameV acc (gs.take i)).length = acc.length + i := by rw [frameV_len, List.length_take]; omega
  obtain ⟨E, hE⟩ := frameV_pre (gs.drop (i + 1)) (frameV acc (gs.take i) ++ [valV (frameV acc (gs.take i)) gs[i].f0 && valV (frameV acc (gs.take i)) gs[i].f1])
  obtain ⟨h1, h2, h3⟩ := hg i hi
  rw [hF, hE, List.append_assoc, valV_app _ _ _ (by omega) (by rw [hl]; omega), valV_app _ _ _ (by omega) (by rw [hl]; omega)]
  rw [show acc.length + i = (frameV acc (gs.take i)).length from hl.symm]
  simp [rdOf, List.getD]
theorem findG_some {first : Int} {gs : List S67} {x y l : Int} (h : findG first gs x y = some l) : ∃ (i : Nat) (hi : i < gs.length), l = 2 * (first + (i : Int)) ∧ gs[i].f0 = x ∧ gs[i].f1 = y := by
  unfold findG at h
  obtain ⟨i, hi, rfl⟩ := Option.map_eq_some_iff.1 h
  obtain ⟨hlt, hp, _⟩ := List.findIdx?_eq_some_iff_getElem.1 hi
  have := of_decide_eq_true hp
  exact ⟨i, hlt, rfl, this.1, this.2⟩
theorem mx_comm (x y : Int) : mx x y = mx y x := by unfold mx; split <;> split <;> omega
theorem mn_comm (x y : Int) : mn x y = mn y x := by unfold mn; split <;> split <;> omega
theorem mxmn_val (F : List Bool) (x y : Int) : (valV F (mx x y) && valV F (mn x y)) = (valV F x && valV F y) := by
  unfold mx mn
  rcases Int.lt_trichotomy x y with h | h | h
  · rw [if_pos h, if_neg (by omega), Bool.and_comm]
  · subst h; simp
  · rw [if_neg (by omega), if_pos h]
theorem val_even (F : List Bool) (i : Int) : valV F (2 * i) = rdOf false F i := by
  unfold valV
  rw [show 2 * i / 2 = i by omega, decide_eq_false (show ¬ (2 * i) % 2 = 1 by omega)]
  cases rdOf false F i <;> rfl
theorem val_0 (F : List Bool) (h : rdOf false F 0 = false) : valV F 0 = false := by
  have := val_even F 0
  rw [show (2 : Int) * 0 = 0 from rfl] at this
  rw [this, h]
theorem val_1 (F : List Bool) (h : rdOf false F 0 = false) : valV F 1 = true := by
  unfold valV
  rw [show (1 : Int) / 2 = 0 from rfl, h]; rfl
/-- What building an AND gives: nothing new, or one gate more. -/
theorem andP_cases (first : Int) (gs : List S67) (x y : Int) : (andP first gs x y).1 = gs ∨ ((andP first gs x y) = (gs ++ [⟨mx x y, mn x y⟩], 2 * (first + (gs.length : Int))) ∧ x ≠ 0 ∧ y ≠ 0 ∧ x ≠ 1 ∧ y ≠ 1 ∧ x ≠ y ∧ x ≠ Go.bits .xor .i64 y 1 ∧ findG first gs (mx x y) (mn x y) = none) := by
  unfold andP
  split
  · exact Or.inl rfl
  · rename_i c1
    split
    · exact Or.inl rfl
    · rename_i c2
      split
      · exact Or.inl rfl
      · rename_i c3
        cases e : findG first gs (mx x y) (mn x y) with
        | some l => exact Or.inl rfl
        | none => exact Or.inr ⟨rfl, fun h => c1 (Or.inl h), fun h => c1 (Or.inr (Or.inl h)), fun h => c2 (Or.inl h), c3, fun h => c2 (Or.inr h), fun h => c1 (Or.inr (Or.inr h)), rfl⟩
theorem frame0 {acc : List Bool} (gs : List S67) (hp : 0 < acc.length) (h : rdOf false acc 0 = false) : rdOf false (frameV acc gs) 0 = false := by
  obtain ⟨E, hE⟩ := frameV_pre gs acc
  rw [hE]
  exact (rdOf_app acc E 0 hp).trans h
/-- The literal of an AND has its value. -/
theorem andP_val {acc : List Bool} {gs : List S67} {first x y : Int} (hb : (acc.length : Int) = first) (hp : 0 < acc.length) (ha : rdOf false acc 0 = false) (hg : Gates acc.length gs) (x0 : 0 ≤ x) (x1 : x / 2 < (acc.length : Int) + gs.length) (y0 : 0 ≤ y) (y1 : y / 2 < (acc.length : Int) + gs.length) (hlen : acc.length + gs.length ≤ 100000) :
    valV (frameV acc (andP first gs x y).1) (andP first gs x y).2 = (valV (frameV acc gs) x && valV (frameV acc gs) y) := by
  have hF0 := frame0 gs hp ha
  unfold andP
  by_cases c1 : x = 0 ∨ y = 0 ∨ x = Go.bits .xor .i64 y 1
  · rw [if_pos c1]
    dsimp only
    rw [val_0 _ hF0]
    rcases c1 with rfl | rfl | h
    · rw [val_0 _ hF0]; rfl
    · rw [val_0 _ hF0, Bool.and_false]
    · rw [h, bx_val _ y y0 (by omega)]; cases valV (frameV acc gs) y <;> rfl
  rw [if_neg c1]
  by_cases c2 : x = 1 ∨ x = y
  · rw [if_pos c2]
    rcases c2 with rfl | rfl
    · rw [val_1 _ hF0]; rfl
    · rw [Bool.and_self]
  rw [if_neg c2]
  by_cases c3 : y = 1
  · rw [if_pos c3]
    subst c3
    rw [val_1 _ hF0, Bool.and_true]
  rw [if_neg c3]
  cases e : findG first gs (mx x y) (mn x y) with
  | some l =>
    obtain ⟨i, hi, rfl, g0, g1⟩ := findG_some e
    dsimp only
    rw [val_even, ← hb, show (acc.length : Int) + (i : Int) = ((acc.length + i : Nat) : Int) by omega, frame_at hg i hi, g0, g1, mxmn_val]
  | none =>
    dsimp only
    have hl := frameV_len gs acc
    rw [val_even, ← hb, frameV_snoc, show (acc.length : Int) + (gs.length : Int) = ((frameV acc gs).length : Int) by omega, ← mxmn_val (frameV acc gs) x y]
    simp [rdOf, List.getD]
theorem findG_new (first : Int) (gs : List S67) (p q : Int) (h : findG first gs p q = none) : findG first (gs ++ [⟨p, q⟩]) p q = some (2 * (first + (gs.length : Int))) := by
  have := congrFun (congrFun (findG_push first gs p q h) p) q
  rw [← this, if_pos ⟨rfl, rfl⟩]
/-- Built again, with its parts exchanged, it is the same. -/
theorem andP_again (first : Int) (gs : List S67) (x y : Int) (x0 : 0 ≤ x) (x1 : x < 1000000) (y0 : 0 ≤ y) (y1 : y < 1000000) : andP first (andP first gs x y).1 y x = andP first gs x y := by
  have hbb : ∀ u v : Int, 0 ≤ u → u < 1000000 → u = Go.bits .xor .i64 v 1 → 0 ≤ v → v < 1000000 → v = Go.bits .xor .i64 u 1 := fun u v hu hu2 h hv hv2 => by rw [h, bx_bx v hv (by omega)]
  by_cases c1 : x = 0 ∨ y = 0 ∨ x = Go.bits .xor .i64 y 1
  · have e : andP first gs x y = (gs, 0) := by unfold andP; rw [if_pos c1]
    rw [e]
    unfold andP
    rw [if_pos]
    rcases c1 with h | h | h
    · exact Or.inr (Or.inl h)
    · exact Or.inl h
    · exact Or.inr (Or.inr (hbb x y x0 x1 h y0 y1))
  have c1' : ¬ (y = 0 ∨ x = 0 ∨ y = Go.bits .xor .i64 x 1) := by
    rintro (h | h | h)
    · exact c1 (Or.inr (Or.inl h))
    · exact c1 (Or.inl h)
    · exact c1 (Or.inr (Or.inr (hbb y x y0 y1 h x0 x1)))
  by_cases c2 : x = 1 ∨ x = y
  · have e : andP first gs x y = (gs, y) := by unfold andP; rw [if_neg c1, if_pos c2]
    rw [e]
    unfold andP
    rw [if_neg c1']
    rcases c2 with h | h
    · subst h
      by_cases d : y = 1 ∨ y = 1
      · rw [if_pos d]
        rcases d with d | d <;> rw [d]
      · rw [if_neg d, if_pos rfl]
    · subst h
      rw [if_pos (Or.inr rfl)]
  by_cases c3 : y = 1
  · have e : andP first gs x y = (gs, x) := by unfold andP; rw [if_neg c1, if_neg c2, if_pos c3]
    rw [e]
    unfold andP
    rw [if_neg c1', if_pos (Or.inl c3)]
  have c2' : ¬ (y = 1 ∨ y = x) := by
    rintro (h | h)
    · exact c3 h
    · exact c2 (Or.inr h.symm)
  have c3' : ¬ x = 1 := fun h => c2 (Or.inl h)
  cases e : findG first gs (mx x y) (mn x y) with
  | some l =>
    have e1 : andP first gs x y = (gs, l) := by unfold andP; rw [if_neg c1, if_neg c2, if_neg c3, e]
    rw [e1]
    unfold andP
    rw [if_neg c1', if_neg c2', if_neg c3', mx_comm y x, mn_comm y x, e]
  | none =>
    have e1 : andP first gs x y = (gs ++ [⟨mx x y, mn x y⟩], 2 * (first + (gs.length : Int))) := by unfold andP; rw [if_neg c1, if_neg c2, if_neg c3, e]
    rw [e1]
    unfold andP
    rw [if_neg c1', if_neg c2', if_neg c3', mx_comm y x, mn_comm y x, findG_new first gs _ _ e]
theorem okH_of {a : Int} {l1 : List S86} {l2 : List S67} {l3 l4 : List Int} (hg : Good a l1 l2 l3 l4) (hs : Small l1 l2 l3 l4) : okH a l1 l2 l3 l4 = true := by
  have h0 := hg.a0
  have h1 := hg.a1
  have s1 := hs.h1
  have s2 := hs.h2
  have s3 := hs.h3
  have s4 := hs.h4
  unfold okH
  rw [Bool.and_eq_true, decide_eq_true_eq, List.all_eq_true]
  refine ⟨by omega, fun g hgm => ?_⟩
  obtain ⟨i, hi, rfl⟩ := List.getElem_of_mem hgm
  obtain ⟨b1, b2, b3⟩ := hg.g i hi
  unfold okG
  rw [decide_eq_true_eq]
  omega
theorem hgate_eq (a : Int) (l1 : List S86) (l2 : List S67) (l3 l4 : List Int) (p q : Int) (hs : Small l1 l2 l3 l4) (hw : Wf a l1 l2 l3 l4) :
    hash_Gate.f a l1 l2 l3 l4 p q = some (if checkR a l1 l2 l3 l4 = 0 then (if mn p q < 0 ∨ mx p q > 2 * szS a l1 l2 + 1 then (0, [], [], [], [], 0, 2) else
      (if a + (l1.length : Int) + ((andP (a + (l1.length : Int) + 1) l2 p q).1.length : Int) > 1000 then (0, [], [], [], [], 0, 4) else (a, l1, (andP (a + (l1.length : Int) + 1) l2 p q).1, l3, l4, (andP (a + (l1.length : Int) + 1) l2 p q).2, 0))) else (0, [], [], [], [], 0, checkR a l1 l2 l3 l4)) := by
  unfold hash_Gate.f
  rw [gvars_eq a l1 l2 l3 l4 hs hw]
  simp only [Option.bind_some]
  by_cases c : checkR a l1 l2 l3 l4 = 0
  · obtain ⟨h0, h1, h2⟩ := checkR_ok _ _ _ _ _ c
    have hg := good_of a l1 l2 l3 l4 c
    rw [if_pos c, if_pos c]
    dsimp only
    rw [if_pos rfl, w64 (2 * szS a l1 l2) (by unfold szS at *; omega) (by omega), w64 (2 * szS a l1 l2 + 1) (by unfold szS at *; omega) (by omega), if_pos (⟨okH_of hg hs, rfl⟩ : okH a l1 l2 l3 l4 = true ∧ szS a l1 l2 = a + (l1.length : Int) + (l2.length : Int))]
    split
    · rfl
    · split <;> rfl
  · rw [if_neg c, if_neg c]
    dsimp only
    rw [if_neg c]

theorem al26 : spiritlevellaw26_alive.f = some true := by decide +kernel
theorem vOf_eq (l : List Bool) (x : Int) (h0 : 0 ≤ x) (h1 : x / 2 < l.length) (h2 : l.length ≤ 100000) : values_Of.f l x = some (valV l x, 0) := by
  unfold values_Of.f
  rw [if_neg (by omega), if_neg (by omega), vof_eq l x h0 h1 h2]
  rfl
theorem HashGate : spiritlevellaw26_HashGate.Pure := by
  intro a l1 l2 l3 l4 p q st inp w0 w1 w2 w3 w4 w5 w6 w7 w8
  have hw : Wf a l1 l2 l3 l4 := ⟨wf_i64 w0, fun x hx => ⟨wf_i64 (w1.2.2 x hx).1, wf_i64 (w1.2.2 x hx).2⟩, fun x hx => ⟨wf_i64 (w2.2.2 x hx).1, wf_i64 (w2.2.2 x hx).2⟩, fun x hx => wf_i64 (w3.2.2 x hx), fun x hx => wf_i64 (w4.2.2 x hx)⟩
  have wp := wf_i64 w5
  have wq := wf_i64 w6
  refine ⟨5000, ?_⟩
  have out : spiritlevellaw26_HashGate.j0 5000 p q st inp true true a l1 l2 l3 l4 = some true := by
    simp only [spiritlevellaw26_HashGate.j0]
    rw [if_pos trivial]
  unfold spiritlevellaw26_HashGate.f
  rw [al26, Option.bind_some]
  obtain ⟨b, hb, hsm⟩ := great_eq a l1 l2 l3 l4
  rw [hb, Option.bind_some]
  cases b with
  | true => rw [if_pos rfl, out]
  | false =>
    obtain ⟨hs, -⟩ := hsm rfl
    have h120 := great_l2 a l1 l2 l3 l4 hb
    rw [if_neg (by decide), vasked_eq 5000 a l1 l2 l3 l4 st inp hs hw (by omega), Option.bind_some]
    by_cases hok : ¬ (allV a l1 l2 l3 l4 st inp).2 = 0
    · rw [if_neg hok, out]
    have hok := Classical.not_not.1 hok
    rw [if_pos hok]
    obtain ⟨c0, e1, e2, hall⟩ := allV_ok hok
    have hg := good_of a l1 l2 l3 l4 c0
    have ha0 := hg.a0
    have ha1 := hg.a1
    have hn := hg.n
    have hs1 := hs.h1
    have hs2 := hs.h2
    have hlen := vframe_len (l2 := l2) e1 e2
    simp only [spiritlevellaw26_HashGate.j0, Bool.not_true]
    rw [if_neg (by decide), hgate_eq a l1 l2 l3 l4 p q hs hw, Option.bind_some, if_pos c0]
    by_cases d1 : mn p q < 0 ∨ mx p q > 2 * szS a l1 l2 + 1
    · rw [if_pos d1]
      dsimp only
      rw [if_neg (by decide)]
    rw [if_neg d1]
    by_cases d2 : a + (l1.length : Int) + ((andP (a + (l1.length : Int) + 1) l2 p q).1.length : Int) > 1000
    · rw [if_pos d2]
      dsimp only
      rw [if_neg (by decide)]
    rw [if_neg d2]
    dsimp only
    rw [if_pos rfl]
    have hpq : (0 ≤ p ∧ p ≤ 2 * szS a l1 l2 + 1) ∧ (0 ≤ q ∧ q ≤ 2 * szS a l1 l2 + 1) := by
      unfold mn mx at d1
      split at d1 <;> split at d1 <;> omega
    have hag := andP_again (a + (l1.length : Int) + 1) l2 p q (by omega) (by omega) (by omega) (by omega)
    have hacc : ((false :: (inp ++ st)).length : Int) = a + (l1.length : Int) + 1 := by simp; omega
    have hgat : Gates (false :: (inp ++ st)).length l2 := by
      have := hg.g
      rwa [show 1 + a.toNat + l1.length = (false :: (inp ++ st)).length by omega] at this
    have hval := andP_val (acc := false :: (inp ++ st)) (x := p) (y := q) hacc (by simp) rfl hgat (by omega) (by unfold szS at *; omega) (by omega) (by unfold szS at *; omega) (by unfold szS at *; omega)
    -- the new circuit
    have key : (checkR a l1 (andP (a + (l1.length : Int) + 1) l2 p q).1 l3 l4 = 0 ∧ Small l1 (andP (a + (l1.length : Int) + 1) l2 p q).1 l3 l4 ∧ Wf a l1 (andP (a + (l1.length : Int) + 1) l2 p q).1 l3 l4) ∧ (∃ E, frameV (false :: (inp ++ st)) (andP (a + (l1.length : Int) + 1) l2 p q).1 = frameV (false :: (inp ++ st)) l2 ++ E ∧ E.length ≤ 1) ∧ (0 ≤ (andP (a + (l1.length : Int) + 1) l2 p q).2 ∧ (andP (a + (l1.length : Int) + 1) l2 p q).2 / 2 < (frameV (false :: (inp ++ st)) (andP (a + (l1.length : Int) + 1) l2 p q).1).length) ∧ szS a l1 l2 ≤ szS a l1 (andP (a + (l1.length : Int) + 1) l2 p q).1 := by
      rcases andP_cases (a + (l1.length : Int) + 1) l2 p q with h | ⟨h, n1, n2, n3, n4, n5, n6, -⟩
      · rw [h]
        refine ⟨⟨c0, hs, hw⟩, ⟨[], by simp, by simp⟩, ?_, Int.le_refl _⟩
        have hb2 : (andP (a + (l1.length : Int) + 1) l2 p q).2 = 0 ∨ (andP (a + (l1.length : Int) + 1) l2 p q).2 = p ∨ (andP (a + (l1.length : Int) + 1) l2 p q).2 = q ∨ ∃ i : Nat, i < l2.length ∧ (andP (a + (l1.length : Int) + 1) l2 p q).2 = 2 * (a + (l1.length : Int) + 1 + (i : Int)) := by
          unfold andP at h ⊢
          by_cases c1 : p = 0 ∨ q = 0 ∨ p = Go.bits .xor .i64 q 1
          · rw [if_pos c1]; exact Or.inl rfl
          rw [if_neg c1] at h ⊢
          by_cases c2 : p = 1 ∨ p = q
          · rw [if_pos c2]; exact Or.inr (Or.inr (Or.inl rfl))
          rw [if_neg c2] at h ⊢
          by_cases c3 : q = 1
          · rw [if_pos c3]; exact Or.inr (Or.inl rfl)
          rw [if_neg c3] at h ⊢
          cases e : findG (a + (l1.length : Int) + 1) l2 (mx p q) (mn p q) with
          | some l =>
            obtain ⟨i, hi, rfl, -, -⟩ := findG_some e
            exact Or.inr (Or.inr (Or.inr ⟨i, hi, rfl⟩))
          | none =>
            rw [e] at h
            have := congrArg List.length h
            simp at this
        unfold szS at *
        rcases hb2 with h2 | h2 | h2 | ⟨i, hi, h2⟩ <;> rw [h2] <;> omega
      · have d0 : szS a l1 l2 < 1000 := by
          rw [h] at d2
          simp only [List.length_append, List.length_singleton] at d2
          unfold szS; omega
        rw [h]
        have m1 : 0 ≤ mn p q ∧ mn p q ≤ mx p q ∧ mx p q / 2 ≤ szS a l1 l2 ∧ mx p q ≤ 100000 := by
          unfold mn mx
          split <;> split <;> omega
        refine ⟨⟨more_good c0 _ _ d0 m1.1 m1.2.1 m1.2.2.1, ⟨hs.h1, by simp; omega, hs.h3, hs.h4⟩, ⟨hw.w0, hw.w1, fun x hx => ?_, hw.w3, hw.w4⟩⟩, ⟨_, frameV_snoc _ _ _, by simp⟩, ?_, by unfold szS; simp; omega⟩
        · rcases List.mem_append.1 hx with hx | hx
          · exact hw.w2 x hx
          · rw [List.mem_singleton.1 hx]; dsimp only; omega
        · rw [frameV_len]
          simp only [List.length_append, List.length_singleton]
          unfold szS at *
          omega
    have hl' : (andP (a + (l1.length : Int) + 1) l2 p q).1.length ≤ 130 := key.1.2.1.h2
    generalize hG : (andP (a + (l1.length : Int) + 1) l2 p q).1 = G at *
    generalize hL : (andP (a + (l1.length : Int) + 1) l2 p q).2 = l at *
    obtain ⟨⟨c0', hs', hw'⟩, ⟨E, hE, hE1⟩, ⟨b1, b2⟩, hsz⟩ := key
    have hag1 : (andP (a + (l1.length : Int) + 1) G q p).1 = G := by rw [hag, hG]
    have hag2 : (andP (a + (l1.length : Int) + 1) G q p).2 = l := by rw [hag, hL]
    rw [hgate_eq a l1 G l3 l4 q p hs' hw', if_pos c0', if_neg (by rw [mn_comm q p, mx_comm q p]; omega), hag1, hag2, if_neg d2, Option.bind_some, vall_eq a l1 l2 l3 l4 st inp hs hw, Option.bind_some, vall_eq a l1 G l3 l4 st inp hs' hw', Option.bind_some]
    have hall' : allV a l1 G l3 l4 st inp = (frameV (false :: (inp ++ st)) G, 0) := by
      unfold allV
      rw [if_pos c0', if_pos ⟨e1, e2⟩]
    rw [hall, hall']
    have hlE : (frameV (false :: (inp ++ st)) G).length = (frameV (false :: (inp ++ st)) l2).length + E.length := by rw [hE, List.length_append]
    dsimp only
    rw [if_pos rfl, if_pos rfl, same_eq 4999 a l1 G l3 l4 hs' (by omega), Option.bind_some, if_pos rfl, if_pos rfl, if_pos rfl, if_neg (by omega), w64 (((frameV (false :: (inp ++ st)) l2).length : Int) + 1) (by omega) (by unfold szS at *; omega), if_neg (by omega), if_pos (by omega), if_pos (by omega)]
    have ht : (frameV (false :: (inp ++ st)) G).take ((((frameV (false :: (inp ++ st)) l2).length : Nat) : Int)).toNat = frameV (false :: (inp ++ st)) l2 := by
      rw [hE, Int.toNat_natCast, List.take_append_of_le_length (Nat.le_refl _), List.take_length]
    rw [ht, vsame_eq 4999 _ _ (by unfold szS at *; omega) (by unfold szS at *; omega), Option.bind_some]
    simp only [decide_true, Bool.not_true, spiritlevellaw26_HashGate.j1]
    have hF1 : ((frameV (false :: (inp ++ st)) G).length : Int) ≤ 100000 := by unfold szS at *; omega
    rw [if_neg (by decide), vOf_eq _ p (by omega) (by unfold szS at *; omega) (by unfold szS at *; omega), Option.bind_some, vOf_eq _ q (by omega) (by unfold szS at *; omega) (by unfold szS at *; omega), Option.bind_some, vOf_eq _ l b1 b2 (by omega), Option.bind_some, hval]
    dsimp only
    rw [if_pos rfl, if_pos rfl, if_pos rfl, if_pos trivial]
    cases valV (frameV (false :: (inp ++ st)) l2) p <;> cases valV (frameV (false :: (inp ++ st)) l2) q <;> rfl


end Go.Proofs.Ytnbccfecmpocaaa.Pure
