/- No gate of a circuit that was built again is simple, no two have the same parts, there are at most as many, and building again changes nothing then; for every circuit that is not great and at most 1,300 numbers. -/
import Derived.Test.YtnbccfecmpocaaaQHashFewx12
namespace Go.Proofs.Ytnbccfecmpocaaa.Pure
open Go.RowKit Go.Proofs.Ytnbccfecmpocaaa.QHashFew Go.Proofs.YtnbccfecmpocaaaW.PrintWords Go.Proofs.YtnbccfecmpocaaaW.PrintLast
set_option linter.unusedSimpArgs false
set_option linter.unusedVariables false
theorem w64 (n : Int) (h : -9223372036854775808 ≤ n) (h2 : n ≤ 9223372036854775807) : wrap64 n = n := by unfold wrap64; omega
theorem rd_at (l : List Int) (j : Nat) (h : j < l.length) : rd l (j : Int) = l[j] := by simp [rd, List.getD, h]
theorem wf_i64 {x : Int} (h : (Lit.int .i64 x).wf = true) : -9223372036854775808 ≤ x ∧ x ≤ 9223372036854775807 := by
  simp [Lit.wf, IntKind.min, IntKind.max, IntKind.signed, IntKind.bits] at h
  omega
theorem wf_u8 {x : Int} (h : (Lit.int .u8 x).wf = true) : 0 ≤ x ∧ x ≤ 255 := by
  simp [Lit.wf, IntKind.min, IntKind.max, IntKind.signed, IntKind.bits] at h
  omega
theorem band1 (a : Int) (h0 : 0 ≤ a) (h1 : a < 9223372036854775807) : Go.bits .and .i64 a 1 = a % 2 := by
  have := bits_mask .i64 63 (by decide) (fun n h h' => by rw [IntKind.wrap_i64]; omega) 1 (by decide) a h0 (by omega)
  simpa using this

theorem xorNat (n : Nat) : n ^^^ 1 = if n % 2 = 0 then n + 1 else n - 1 := by
  have h1 : (n ^^^ 1) / 2 = n / 2 := by rw [Nat.xor_div_two]; simp
  have h2 : (n ^^^ 1) % 2 = (n + 1) % 2 := by
    have h := @Nat.xor_mod_two_eq_one n 1
    rcases Nat.mod_two_eq_zero_or_one n with e | e <;> rcases Nat.mod_two_eq_zero_or_one (n ^^^ 1) with e' | e' <;> simp [e, e'] at h <;> omega
  split <;> omega
theorem i64_nat (n : Nat) (h : n < 9223372036854775808) : IntKind.i64.wrap (n : Int) = n := by rw [IntKind.wrap_i64]; omega
theorem bxor1 (a : Int) (h0 : 0 ≤ a) (h1 : a < 9223372036854775807) : Go.bits .xor .i64 a 1 = if a % 2 = 0 then a + 1 else a - 1 := by
  obtain ⟨n, rfl⟩ := Int.eq_ofNat_of_zero_le h0
  have e : Go.bits .xor .i64 (n : Int) 1 = ((n ^^^ 1 : Nat) : Int) := by
    have hx : n ^^^ 1 < 9223372036854775808 := by rw [xorNat]; split <;> omega
    have hb : (1 : Int) = ((1 : Nat) : Int) := rfl
    rw [hb]
    have hc : ((BitVec.ofInt 64 (n : Int)) ^^^ (BitVec.ofInt 64 ((1 : Nat) : Int))).toNat = n ^^^ 1 := by
      rw [BitVec.ofInt_natCast, BitVec.ofInt_natCast, BitVec.toNat_xor, BitVec.toNat_ofNat, BitVec.toNat_ofNat, Nat.mod_eq_of_lt (by omega), Nat.mod_eq_of_lt (by omega)]
    have := i64_nat _ hx
    rw [← hc] at this ⊢
    exact this
  rw [e, xorNat]
  split <;> split <;> omega

-- ref02: what the reference of layer 2 and gates.Check come to, for circuits that are not great
def litOut (n l : Int) : Bool := decide (l < 0) || decide (l / 2 > n)
def latBad (n : Int) (x : S86) : Bool := litOut n x.f0 || decide (x.f1 < 0) || decide (x.f1 > 2)
def gBad (m : Int) (i : Nat) (g : S67) : Bool := decide (g.f1 < 0) || decide (g.f0 < g.f1) || decide (g.f0 / 2 > m + i)
def gsBad (m : Int) (l : List S67) : Bool := (List.range l.length).any fun i => gBad m i (rd_T67 l i)
def szS (a : Int) (l1 : List S86) (l2 : List S67) : Int := a + l1.length + l2.length
def checkR (a : Int) (l1 : List S86) (l2 : List S67) (l3 l4 : List Int) : Int :=
  if a < 0 then 8 else if a > 1000 ∨ szS a l1 l2 > 1000 ∨ l3.length > 100 ∨ l4.length > 100 then 4
  else if l3.any (litOut (szS a l1 l2)) = true ∨ l4.any (litOut (szS a l1 l2)) = true ∨ l1.any (latBad (szS a l1 l2)) = true ∨ gsBad (a + l1.length) l2 = true then 8 else 0
/-- The lengths of a circuit that is not great. -/
structure Small (l1 : List S86) (l2 : List S67) (l3 l4 : List Int) : Prop where
  h1 : l1.length ≤ 60
  h2 : l2.length ≤ 130
  h3 : l3.length ≤ 110
  h4 : l4.length ≤ 110
/-- All numbers of a circuit are int64. -/
structure Wf (a : Int) (l1 : List S86) (l2 : List S67) (l3 l4 : List Int) : Prop where
  w0 : -9223372036854775808 ≤ a ∧ a ≤ 9223372036854775807
  w1 : ∀ x ∈ l1, (-9223372036854775808 ≤ x.f0 ∧ x.f0 ≤ 9223372036854775807) ∧ (-9223372036854775808 ≤ x.f1 ∧ x.f1 ≤ 9223372036854775807)
  w2 : ∀ x ∈ l2, (-9223372036854775808 ≤ x.f0 ∧ x.f0 ≤ 9223372036854775807) ∧ (-9223372036854775808 ≤ x.f1 ∧ x.f1 ≤ 9223372036854775807)
  w3 : ∀ x ∈ l3, -9223372036854775808 ≤ x ∧ x ≤ 9223372036854775807
  w4 : ∀ x ∈ l4, -9223372036854775808 ≤ x ∧ x ≤ 9223372036854775807
theorem great_eq (a : Int) (l1 : List S86) (l2 : List S67) (l3 l4 : List Int) :
    ∃ b, spiritlevelref02_Great.f a l1 l2 l3 l4 = some b ∧ (b = false → Small l1 l2 l3 l4 ∧ (a ≤ 40 ∨ 996 ≤ a)) := by
  unfold spiritlevelref02_Great.f
  by_cases c1 : (l1.length : Int) > 60
  · exact ⟨true, by rw [if_pos c1], by simp⟩
  by_cases c2 : (l2.length : Int) > 120
  · exact ⟨true, by rw [if_neg c1, if_pos c2], by simp⟩
  by_cases c3 : (l3.length : Int) > 110
  · exact ⟨true, by rw [if_neg c1, if_neg c2, if_pos c3], by simp⟩
  by_cases c4 : (l4.length : Int) > 110
  · exact ⟨true, by rw [if_neg c1, if_neg c2, if_neg c3, if_pos c4], by simp⟩
  by_cases c5 : a > 40
  · exact ⟨decide (a < 996), by rw [if_neg c1, if_neg c2, if_neg c3, if_neg c4, if_pos c5], fun h => ⟨⟨by omega, by omega, by omega, by omega⟩, by simp at h; omega⟩⟩
  · exact ⟨false, by rw [if_neg c1, if_neg c2, if_neg c3, if_neg c4, if_neg c5], fun _ => ⟨⟨by omega, by omega, by omega, by omega⟩, by omega⟩⟩
theorem rdL_at (l : List S86) (j : Nat) (h : j < l.length) : rd_T86 l (j : Int) = l[j] := by simp [rd_T86, List.getD, h]
theorem rdA_at (l : List S67) (j : Nat) (h : j < l.length) : rd_T67 l (j : Int) = l[j] := by simp [rd_T67, List.getD, h]
theorem gcheck_eq (a : Int) (l1 : List S86) (l2 : List S67) (l3 l4 : List Int) (hs : Small l1 l2 l3 l4) (hw : Wf a l1 l2 l3 l4) :
    gates_Check.f a l1 l2 l3 l4 = some (checkR a l1 l2 l3 l4) := by
  have hs1 := hs.h1
  have hs2 := hs.h2
  unfold gates_Check.f checkR
  congr 1
  by_cases c0 : a < 0
  · rw [if_pos c0, if_pos c0]
  rw [if_neg c0, if_neg c0]
  by_cases c1 : a > 1000
  · rw [if_pos c1, if_pos (Or.inl c1)]
  have e3 : st3 a l1.length l2.length = szS a l1 l2 + 1 := by
    unfold st3 st2 st1 szS
    rw [w64 (1 + a) (by omega) (by omega), w64 (1 + a + l1.length) (by omega) (by omega), w64 _ (by omega) (by omega)]
    omega
  have e2 : st2 a l1.length = a + l1.length + 1 := by
    unfold st2 st1
    rw [w64 (1 + a) (by omega) (by omega), w64 _ (by omega) (by omega)]
    omega
  have hz : 0 ≤ szS a l1 l2 ∧ szS a l1 l2 ≤ 1190 := by unfold szS; omega
  rw [if_neg c1, e3, w64 (szS a l1 l2 + 1 - 1) (by omega) (by omega), Int.add_sub_cancel]
  by_cases c2 : szS a l1 l2 > 1000
  · rw [if_pos c2, if_pos (Or.inr (Or.inl c2))]
  rw [if_neg c2]
  by_cases c3 : l3.length > 100 ∨ l4.length > 100
  · rw [if_pos (show (if (l3.length : Int) < (l4.length : Int) then (l4.length : Int) else (l3.length : Int)) > 100 by split <;> omega), if_pos (show a > 1000 ∨ szS a l1 l2 > 1000 ∨ l3.length > 100 ∨ l4.length > 100 by omega)]
  rw [if_neg (show ¬ (if (l3.length : Int) < (l4.length : Int) then (l4.length : Int) else (l3.length : Int)) > 100 by split <;> omega), if_neg (show ¬ (a > 1000 ∨ szS a l1 l2 > 1000 ∨ l3.length > 100 ∨ l4.length > 100) by omega)]
  have o : outS (szS a l1 l2 + 1) = litOut (szS a l1 l2) := by
    funext l
    unfold outS litOut
    congr 1
  have o2 : wrongS (szS a l1 l2 + 1) = latBad (szS a l1 l2) := by
    funext x
    unfold wrongS latBad
    rw [o]
  have o3 : gatesBad (st2 a l1.length) l2 = gsBad (a + l1.length) l2 := by
    unfold gatesBad gsBad
    rw [Bool.eq_iff_iff, List.any_eq_true, List.any_eq_true]
    have hp : ∀ i ∈ List.range l2.length, gateBad (st2 a l1.length) i (rd_T67 l2 i) = gBad (a + l1.length) i (rd_T67 l2 i) := by
      intro i hi
      rw [List.mem_range] at hi
      unfold gateBad gBad
      rw [e2, w64 (a + l1.length + 1 + i) (by omega) (by omega), w64 _ (by omega) (by omega)]
      congr 1
      exact decide_eq_decide.2 (by omega)
    constructor
    · rintro ⟨i, hi, h⟩; exact ⟨i, hi, by rw [← hp i hi]; exact h⟩
    · rintro ⟨i, hi, h⟩; exact ⟨i, hi, by rw [hp i hi]; exact h⟩
  rw [o, o2, o3]
  by_cases d3 : l3.any (litOut (szS a l1 l2)) = true
  · rw [if_pos d3, if_pos (Or.inl d3)]
  rw [if_neg d3]
  by_cases d4 : l4.any (litOut (szS a l1 l2)) = true
  · rw [if_pos d4, if_pos (Or.inr (Or.inl d4))]
  rw [if_neg d4]
  by_cases d5 : l1.any (latBad (szS a l1 l2)) = true
  · rw [if_pos d5, if_pos (Or.inr (Or.inr (Or.inl d5)))]
  rw [if_neg d5]
  by_cases d6 : gsBad (a + l1.length) l2 = true
  · rw [if_pos d6, if_pos (Or.inr (Or.inr (Or.inr d6)))]
  · rw [if_neg d6, if_neg (by simp [d3, d4, d5, d6])]

-- ref02's comparisons of equal circuits
theorem sameInts_l0 (l : List Int) (hl : l.length ≤ 100000) (d : Nat) : ∀ (k j : Nat), j + d = l.length → d < k → spiritlevelref02_SameInts.l0 k l l (j : Int) = some true := by
  induction d with
  | zero =>
    intro k j hj hk
    obtain ⟨k, rfl⟩ : ∃ m, k = m + 1 := ⟨k - 1, by omega⟩
    simp only [spiritlevelref02_SameInts.l0]
    rw [if_neg (by omega)]
  | succ d ih =>
    intro k j hj hk
    obtain ⟨k, rfl⟩ : ∃ m, k = m + 1 := ⟨k - 1, by omega⟩
    simp only [spiritlevelref02_SameInts.l0]
    rw [if_pos (by omega), if_pos (by omega), if_pos (by omega), if_pos trivial, w64 _ (by omega) (by omega), show ((j : Int) + 1) = ((j + 1 : Nat) : Int) by omega, ih k (j + 1) (by omega) (by omega)]
theorem sameInts_eq (k : Nat) (l : List Int) (hl : l.length ≤ 100000) (hk : l.length < k) : spiritlevelref02_SameInts.f k l l = some true := by
  unfold spiritlevelref02_SameInts.f
  rw [if_pos rfl]
  exact sameInts_l0 l hl l.length k 0 (by omega) hk
theorem same_l1 (a : Int) (l1 : List S86) (l2 : List S67) (l3 l4 : List Int) (hs : Small l1 l2 l3 l4) (d : Nat) : ∀ (k j : Nat), j + d = l2.length → d < k →
    spiritlevelref02_Same.l1 k (j : Int) a l1 l2 l3 l4 a l1 l2 l3 l4 = some true := by
  have hs2 := hs.h2
  induction d with
  | zero =>
    intro k j hj hk
    obtain ⟨k, rfl⟩ : ∃ m, k = m + 1 := ⟨k - 1, by omega⟩
    simp only [spiritlevelref02_Same.l1]
    rw [if_neg (by omega)]
  | succ d ih =>
    intro k j hj hk
    obtain ⟨k, rfl⟩ : ∃ m, k = m + 1 := ⟨k - 1, by omega⟩
    simp only [spiritlevelref02_Same.l1]
    rw [if_pos (by omega), if_pos (by omega), if_pos (by omega), if_neg (by simp), w64 _ (by omega) (by omega), show ((j : Int) + 1) = ((j + 1 : Nat) : Int) by omega, ih k (j + 1) (by omega) (by omega)]
theorem same_l0 (a : Int) (l1 : List S86) (l2 : List S67) (l3 l4 : List Int) (hs : Small l1 l2 l3 l4) (d : Nat) : ∀ (k j : Nat), j + d = l1.length → d + l2.length + 2 < k →
    spiritlevelref02_Same.l0 k (j : Int) a l1 l2 l3 l4 a l1 l2 l3 l4 = some true := by
  have hs1 := hs.h1
  induction d with
  | zero =>
    intro k j hj hk
    obtain ⟨k, rfl⟩ : ∃ m, k = m + 1 := ⟨k - 1, by omega⟩
    simp only [spiritlevelref02_Same.l0]
    rw [if_neg (by omega), show (0 : Int) = ((0 : Nat) : Int) from rfl, same_l1 a l1 l2 l3 l4 hs l2.length k 0 (by omega) (by omega)]
  | succ d ih =>
    intro k j hj hk
    obtain ⟨k, rfl⟩ : ∃ m, k = m + 1 := ⟨k - 1, by omega⟩
    simp only [spiritlevelref02_Same.l0]
    rw [if_pos (by omega), if_pos (by omega), if_pos (by omega), if_neg (by simp), w64 _ (by omega) (by omega), show ((j : Int) + 1) = ((j + 1 : Nat) : Int) by omega, ih k (j + 1) (by omega) (by omega)]
theorem same_eq (k : Nat) (a : Int) (l1 : List S86) (l2 : List S67) (l3 l4 : List Int) (hs : Small l1 l2 l3 l4) (hk : 300 ≤ k) :
    spiritlevelref02_Same.f k a l1 l2 l3 l4 a l1 l2 l3 l4 = some true := by
  have hs1 := hs.h1
  have hs2 := hs.h2
  have hs3 := hs.h3
  have hs4 := hs.h4
  obtain ⟨k, rfl⟩ : ∃ m, k = m + 1 := ⟨k - 1, by omega⟩
  unfold spiritlevelref02_Same.f
  rw [if_pos rfl, if_pos rfl, if_pos rfl, sameInts_eq _ l3 (by omega) (by omega)]
  simp only [Option.bind_some]
  rw [if_pos trivial, sameInts_eq _ l4 (by omega) (by omega)]
  simp only [Option.bind_some, Bool.not_true, spiritlevelref02_Same.j0]
  rw [if_neg (by decide), show (0 : Int) = ((0 : Nat) : Int) from rfl]
  exact same_l0 a l1 l2 l3 l4 hs l1.length k 0 (by omega) (by omega)
theorem checkR_ok (a : Int) (l1 : List S86) (l2 : List S67) (l3 l4 : List Int) (h : checkR a l1 l2 l3 l4 = 0) : 0 ≤ a ∧ a ≤ 1000 ∧ szS a l1 l2 ≤ 1000 := by
  unfold checkR at h
  by_cases c0 : a < 0
  · rw [if_pos c0] at h; omega
  rw [if_neg c0] at h
  by_cases c1 : a > 1000 ∨ szS a l1 l2 > 1000 ∨ l3.length > 100 ∨ l4.length > 100
  · rw [if_pos c1] at h; omega
  · omega
theorem gvars_eq (a : Int) (l1 : List S86) (l2 : List S67) (l3 l4 : List Int) (hs : Small l1 l2 l3 l4) (hw : Wf a l1 l2 l3 l4) :
    gates_Vars.f a l1 l2 l3 l4 = some (if checkR a l1 l2 l3 l4 = 0 then (szS a l1 l2, 0) else (0, checkR a l1 l2 l3 l4)) := by
  have hs1 := hs.h1
  have hs2 := hs.h2
  unfold gates_Vars.f
  rw [gcheck_eq a l1 l2 l3 l4 hs hw]
  simp only [Option.bind_some]
  by_cases h : checkR a l1 l2 l3 l4 = 0
  · obtain ⟨h0, h1, h2⟩ := checkR_ok _ _ _ _ _ h
    unfold szS at h2
    rw [if_pos h, if_pos h]
    unfold st3 st2 st1 szS
    rw [w64 (1 + a) (by omega) (by omega), w64 (1 + a + l1.length) (by omega) (by omega), w64 (1 + a + l1.length + l2.length) (by omega) (by omega), w64 _ (by omega) (by omega)]
    congr 2; omega
  · rw [if_neg h, if_neg h]

-- a valid circuit
/-- The gates are in order, behind so many variables. -/
def Gates (base : Nat) (gs : List S67) : Prop := ∀ (i : Nat) (h : i < gs.length), 0 ≤ gs[i].f1 ∧ gs[i].f1 ≤ gs[i].f0 ∧ gs[i].f0 / 2 < (base + i : Nat)
/-- What a valid circuit gives. -/
structure Good (a : Int) (l1 : List S86) (l2 : List S67) (l3 l4 : List Int) : Prop where
  a0 : 0 ≤ a
  a1 : a ≤ 1000
  n : szS a l1 l2 ≤ 1000
  g : Gates (1 + a.toNat + l1.length) l2
  l : ∀ x ∈ l1, (0 ≤ x.f0 ∧ x.f0 / 2 ≤ szS a l1 l2) ∧ (0 ≤ x.f1 ∧ x.f1 ≤ 2)
  b : ∀ x ∈ l3, 0 ≤ x ∧ x / 2 ≤ szS a l1 l2
  c : ∀ x ∈ l4, 0 ≤ x ∧ x / 2 ≤ szS a l1 l2
theorem litOut_in {n l : Int} (h : litOut n l = false) : 0 ≤ l ∧ l / 2 ≤ n := by
  simp only [litOut, Bool.or_eq_false_iff, decide_eq_false_iff_not] at h
  omega
theorem good_of (a : Int) (l1 : List S86) (l2 : List S67) (l3 l4 : List Int) (h : checkR a l1 l2 l3 l4 = 0) : Good a l1 l2 l3 l4 := by
  unfold checkR at h
  by_cases c0 : a < 0
  · rw [if_pos c0] at h; omega
  rw [if_neg c0] at h
  by_cases c1 : a > 1000 ∨ szS a l1 l2 > 1000 ∨ l3.length > 100 ∨ l4.length > 100
  · rw [if_pos c1] at h; omega
  rw [if_neg c1] at h
  by_cases c2 : l3.any (litOut (szS a l1 l2)) = true ∨ l4.any (litOut (szS a l1 l2)) = true ∨ l1.any (latBad (szS a l1 l2)) = true ∨ gsBad (a + l1.length) l2 = true
  · rw [if_pos c2] at h; omega
  have d3 : l3.any (litOut (szS a l1 l2)) = false := by
    cases e : l3.any (litOut (szS a l1 l2)) with
    | false => rfl
    | true => exact absurd (Or.inl e) c2
  have d4 : l4.any (litOut (szS a l1 l2)) = false := by
    cases e : l4.any (litOut (szS a l1 l2)) with
    | false => rfl
    | true => exact absurd (Or.inr (Or.inl e)) c2
  have d1 : l1.any (latBad (szS a l1 l2)) = false := by
    cases e : l1.any (latBad (szS a l1 l2)) with
    | false => rfl
    | true => exact absurd (Or.inr (Or.inr (Or.inl e))) c2
  have d2 : gsBad (a + l1.length) l2 = false := by
    cases e : gsBad (a + l1.length) l2 with
    | false => rfl
    | true => exact absurd (Or.inr (Or.inr (Or.inr e))) c2
  refine ⟨by omega, by omega, by omega, ?_, ?_, ?_, ?_⟩
  · intro i hi
    have := List.any_eq_false.1 d2 i (List.mem_range.2 hi)
    rw [rdA_at l2 i hi] at this
    simp [gBad] at this
    omega
  · intro x hx
    have := List.any_eq_false.1 d1 x hx
    simp only [latBad, Bool.not_eq_true, Bool.or_eq_false_iff, decide_eq_false_iff_not] at this
    exact ⟨litOut_in this.1.1, by omega⟩
  · intro x hx
    exact litOut_in (by simpa using List.any_eq_false.1 d3 x hx)
  · intro x hx
    exact litOut_in (by simpa using List.any_eq_false.1 d4 x hx)
theorem check_of (a : Int) (l1 : List S86) (l2 : List S67) (l3 l4 : List Int) (h : Good a l1 l2 l3 l4) (h3 : l3.length ≤ 100) (h4 : l4.length ≤ 100) : checkR a l1 l2 l3 l4 = 0 := by
  have ha0 := h.a0
  have ha1 := h.a1
  have hn := h.n
  unfold checkR
  rw [if_neg (by omega), if_neg (by omega), if_neg]
  rintro (c | c | c | c)
  · obtain ⟨x, hx, hb⟩ := List.any_eq_true.1 c
    have := h.b x hx
    simp [litOut] at hb
    omega
  · obtain ⟨x, hx, hb⟩ := List.any_eq_true.1 c
    have := h.c x hx
    simp [litOut] at hb
    omega
  · obtain ⟨x, hx, hb⟩ := List.any_eq_true.1 c
    have := h.l x hx
    simp [latBad, litOut] at hb
    omega
  · obtain ⟨i, hi, hb⟩ := List.any_eq_true.1 c
    have hi := List.mem_range.1 hi
    have := h.g i hi
    rw [rdA_at l2 i hi] at hb
    simp [gBad] at hb
    omega

theorem okH_of {a : Int} {l1 : List S86} {l2 : List S67} {l3 l4 : List Int} (hg : Good a l1 l2 l3 l4) (hs : Small l1 l2 l3 l4) : okH a l1 l2 l3 l4 = true := by
  have h0 := hg.a0
  have h1 := hg.a1
  have s1 := hs.h1
  have s2 := hs.h2
  have s3 := hs.h3
  have s4 := hs.h4
  unfold okH
  rw [Bool.and_eq_true, decide_eq_true_eq, List.all_eq_true]
  refine ⟨by omega, fun g hgm => ?_⟩
  obtain ⟨i, hi, rfl⟩ := List.getElem_of_mem hgm
  obtain ⟨b1, b2, b3⟩ := hg.g i hi
  unfold okG
  rw [decide_eq_true_eq]
  omega
theorem hgate_eq (a : Int) (l1 : List S86) (l2 : List S67) (l3 l4 : List Int) (p q : Int) (hs : Small l1 l2 l3 l4) (hw : Wf a l1 l2 l3 l4) :
    hash_Gate.f a l1 l2 l3 l4 p q = some (if checkR a l1 l2 l3 l4 = 0 then (if mn p q < 0 ∨ mx p q > 2 * szS a l1 l2 + 1 then (0, [], [], [], [], 0, 2) else
      (if a + (l1.length : Int) + ((andP (a + (l1.length : Int) + 1) l2 p q).1.length : Int) > 1000 then (0, [], [], [], [], 0, 4) else (a, l1, (andP (a + (l1.length : Int) + 1) l2 p q).1, l3, l4, (andP (a + (l1.length : Int) + 1) l2 p q).2, 0))) else (0, [], [], [], [], 0, checkR a l1 l2 l3 l4)) := by
  unfold hash_Gate.f
  rw [gvars_eq a l1 l2 l3 l4 hs hw]
  simp only [Option.bind_some]
  by_cases c : checkR a l1 l2 l3 l4 = 0
  · obtain ⟨h0, h1, h2⟩ := checkR_ok _ _ _ _ _ c
    have hg := good_of a l1 l2 l3 l4 c
    rw [if_pos c, if_pos c]
    dsimp only
    rw [if_pos rfl, w64 (2 * szS a l1 l2) (by unfold szS at *; omega) (by omega), w64 (2 * szS a l1 l2 + 1) (by unfold szS at *; omega) (by omega), if_pos (⟨okH_of hg hs, rfl⟩ : okH a l1 l2 l3 l4 = true ∧ szS a l1 l2 = a + (l1.length : Int) + (l2.length : Int))]
    split
    · rfl
    · split <;> rfl
  · rw [if_neg c, if_neg c]
    dsimp only
    rw [if_neg c]

theorem bx_eq (y : Int) (h0 : 0 ≤ y) (h1 : y < 9223372036854775807) : Go.bits .xor .i64 y 1 = if y % 2 = 0 then y + 1 else y - 1 := bxor1 y h0 h1
theorem bx_bx (y : Int) (h0 : 0 ≤ y) (h1 : y < 9223372036854775800) : Go.bits .xor .i64 (Go.bits .xor .i64 y 1) 1 = y := by
  rw [bx_eq y h0 (by omega)]
  split
  · rw [bx_eq _ (by omega) (by omega), if_neg (by omega)]; omega
  · rw [bx_eq _ (by omega) (by omega), if_pos (by omega)]; omega
theorem findG_some {first : Int} {gs : List S67} {x y l : Int} (h : findG first gs x y = some l) : ∃ (i : Nat) (hi : i < gs.length), l = 2 * (first + (i : Int)) ∧ gs[i].f0 = x ∧ gs[i].f1 = y := by
  unfold findG at h
  obtain ⟨i, hi, rfl⟩ := Option.map_eq_some_iff.1 h
  obtain ⟨hlt, hp, _⟩ := List.findIdx?_eq_some_iff_getElem.1 hi
  have := of_decide_eq_true hp
  exact ⟨i, hlt, rfl, this.1, this.2⟩
theorem mx_comm (x y : Int) : mx x y = mx y x := by unfold mx; split <;> split <;> omega
theorem mn_comm (x y : Int) : mn x y = mn y x := by unfold mn; split <;> split <;> omega
theorem andP_cases (first : Int) (gs : List S67) (x y : Int) : (andP first gs x y).1 = gs ∨ ((andP first gs x y) = (gs ++ [⟨mx x y, mn x y⟩], 2 * (first + (gs.length : Int))) ∧ x ≠ 0 ∧ y ≠ 0 ∧ x ≠ 1 ∧ y ≠ 1 ∧ x ≠ y ∧ x ≠ Go.bits .xor .i64 y 1 ∧ findG first gs (mx x y) (mn x y) = none) := by
  unfold andP
  split
  · exact Or.inl rfl
  · rename_i c1
    split
    · exact Or.inl rfl
    · rename_i c2
      split
      · exact Or.inl rfl
      · rename_i c3
        cases e : findG first gs (mx x y) (mn x y) with
        | some l => exact Or.inl rfl
        | none => exact Or.inr ⟨rfl, fun h => c1 (Or.inl h), fun h => c1 (Or.inr (Or.inl h)), fun h => c2 (Or.inl h), c3, fun h => c2 (Or.inr h), fun h => c1 (Or.inr (Or.inr h)), rfl⟩

structure Fine (first : Int) (gs : List S67) : Prop where
  ok : ∀ (i : Nat) (h : i < gs.length), 2 ≤ gs[i].f1 ∧ gs[i].f1 < gs[i].f0 ∧ gs[i].f0 ≠ Go.bits .xor .i64 gs[i].f1 1 ∧ gs[i].f0 / 2 < first + (i : Int)
  one : ∀ (i j : Nat) (hi : i < gs.length) (hj : j < gs.length), i < j → ¬ (gs[i].f0 = gs[j].f0 ∧ gs[i].f1 = gs[j].f1)
theorem fine_nil (first : Int) : Fine first [] := ⟨fun i h => absurd h (by simp), fun i j hi => absurd hi (by simp)⟩
theorem findG_miss {first : Int} {gs : List S67} {p q : Int} (h : findG first gs p q = none) (i : Nat) (hi : i < gs.length) : ¬ (gs[i].f0 = p ∧ gs[i].f1 = q) := by
  unfold findG at h
  rw [Option.map_eq_none_iff, List.findIdx?_eq_none_iff] at h
  have := h _ (List.getElem_mem hi)
  simpa using this
theorem fine_step {first : Int} {gs : List S67} {x y : Int} (hf : 1 ≤ first) (h : Fine first gs) (x0 : 0 ≤ x) (x1 : x / 2 < first + (gs.length : Int)) (y0 : 0 ≤ y) (y1 : y / 2 < first + (gs.length : Int)) (hx : x < 1000000) (hy : y < 1000000) :
    Fine first (andP first gs x y).1 ∧ 0 ≤ (andP first gs x y).2 ∧ (andP first gs x y).2 / 2 < first + ((andP first gs x y).1.length : Int) := by
  rcases andP_cases first gs x y with e | ⟨e, c0, c1, c2, c3, c4, c5, c6⟩
  · rw [e]
    refine ⟨h, ?_⟩
    unfold andP
    split
    · dsimp only; omega
    · split
      · dsimp only; omega
      · split
        · dsimp only; omega
        · split
          · rename_i l hl
            obtain ⟨i, hi, rfl, -, -⟩ := findG_some hl
            dsimp only; omega
          · rename_i hl
            dsimp only
            exfalso
            unfold andP at e
            simp_all
  · rw [e]
    dsimp only
    have hm : 2 ≤ mn x y ∧ mn x y < mx x y ∧ mx x y / 2 < first + (gs.length : Int) ∧ mx x y ≠ Go.bits .xor .i64 (mn x y) 1 := by
      have h2 : y ≠ Go.bits .xor .i64 x 1 := fun h => c5 (by rw [h, bx_bx x x0 (by omega)])
      unfold mx mn
      split <;> split <;> first | omega | (refine ⟨by omega, by omega, by omega, ?_⟩; assumption)
    refine ⟨⟨fun i hi => ?_, fun i j hi hj hij => ?_⟩, by omega, by rw [List.length_append, List.length_singleton]; omega⟩
    · by_cases c : i < gs.length
      · rw [List.getElem_append_left c]
        exact h.ok i c
      · have hi2 : i = gs.length := by rw [List.length_append, List.length_singleton] at hi; omega
        subst hi2
        simp only [List.getElem_concat_length]
        exact ⟨hm.1, hm.2.1, hm.2.2.2, hm.2.2.1⟩
    · have hjl : j ≤ gs.length := by rw [List.length_append, List.length_singleton] at hj; omega
      have hil : i < gs.length := by omega
      rw [List.getElem_append_left hil]
      by_cases c : j < gs.length
      · rw [List.getElem_append_left c]
        exact h.one i j hil c hij
      · have hj2 : j = gs.length := by omega
        subst hj2
        simp only [List.getElem_concat_length]
        exact findG_miss c6 i hil

theorem findG_none' {first : Int} {gs : List S67} {p q : Int} (hn : ∀ (j : Nat) (hj : j < gs.length), ¬ (gs[j].f0 = p ∧ gs[j].f1 = q)) : findG first gs p q = none := by
  unfold findG
  have : gs.findIdx? (fun g => decide (g.f0 = p ∧ g.f1 = q)) = none := by
    rw [List.findIdx?_eq_none_iff]
    intro g hg
    obtain ⟨j, hj, rfl⟩ := List.getElem_of_mem hg
    exact decide_eq_false (hn j hj)
  rw [this]; rfl
theorem sgn_lit {T : List Int} {B : Int} (hT : ∀ t ∈ T, 0 ≤ t ∧ t / 2 < B) (hB : B ≤ 100000) (l : Int) (h0 : 0 ≤ l) (h1 : l / 2 < T.length) (h2 : l ≤ 1000000) : 0 ≤ sgnP T l ∧ sgnP T l / 2 < B := by
  have hm := hT _ (rd_mem T (l / 2) (by omega) h1)
  rw [sgnP_eq T l h0 (by omega) hm.1 (by omega)]
  unfold notH
  split
  · exact hm
  · split <;> omega
structure InvB (first : Int) (k : Nat) (s : List S67 × List Int) : Prop where
  fine : Fine first s.1
  len : s.2.length = k
  cnt : s.1.length = 0 ∨ first + (s.1.length : Int) ≤ (k : Int)
  lits : ∀ t ∈ s.2, 0 ≤ t ∧ t / 2 < first + (s.1.length : Int)
theorem inv_step {first : Int} {ands : List S67} {given : List Int} {ins : Int} {k : Nat} (hf : 1 ≤ first) (ha : okA first ands = true) (hg : badG ins given k = false) (hk : (k : Int) < first + (ands.length : Int)) (hN : first + (ands.length : Int) ≤ 50000) {s : List S67 × List Int} (h : InvB first k s) : InvB first (k + 1) (stepB first ands given s) := by
  obtain ⟨h1, h2, h3, h4⟩ := h
  have hB : first + (s.1.length : Int) ≤ 100000 := by omega
  unfold stepB
  rw [h2]
  by_cases c : 0 ≤ rd given (k : Int)
  · rw [if_pos c]
    have hb := badG_not hg c
    have hs := sgn_lit h4 hB _ c (by rw [h2]; omega) (by omega)
    refine ⟨h1, by dsimp only; rw [List.length_append, List.length_singleton, h2], by dsimp only; omega, fun t ht => ?_⟩
    rcases List.mem_append.1 ht with ht | ht
    · exact h4 t ht
    · rw [List.mem_singleton.1 ht]; exact hs
  · rw [if_neg c]
    by_cases c1 : (k : Int) < first
    · rw [if_pos c1]
      refine ⟨h1, by dsimp only; rw [List.length_append, List.length_singleton, h2], by dsimp only; omega, fun t ht => ?_⟩
      rcases List.mem_append.1 ht with ht | ht
      · exact h4 t ht
      · rw [List.mem_singleton.1 ht]; dsimp only; omega
    · rw [if_neg c1]
      obtain ⟨i, hi⟩ : ∃ i : Nat, (i : Int) = (k : Int) - first := ⟨((k : Int) - first).toNat, by omega⟩
      obtain ⟨a0, a1, a2, a3⟩ := okA_at ha i (by omega)
      rw [← hi]
      have hs := sgn_lit h4 hB _ a0 (by rw [h2]; omega) (by omega)
      have ht := sgn_lit h4 hB _ a2 (by rw [h2]; omega) (by omega)
      generalize sgnP s.2 (rd_T67 ands (i : Int)).f0 = x at *
      generalize sgnP s.2 (rd_T67 ands (i : Int)).f1 = y at *
      obtain ⟨f1, f2, f3⟩ := fine_step hf h1 hs.1 hs.2 ht.1 ht.2 (by omega) (by omega)
      have hl := andP_len first s.1 x y
      have hge : s.1.length ≤ (andP first s.1 x y).1.length := by
        rcases andP_cases first s.1 x y with e | ⟨e, -⟩
        · rw [e]; exact Nat.le_refl _
        · rw [e]; simp
      refine ⟨f1, by dsimp only; rw [List.length_append, List.length_singleton, h2], by dsimp only; omega, fun t ht => ?_⟩
      rcases List.mem_append.1 ht with ht | ht
      · have := h4 t ht; dsimp only; omega
      · rw [List.mem_singleton.1 ht]; exact ⟨f2, f3⟩
theorem inv_run {first : Int} {ands : List S67} {given : List Int} {ins : Int} (hf : 1 ≤ first) (ha : okA first ands = true) (hN : first + (ands.length : Int) ≤ 50000) : ∀ k : Nat, (k : Int) ≤ first + (ands.length : Int) → (∀ v : Nat, v < k → badG ins given v = false) → InvB first k (runB first ands given k)
  | 0, _, _ => ⟨fine_nil first, rfl, Or.inl rfl, fun t ht => absurd ht (by simp [runB])⟩
  | k + 1, hk, hg => inv_step hf ha (hg k (by omega)) (by omega) hN (inv_run hf ha hN k (by omega) (fun v hv => hg v (by omega)))
theorem sgn_id (k : Nat) (hk : k ≤ 50000) (l : Int) (h0 : 0 ≤ l) (h1 : l / 2 < (k : Int)) : sgnP ((List.range k).map (fun v : Nat => 2 * (v : Int))) l = l := by
  obtain ⟨n, hn⟩ : ∃ n : Nat, l / 2 = (n : Int) := ⟨(l / 2).toNat, by omega⟩
  have hr : rd ((List.range k).map (fun v : Nat => 2 * (v : Int))) (l / 2) = 2 * (l / 2) := by
    rw [hn, rd_at _ n (by simp; omega)]
    simp
  rw [sgnP_eq _ l h0 (by omega) (by rw [hr]; omega) (by rw [hr]; omega), hr]
  unfold notH
  split
  · omega
  · rw [if_pos (by omega)]; omega
theorem rerun {first : Int} {F : Nat} (hF : first = (F : Int)) {G : List S67} (hf : 1 ≤ first) (h : Fine first G) (N : Nat) (hN : N = F + G.length) (hN2 : N ≤ 50000) : ∀ k : Nat, k ≤ N → runB first G (List.replicate N (-1)) k = (G.take (k - F), (List.range k).map (fun v : Nat => 2 * (v : Int)))
  | 0, _ => by simp [runB]
  | k + 1, hk => by
    rw [runB, rerun hF hf h N hN hN2 k (by omega)]
    have hl : ((List.range k).map (fun v : Nat => 2 * (v : Int))).length = k := by simp
    have hr : rd (List.replicate N (-1)) (k : Int) = -1 := by
      rw [rd_at _ k (by simp; omega)]; simp
    have hT : (List.range (k + 1)).map (fun v : Nat => 2 * (v : Int)) = (List.range k).map (fun v : Nat => 2 * (v : Int)) ++ [2 * (k : Int)] := by
      rw [List.range_succ, List.map_append]; rfl
    unfold stepB
    dsimp only
    rw [hl, hr, if_neg (by decide)]
    by_cases c : (k : Int) < first
    · rw [if_pos c, hT, show k + 1 - F = 0 by omega, show k - F = 0 by omega]
    · rw [if_neg c]
      obtain ⟨i, hi⟩ : ∃ i : Nat, k = F + i := ⟨k - F, by omega⟩
      have hi2 : i < G.length := by omega
      have e1 : (k : Int) - first = (i : Int) := by omega
      have er : rd_T67 G (i : Int) = G[i] := by simp [rd_T67, List.getD, hi2]
      obtain ⟨b1, b2, b3, b4⟩ := h.ok i hi2
      have eg : findG first (G.take i) G[i].f0 G[i].f1 = none := findG_none' (fun j hj => by
        rw [List.length_take] at hj
        rw [List.getElem_take]
        exact h.one j i (by omega) hi2 (by omega))
      have ea : andP first (G.take i) G[i].f0 G[i].f1 = (G.take i ++ [G[i]], 2 * (first + (i : Int))) := by
        have em : mx G[i].f0 G[i].f1 = G[i].f0 := by unfold mx; split <;> omega
        have en : mn G[i].f0 G[i].f1 = G[i].f1 := by unfold mn; split <;> omega
        unfold andP
        rw [if_neg (by rintro (h | h | h); omega; omega; exact b3 h), if_neg (by rintro (h | h) <;> omega), if_neg (by omega), em, en, eg]
        dsimp only
        rw [List.length_take, Nat.min_eq_left (by omega)]
      rw [e1, er, sgn_id k (by omega) _ (by omega) (by omega), sgn_id k (by omega) _ (by omega) (by omega), show k - F = i by omega, show k + 1 - F = i + 1 by omega, ea, hT, List.take_succ_eq_append_getElem hi2]
      dsimp only
      rw [show 2 * (first + (i : Int)) = 2 * (k : Int) by omega]

theorem id_l1 (a : Int) (l1 : List S86) (l2 : List S67) (l3 l4 : List Int) (s p lit : Int) (rows : List (List Int)) (n : Nat) (hn : n ≤ 10000) (d : Nat) : ∀ (k j : Nat) (acc : List Int), j + d = n → acc.length = j → d < k → ∃ r, lift_Identity.l1 k (n : Int) (j : Int) a l1 l2 l3 l4 s p acc rows lit = some r ∧ r.2.2.2.2.2.2.2 = 0 := by
  induction d with
  | zero =>
    intro k j acc hj ha hk
    obtain ⟨k, rfl⟩ : ∃ m, k = m + 1 := ⟨k - 1, by omega⟩
    simp only [lift_Identity.l1]
    rw [if_neg (by omega)]
    unfold slices_Clone_int_int.f
    rw [if_pos (by omega)]
    exact ⟨_, rfl, rfl⟩
  | succ d ih =>
    intro k j acc hj ha hk
    obtain ⟨k, rfl⟩ : ∃ m, k = m + 1 := ⟨k - 1, by omega⟩
    simp only [lift_Identity.l1]
    rw [if_pos (by omega), if_pos (by omega), w64 ((j : Int) + 1) (by omega) (by omega), show (j : Int) + 1 = ((j + 1 : Nat) : Int) by omega]
    exact ih k (j + 1) _ (by omega) (by simp [ha]) (by omega)
theorem id_l0 (a : Nat) (l1 : List S86) (l2 : List S67) (l3 l4 : List Int) (s p lit : Int) (hn : l1.length ≤ 10000) (ha : a ≤ 10000) (d : Nat) : ∀ (k v : Nat) (row : List Int), v + d = a + 1 → row.length ≤ v → d + l1.length + 1 < k → ∃ r, lift_Identity.l0 k (v : Int) (a : Int) l1 l2 l3 l4 s p [row] lit = some r ∧ r.2.2.2.2.2.2.2 = 0 := by
  induction d with
  | zero =>
    intro k v row hv hr hk
    obtain ⟨k, rfl⟩ : ∃ m, k = m + 1 := ⟨k - 1, by omega⟩
    simp only [lift_Identity.l0]
    rw [if_neg (by omega)]
    exact id_l1 _ l1 l2 l3 l4 s p lit _ l1.length hn l1.length k 0 [] (by omega) rfl (by omega)
  | succ d ih =>
    intro k v row hv hr hk
    obtain ⟨k, rfl⟩ : ∃ m, k = m + 1 := ⟨k - 1, by omega⟩
    simp only [lift_Identity.l0]
    have er : rd_L3 [row] 0 = row := rfl
    rw [er, if_pos (by omega), if_pos (by simp), if_pos (show row.length < 17592186044416 by omega), w64 ((v : Int) + 1) (by omega) (by omega), show (v : Int) + 1 = ((v + 1 : Nat) : Int) by omega]
    exact ih k (v + 1) _ (by omega) (by simp; omega) (by omega)
theorem ident_eq (k : Nat) (a : Int) (l1 : List S86) (l2 : List S67) (l3 l4 : List Int) (hs : Small l1 l2 l3 l4) (hw : Wf a l1 l2 l3 l4) (hc : checkR a l1 l2 l3 l4 = 0) (hk : 2000 ≤ k) : ∃ r, lift_Identity.f k a l1 l2 l3 l4 = some r ∧ r.2.2.2.2.2.2.2 = 0 := by
  have hg := good_of a l1 l2 l3 l4 hc
  have ha0 := hg.a0
  have ha1 := hg.a1
  have hs1 := hs.h1
  unfold lift_Identity.f
  rw [gcheck_eq a l1 l2 l3 l4 hs hw, Option.bind_some, hc, if_pos rfl, if_pos (by decide)]
  obtain ⟨A, rfl⟩ : ∃ A : Nat, a = (A : Int) := ⟨a.toNat, by omega⟩
  exact id_l0 A l1 l2 l3 l4 0 1 1 (by omega) (by omega) A k 1 [] (by omega) (by simp) (by omega)
theorem land_eq (k : Nat) (x y : Int) (hk : 10 ≤ k) (h1 : 2 ≤ y) (h2 : y < x) (h3 : x ≤ 2001) (h4 : x ≠ Go.bits .xor .i64 y 1) : lits_And.f k x y = some (0, false, 0) := by
  have em : mx x y = x := by unfold mx; split <;> omega
  have en : mn x y = y := by unfold mn; split <;> omega
  have hc : lits_check.f k [x, y] = some 0 := by
    unfold lits_check.f
    obtain ⟨k, rfl⟩ : ∃ m, k = m + 3 := ⟨k - 3, by omega⟩
    have r0 : rd [x, y] 0 = x := rfl
    have r1 : rd [x, y] 1 = y := rfl
    have e1 : wrap64 ((0 : Int) + 1) = 1 := by rw [w64 _ (by decide) (by decide)]; rfl
    have e2 : wrap64 ((1 : Int) + 1) = 2 := by rw [w64 _ (by decide) (by decide)]; rfl
    simp only [lits_check.l0, List.length_cons, List.length_nil, r0]
    rw [if_pos (by decide), if_pos (by decide), if_pos (by decide), if_neg (by omega), if_neg (by omega), e1, if_pos (by decide), if_pos (by decide), if_pos (by decide), r1, if_neg (by omega), if_neg (by omega), e2, if_neg (by decide)]
  obtain ⟨k, rfl⟩ : ∃ m, k = m + 1 := ⟨k - 1, by omega⟩
  unfold lits_And.f
  rw [hc, Option.bind_some, if_pos rfl, em, en, if_neg (by omega)]
  have hb : (Go.bits .xor .i64 y 1 == x) = false := beq_eq_false_iff_ne.mpr (fun h => h4 h.symm)
  simp only [lits_And.j0]
  rw [hb, if_neg (by decide), if_neg (by omega), if_neg (by omega)]

theorem al26 : spiritlevellaw26_alive.f = some true := by decide +kernel
theorem okC_of {a : Int} {l1 : List S86} {l2 : List S67} {l3 l4 g : List Int} (hg : Good a l1 l2 l3 l4) (hs : Small l1 l2 l3 l4) (h : g.length ≤ 60000) : okC a l1 l2 l3 l4 g = true := by
  have ho := okH_of hg hs
  unfold okC okA
  simp only [Bool.and_eq_true, decide_eq_true_eq, List.all_eq_true]
  refine ⟨⟨⟨⟨⟨ho, fun i hi => ?_⟩, h⟩, fun x hx => ?_⟩, fun x hx => ?_⟩, fun x hx => ?_⟩
  · have hi := List.mem_range.1 hi
    obtain ⟨b1, b2, b3⟩ := hg.g i hi
    have er : rd_T67 l2 (i : Int) = l2[i] := by simp [rd_T67, List.getD, hi]
    have := hg.a0
    rw [er]; omega
  · have := (hg.l x hx).1; unfold szS at this; omega
  · have := hg.b x hx; unfold szS at this; omega
  · have := hg.c x hx; unfold szS at this; omega
theorem lens_of {a : Int} {l1 : List S86} {l2 : List S67} {l3 l4 : List Int} (h : checkR a l1 l2 l3 l4 = 0) : l3.length ≤ 100 ∧ l4.length ≤ 100 := by
  unfold checkR at h
  by_cases c0 : a < 0
  · rw [if_pos c0] at h; omega
  · rw [if_neg c0] at h
    by_cases c1 : a > 1000 ∨ szS a l1 l2 > 1000 ∨ l3.length > 100 ∨ l4.length > 100
    · rw [if_pos c1] at h; omega
    · omega
theorem built_good {a : Int} {l1 : List S86} {l2 G : List S67} {l3 l4 T : List Int} {N : Nat} (hg : Good a l1 l2 l3 l4) (hi : InvB (a + (l1.length : Int) + 1) N (G, T)) (hN : (N : Int) = szS a l1 l2 + 1) :
    Good a (l1.map (fun x => (⟨sgnP T x.f0, x.f1⟩ : S86))) G (l3.map (sgnP T)) (l4.map (sgnP T)) ∧ G.length ≤ l2.length := by
  obtain ⟨h1, h2, h3, h4⟩ := hi
  dsimp only at h1 h2 h3 h4
  have ha0 := hg.a0
  have ha1 := hg.a1
  have hn := hg.n
  have hG : G.length ≤ l2.length := by unfold szS at hN; omega
  have hz : szS a (l1.map (fun x => (⟨sgnP T x.f0, x.f1⟩ : S86))) G = a + (l1.length : Int) + (G.length : Int) := by unfold szS; rw [List.length_map]
  have hB : a + (l1.length : Int) + 1 + (G.length : Int) ≤ 100000 := by unfold szS at hn; omega
  have key : ∀ x : Int, 0 ≤ x → x / 2 ≤ szS a l1 l2 → 0 ≤ sgnP T x ∧ sgnP T x / 2 ≤ a + (l1.length : Int) + (G.length : Int) := fun x x0 x1 => by
    have := sgn_lit h4 hB x x0 (by omega) (by omega)
    omega
  refine ⟨⟨ha0, ha1, by rw [hz]; unfold szS at hn; omega, fun i hi => ?_, fun x hx => ?_, fun x hx => ?_, fun x hx => ?_⟩, hG⟩
  · obtain ⟨b1, b2, b3, b4⟩ := h1.ok i hi
    rw [List.length_map]
    refine ⟨by omega, by omega, by omega⟩
  · obtain ⟨y, hy, rfl⟩ := List.mem_map.1 hx
    obtain ⟨b1, b2⟩ := hg.l y hy
    rw [hz]
    exact ⟨key _ b1.1 b1.2, b2⟩
  · obtain ⟨y, hy, rfl⟩ := List.mem_map.1 hx
    obtain ⟨b1, b2⟩ := hg.b y hy
    rw [hz]
    exact key _ b1 b2
  · obtain ⟨y, hy, rfl⟩ := List.mem_map.1 hx
    obtain ⟨b1, b2⟩ := hg.c y hy
    rw [hz]
    exact key _ b1 b2
theorem good_wf {a : Int} {l1 : List S86} {l2 : List S67} {l3 l4 : List Int} (hg : Good a l1 l2 l3 l4) (h2 : l2.length ≤ 130) : Wf a l1 l2 l3 l4 := by
  have ha0 := hg.a0
  have ha1 := hg.a1
  have hn := hg.n
  refine ⟨by omega, fun x hx => ?_, fun x hx => ?_, fun x hx => ?_, fun x hx => ?_⟩
  · have := hg.l x hx; omega
  · obtain ⟨i, hi, rfl⟩ := List.getElem_of_mem hx
    obtain ⟨b1, b2, b3⟩ := hg.g i hi
    unfold szS at hn
    omega
  · have := hg.b x hx; omega
  · have := hg.c x hx; omega
theorem again_eq (a : Int) (l1 : List S86) (G : List S67) (l3 l4 : List Int) (hc : checkR a l1 G l3 l4 = 0) (hs : Small l1 G l3 l4) (hw : Wf a l1 G l3 l4) (hF : Fine (a + (l1.length : Int) + 1) G) (k : Nat) (hk : 2000 ≤ k) :
    ∃ r, hash_Pass.f k a l1 G l3 l4 = some r ∧ r.1 = a ∧ r.2.1 = l1 ∧ r.2.2.1 = G ∧ r.2.2.2.1 = l3 ∧ r.2.2.2.2.1 = l4 ∧ r.2.2.2.2.2.2.2.2.2.2.2.2 = 0 := by
  have hg := good_of a l1 G l3 l4 hc
  have ha0 := hg.a0
  have ha1 := hg.a1
  have hn := hg.n
  obtain ⟨F, hFF⟩ : ∃ F : Nat, a + (l1.length : Int) + 1 = (F : Int) := ⟨(a + (l1.length : Int) + 1).toNat, by omega⟩
  obtain ⟨N, hN⟩ : ∃ N : Nat, (N : Int) = szS a l1 G + 1 := ⟨(szS a l1 G + 1).toNat, by unfold szS; omega⟩
  have hN1 : N = F + G.length := by unfold szS at hN; omega
  unfold hash_Pass.f
  rw [gvars_eq a l1 G l3 l4 hs hw, if_pos hc, Option.bind_some]
  dsimp only
  rw [if_pos rfl, w64 (szS a l1 G + 1) (by omega) (by omega), ← hN]
  have hrep : slices_Repeat_int_int.f [-1] (N : Int) = some (List.replicate N (-1)) := by
    unfold slices_Repeat_int_int.f
    rw [if_pos ⟨rfl, by unfold szS at hN; omega, by omega⟩, Int.toNat_natCast]
    rfl
  rw [hrep, Option.bind_some]
  have hb : builtP a l1 G (List.replicate N (-1)) = (G, (List.range N).map (fun v : Nat => 2 * (v : Int))) := by
    unfold builtP
    rw [List.length_replicate, rerun hFF (by omega) hF N hN1 (by omega) N (Nat.le_refl _), List.take_of_length_le (by omega)]
  have hid : ∀ x : Int, 0 ≤ x → x / 2 ≤ szS a l1 G → sgnP ((List.range N).map (fun v : Nat => 2 * (v : Int))) x = x := fun x x0 x1 => sgn_id N (by omega) x x0 (by omega)
  have m1 : l1.map (fun x => (⟨sgnP ((List.range N).map (fun v : Nat => 2 * (v : Int))) x.f0, x.f1⟩ : S86)) = l1 := by
    refine (List.map_congr_left (fun x hx => ?_)).trans (List.map_id l1)
    have := (hg.l x hx).1
    rw [hid x.f0 this.1 this.2]; rfl
  have m3 : l3.map (sgnP ((List.range N).map (fun v : Nat => 2 * (v : Int)))) = l3 := (List.map_congr_left (fun x hx => hid x (hg.b x hx).1 (hg.b x hx).2)).trans (List.map_id l3)
  have m4 : l4.map (sgnP ((List.range N).map (fun v : Nat => 2 * (v : Int)))) = l4 := (List.map_congr_left (fun x hx => hid x (hg.c x hx).1 (hg.c x hx).2)).trans (List.map_id l4)
  have hbad : ¬ (((List.replicate N (-1 : Int)).length : Int) ≠ szS a l1 G + 1 ∨ (List.range (List.replicate N (-1 : Int)).length).any (badG a (List.replicate N (-1))) = true) := by
    rintro (h | h)
    · rw [List.length_replicate] at h; exact h hN
    · rw [List.any_eq_true] at h
      obtain ⟨v, hv, hb⟩ := h
      have hv := List.mem_range.1 hv
      rw [List.length_replicate] at hv
      have hr : rd (List.replicate N (-1)) (v : Int) = -1 := by rw [rd_at _ v (by simpa using hv)]; simp
      unfold badG at hb
      rw [hr] at hb
      simp at hb
      omega
  have hB : hash_Build.f a l1 G l3 l4 (List.replicate N (-1)) = some (a, l1, G, l3, l4, (List.range N).map (fun v : Nat => 2 * (v : Int)), 0) := by
    unfold hash_Build.f
    rw [gvars_eq a l1 G l3 l4 hs hw, if_pos hc, Option.bind_some]
    dsimp only
    rw [if_pos rfl, if_pos ⟨okC_of hg hs (by rw [List.length_replicate]; omega), rfl⟩, if_neg hbad, hb]
    dsimp only
    rw [m1, m3, m4]
  rw [hB, Option.bind_some]
  dsimp only
  obtain ⟨r, hr, he⟩ := ident_eq k a l1 G l3 l4 hs hw hc hk
  rw [hr, Option.bind_some]
  exact ⟨_, rfl, rfl, rfl, rfl, rfl, rfl, rfl⟩
theorem few_l1 (a : Int) (l1 : List S86) (G : List S67) (l3 l4 : List Int) (first : Int) (hF : Fine first G) (hG : G.length ≤ 130) (i : Nat) (hi : i < G.length) (e : Nat) : ∀ (k m : Nat), m + e = i → spiritlevellaw26_HashFew.l1 (k + e + 1) true (i : Int) (m : Int) a l1 G l3 l4 = spiritlevellaw26_HashFew.l0 k true ((i + 1 : Nat) : Int) a l1 G l3 l4 := by
  induction e with
  | zero =>
    intro k m hm
    simp only [Nat.add_zero, spiritlevellaw26_HashFew.l1]
    rw [if_neg (by omega), w64 ((i : Int) + 1) (by omega) (by omega), show (i : Int) + 1 = ((i + 1 : Nat) : Int) by omega]
  | succ e ih =>
    intro k m hm
    rw [show k + (e + 1) + 1 = (k + e + 1) + 1 by omega, spiritlevellaw26_HashFew.l1]
    have er : ∀ (j : Nat) (hj : j < G.length), rd_T67 G (j : Int) = G[j] := fun j hj => by simp [rd_T67, List.getD, hj]
    have hne := hF.one m i (by omega) hi (by omega)
    have hb : ¬ ((G[m]'(by omega)).f0 == G[i].f0 && (G[m]'(by omega)).f1 == G[i].f1) = true := by
      rw [Bool.and_eq_true, beq_iff_eq, beq_iff_eq]; exact hne
    rw [if_pos (by omega), if_pos (by omega), if_pos (by omega), if_pos (by omega), if_pos (by omega), er m (by omega), er i hi, if_neg hb, w64 ((m : Int) + 1) (by omega) (by omega), show (m : Int) + 1 = ((m + 1 : Nat) : Int) by omega]
    exact ih k (m + 1) (by omega)
theorem few_l0 (a : Int) (l1 : List S86) (G : List S67) (l3 l4 : List Int) (hc : checkR a l1 G l3 l4 = 0) (hs : Small l1 G l3 l4) (hw : Wf a l1 G l3 l4) (hF : Fine (a + (l1.length : Int) + 1) G) (d : Nat) : ∀ (k j : Nat), j + d = G.length → 5000 + d * 140 ≤ k → spiritlevellaw26_HashFew.l0 k true (j : Int) a l1 G l3 l4 = some true := by
  have hg := good_of a l1 G l3 l4 hc
  have hs2 := hs.h2
  induction d with
  | zero =>
    intro k j hj hk
    obtain ⟨k, rfl⟩ : ∃ m, k = m + 1 := ⟨k - 1, by omega⟩
    simp only [spiritlevellaw26_HashFew.l0]
    obtain ⟨r, hr, e1, e2, e3, e4, e5, e6⟩ := again_eq a l1 G l3 l4 hc hs hw hF k (by omega)
    rw [if_neg (by omega), hr, Option.bind_some]
    rw [if_pos trivial, if_pos e6, e1, e2, e3, e4, e5, same_eq k a l1 G l3 l4 hs (by omega), Option.bind_some]
  | succ d ih =>
    intro k j hj hk
    obtain ⟨k, rfl⟩ : ∃ m, k = m + j + 1 + 1 + 1 := ⟨k - j - 3, by omega⟩
    simp only [spiritlevellaw26_HashFew.l0]
    have hj2 : j < G.length := by omega
    have er : rd_T67 G (j : Int) = G[j] := by simp [rd_T67, List.getD, hj2]
    obtain ⟨b1, b2, b3, b4⟩ := hF.ok j hj2
    have hn := hg.n
    unfold szS at hn
    rw [if_pos (by omega), if_pos (by omega), er, land_eq _ _ _ (by omega) b1 b2 (by omega) b3, Option.bind_some]
    dsimp only
    rw [if_pos rfl]
    simp only [spiritlevellaw26_HashFew.j3]
    rw [if_neg (by decide)]
    have := few_l1 a l1 G l3 l4 _ hF hs2 j hj2 j k 0 (by omega)
    rw [show ((0 : Nat) : Int) = 0 from rfl] at this
    rw [this]
    exact ih k (j + 1) (by omega) (by omega)
theorem HashFew : spiritlevellaw26_HashFew.Pure := by
  intro a l1 l2 l3 l4 g w0 w1 w2 w3 w4 w5
  have hw : Wf a l1 l2 l3 l4 := ⟨wf_i64 w0, fun x hx => ⟨wf_i64 (w1.2.2 x hx).1, wf_i64 (w1.2.2 x hx).2⟩, fun x hx => ⟨wf_i64 (w2.2.2 x hx).1, wf_i64 (w2.2.2 x hx).2⟩, fun x hx => wf_i64 (w3.2.2 x hx), fun x hx => wf_i64 (w4.2.2 x hx)⟩
  refine ⟨50000 + 1 + 1, ?_⟩
  have out : spiritlevellaw26_HashFew.j0 (50000 + 1 + 1) g true true a l1 l2 l3 l4 = some true := by
    simp only [spiritlevellaw26_HashFew.j0]
    rw [if_pos trivial]
  unfold spiritlevellaw26_HashFew.f
  rw [al26, Option.bind_some]
  obtain ⟨b, hb, hsm⟩ := great_eq a l1 l2 l3 l4
  rw [hb, Option.bind_some]
  cases b with
  | true => rw [if_pos rfl, out]
  | false =>
    obtain ⟨hs, -⟩ := hsm rfl
    have hs1 := hs.h1
    have hs2 := hs.h2
    rw [if_neg (by decide)]
    by_cases c13 : (g.length : Int) > 1300
    · rw [if_pos c13, out]
    rw [if_neg c13]
    simp only [spiritlevellaw26_HashFew.j0, Bool.not_true]
    rw [if_neg (by decide)]
    unfold hash_Build.f
    rw [gvars_eq a l1 l2 l3 l4 hs hw, Option.bind_some]
    by_cases c : checkR a l1 l2 l3 l4 = 0
    · have hg := good_of a l1 l2 l3 l4 c
      have ha0 := hg.a0
      have ha1 := hg.a1
      have hn := hg.n
      rw [if_pos c]
      dsimp only
      rw [if_pos rfl, if_pos ⟨okC_of hg hs (by omega), rfl⟩]
      by_cases cb : (g.length : Int) ≠ szS a l1 l2 + 1 ∨ (List.range g.length).any (badG a g) = true
      · rw [if_pos cb, Option.bind_some]
        dsimp only
        rw [if_neg (by decide)]
      · rw [if_neg cb, Option.bind_some]
        dsimp only
        have hgl : (g.length : Int) = szS a l1 l2 + 1 := Classical.not_not.1 (fun h => cb (Or.inl h))
        have hgb : ∀ v : Nat, v < g.length → badG a g v = false := fun v hv => by
          cases e : badG a g v with
          | false => rfl
          | true => exact absurd (Or.inr (List.any_eq_true.2 ⟨v, List.mem_range.2 hv, e⟩)) cb
        have hA : okA (a + (l1.length : Int) + 1) l2 = true := by
          have := okC_of (g := g) hg hs (by omega)
          unfold okC at this
          simp only [Bool.and_eq_true] at this
          exact this.1.1.1.1.2
        have hinv : InvB (a + (l1.length : Int) + 1) g.length (builtP a l1 l2 g) := inv_run (by omega) hA (by unfold szS at hn; omega) g.length (by unfold szS at hgl; omega) hgb
        generalize builtP a l1 l2 g = bp at *
        obtain ⟨G, T⟩ := bp
        obtain ⟨hgx, hGl⟩ := built_good hg hinv hgl
        have hlx := lens_of c
        have hF : Fine (a + (l1.length : Int) + 1) G := hinv.fine
        dsimp only
        generalize hL : l1.map (fun x => (⟨sgnP T x.f0, x.f1⟩ : S86)) = L at *
        have hLl : L.length = l1.length := by rw [← hL, List.length_map]
        have hBl : (l3.map (sgnP T)).length = l3.length := List.length_map _
        have hCl : (l4.map (sgnP T)).length = l4.length := List.length_map _
        generalize l3.map (sgnP T) = B at *
        generalize l4.map (sgnP T) = C at *
        have hcx : checkR a L G B C = 0 := check_of a L G B C hgx (by omega) (by omega)
        have hsx : Small L G B C := ⟨by omega, by omega, by omega, by omega⟩
        have hwx : Wf a L G B C := good_wf hgx hsx.h2
        rw [if_pos rfl, gcheck_eq a L G B C hsx hwx, Option.bind_some, hcx, if_pos rfl, if_neg (by omega), if_pos rfl, hLl]
        have hne : ((l1.length : Int) != (l1.length : Int)) = false := by simp
        rw [hne]
        simp only [spiritlevellaw26_HashFew.j1]
        rw [if_neg (by decide)]
        exact few_l0 a L G B C hcx hsx hwx (by rw [hLl]; exact hF) G.length 50000 0 (by omega) (by have := hsx.h2; omega)
    · rw [if_neg c]
      dsimp only
      rw [if_neg c, Option.bind_some]
      dsimp only
      rw [if_neg c]


end Go.Proofs.Ytnbccfecmpocaaa.Pure
