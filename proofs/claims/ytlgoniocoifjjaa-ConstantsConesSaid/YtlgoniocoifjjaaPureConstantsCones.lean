/- In what Pass returns no latch that stays is part of anything, the same latches stay, and Pass leaves the circuit as it is; for every circuit that is not great. -/
import Derived.Test.YtlgoniocoifjjaaQConstantsConesx13
namespace Go.Proofs.Ytlgoniocoifjjaa.Pure
open Go.RowKit Go.Proofs.Ytlgoniocoifjjaa.QConstantsConesW Go.Proofs.Ytlgoniocoifjjaa.QConstantsCones Go.Proofs.YtlgoniocoifjjaaW.PrintWords Go.Proofs.YtlgoniocoifjjaaW.PrintLast
set_option linter.unusedSimpArgs false
set_option linter.unusedVariables false
theorem w64 (n : Int) (h : -9223372036854775808 ≤ n) (h2 : n ≤ 9223372036854775807) : wrap64 n = n := by unfold wrap64; omega
theorem rd_at (l : List Int) (j : Nat) (h : j < l.length) : rd l (j : Int) = l[j] := by simp [rd, List.getD, h]
theorem wf_i64 {x : Int} (h : (Lit.int .i64 x).wf = true) : -9223372036854775808 ≤ x ∧ x ≤ 9223372036854775807 := by
  simp [Lit.wf, IntKind.min, IntKind.max, IntKind.signed, IntKind.bits] at h
  omega
theorem wf_u8 {x : Int} (h : (Lit.int .u8 x).wf = true) : 0 ≤ x ∧ x ≤ 255 := by
  simp [Lit.wf, IntKind.min, IntKind.max, IntKind.signed, IntKind.bits] at h
  omega
theorem band1 (a : Int) (h0 : 0 ≤ a) (h1 : a < 9223372036854775807) : Go.bits .and .i64 a 1 = a % 2 := by
  have := bits_mask .i64 63 (by decide) (fun n h h' => by rw [IntKind.wrap_i64]; omega) 1 (by decide) a h0 (by omega)
  simpa using this

theorem xorNat (n : Nat) : n ^^^ 1 = if n % 2 = 0 then n + 1 else n - 1 := by
  have h1 : (n ^^^ 1) / 2 = n / 2 := by rw [Nat.xor_div_two]; simp
  have h2 : (n ^^^ 1) % 2 = (n + 1) % 2 := by
    have h := @Nat.xor_mod_two_eq_one n 1
    rcases Nat.mod_two_eq_zero_or_one n with e | e <;> rcases Nat.mod_two_eq_zero_or_one (n ^^^ 1) with e' | e' <;> simp [e, e'] at h <;> omega
  split <;> omega
theorem i64_nat (n : Nat) (h : n < 9223372036854775808) : IntKind.i64.wrap (n : Int) = n := by rw [IntKind.wrap_i64]; omega
theorem bxor1 (a : Int) (h0 : 0 ≤ a) (h1 : a < 9223372036854775807) : Go.bits .xor .i64 a 1 = if a % 2 = 0 then a + 1 else a - 1 := by
  obtain ⟨n, rfl⟩ := Int.eq_ofNat_of_zero_le h0
  have e : Go.bits .xor .i64 (n : Int) 1 = ((n ^^^ 1 : Nat) : Int) := by
    have hx : n ^^^ 1 < 9223372036854775808 := by rw [xorNat]; split <;> omega
    have hb : (1 : Int) = ((1 : Nat) : Int) := rfl
    rw [hb]
    have hc : ((BitVec.ofInt 64 (n : Int)) ^^^ (BitVec.ofInt 64 ((1 : Nat) : Int))).toNat = n ^^^ 1 := by
      rw [BitVec.ofInt_natCast, BitVec.ofInt_natCast, BitVec.toNat_xor, BitVec.toNat_ofNat, BitVec.toNat_ofNat, Nat.mod_eq_of_lt (by omega), Nat.mod_eq_of_lt (by omega)]
    have := i64_nat _ hx
    rw [← hc] at this ⊢
    exact this
  rw [e, xorNat]
  split <;> split <;> omega

-- strictly increasing lists: Sort and Compact
theorem inc_ext : ∀ (a b : List Int), a.Pairwise (· < ·) → b.Pairwise (· < ·) → (∀ x, x ∈ a ↔ x ∈ b) → a = b
  | [], [], _, _, _ => rfl
  | [], y :: b, _, _, h => absurd ((h y).2 (by simp)) (by simp)
  | x :: a, [], _, _, h => absurd ((h x).1 (by simp)) (by simp)
  | x :: a, y :: b, ha, hb, h => by
    rw [List.pairwise_cons] at ha hb
    have e : x = y := by
      have h1 := (h x).1 (by simp)
      have h2 := (h y).2 (by simp)
      rcases List.mem_cons.1 h1 with e | h1
      · exact e
      rcases List.mem_cons.1 h2 with e | h2
      · exact e.symm
      have := hb.1 x h1
      have := ha.1 y h2
      omega
    subst e
    rw [inc_ext a b ha.2 hb.2]
    intro z
    constructor
    · intro hz
      rcases List.mem_cons.1 ((h z).1 (by simp [hz])) with e | h'
      · subst e; have := ha.1 z hz; omega
      · exact h'
    · intro hz
      rcases List.mem_cons.1 ((h z).2 (by simp [hz])) with e | h'
      · subst e; have := hb.1 z hz; omega
      · exact h'
/-- The numbers of a list, each once, in increasing order. -/
def setI (l : List Int) : List Int := Lib.compact (sortI l)
theorem sortI_inc (l : List Int) : (sortI l).Pairwise (· ≤ ·) := by
  have := List.pairwise_mergeSort (le := fun x y : Int => decide (x ≤ y)) (fun a b c h1 h2 => by simp at h1 h2 ⊢; omega) (fun a b => by simp; omega) l
  simpa [sortI] using this
theorem sortI_mem (l : List Int) (x : Int) : x ∈ sortI l ↔ x ∈ l := by unfold sortI; exact List.mem_mergeSort
theorem sortI_len (l : List Int) : (sortI l).length = l.length := by simp [sortI]
theorem get_toArray (l : List Int) (j : Nat) (h : j < l.length) : l.toArray[j]! = l[j] := by simp [getElem!_pos, h]
theorem compact_inc (l : List Int) (h : l.Pairwise (· ≤ ·)) : (Lib.compact l).Pairwise (· < ·) := by
  unfold Lib.compact Lib.compactUpTo
  rw [List.pairwise_map, List.pairwise_filter]
  have hr : (List.range l.length).Pairwise (fun a b => (a < b) ∧ a < l.length ∧ b < l.length) := by
    have h1 := List.pairwise_lt_range (n := l.length)
    rw [List.pairwise_iff_forall_sublist] at h1 ⊢
    intro a b hs
    have ha : a ∈ List.range l.length := hs.subset (by simp)
    have hb : b ∈ List.range l.length := hs.subset (by simp)
    exact ⟨h1 hs, List.mem_range.1 ha, List.mem_range.1 hb⟩
  refine hr.imp ?_
  rintro i j ⟨hij, hi, hj⟩ _ hk
  simp only [Lib.keeps, decide_eq_true_eq] at hk
  rw [get_toArray l i hi, get_toArray l j hj]
  rw [get_toArray l j hj, get_toArray l (j - 1) (by omega)] at hk
  have hle := List.pairwise_iff_getElem.1 h
  have h1 : l[j - 1]'(by omega) ≤ l[j] := hle (j - 1) j (by omega) hj (by omega)
  have h2 : l[i] ≤ l[j - 1]'(by omega) := by
    rcases Nat.lt_or_ge i (j - 1) with c | c
    · exact hle i (j - 1) hi (by omega) c
    · have : i = j - 1 := by omega
      subst this; exact Int.le_refl _
  have h3 : l[j] ≠ l[j - 1]'(by omega) := by
    rcases hk with hk | hk
    · omega
    · exact hk
  omega
theorem compact_mem (l : List Int) (x : Int) : x ∈ Lib.compact l ↔ x ∈ l := by
  unfold Lib.compact Lib.compactUpTo
  rw [List.mem_map]
  constructor
  · rintro ⟨j, hj, rfl⟩
    have := List.mem_range.1 (List.mem_filter.1 hj).1
    rw [get_toArray l j this]
    exact List.getElem_mem this
  · intro hx
    obtain ⟨j, hj, rfl⟩ := List.getElem_of_mem hx
    have key : ∀ (n j : Nat), j ≤ n → ∀ (hj : j < l.length), ∃ a, a ∈ (List.range l.length).filter (Lib.keeps l.toArray) ∧ l.toArray[a]! = l[j] := by
      intro n
      induction n with
      | zero =>
        intro j hn hj
        have : j = 0 := by omega
        subst this
        exact ⟨0, List.mem_filter.2 ⟨List.mem_range.2 hj, by simp [Lib.keeps]⟩, get_toArray l 0 hj⟩
      | succ n ih =>
        intro j hn hj
        by_cases c : Lib.keeps l.toArray j = true
        · exact ⟨j, List.mem_filter.2 ⟨List.mem_range.2 hj, c⟩, get_toArray l j hj⟩
        · have c0 : ¬ (j = 0 ∨ l.toArray[j]! ≠ l.toArray[j - 1]!) := by simpa [Lib.keeps] using c
          have c1 : j ≠ 0 := fun e => c0 (Or.inl e)
          have c2 : l.toArray[j]! = l.toArray[j - 1]! := Classical.byContradiction fun e => c0 (Or.inr e)
          rw [get_toArray l j hj, get_toArray l (j - 1) (by omega)] at c2
          obtain ⟨a, ha, e⟩ := ih (j - 1) (by omega) (by omega)
          exact ⟨a, ha, by rw [e, c2]⟩
    exact key j j (Nat.le_refl _) hj
theorem setI_inc (l : List Int) : (setI l).Pairwise (· < ·) := compact_inc _ (sortI_inc l)
theorem setI_mem (l : List Int) (x : Int) : x ∈ setI l ↔ x ∈ l := by unfold setI; rw [compact_mem, sortI_mem]
theorem setI_eq (l m : List Int) (h : m.Pairwise (· < ·)) (h2 : ∀ x, x ∈ m ↔ x ∈ l) : m = setI l := inc_ext _ _ h (setI_inc l) (fun x => by rw [h2, setI_mem])
theorem setI_len (l : List Int) : (setI l).length ≤ l.length := by
  have := Lib.compact_length_le (sortI l)
  rw [sortI_len] at this
  exact this
/-- The other literal of a variable. -/
def notI (x : Int) : Int := if x % 2 = 0 then x + 1 else x - 1
/-- A list has a literal and the other one. -/
def clash (l : List Int) : Bool := l.any fun x => l.contains (notI x)
/-- Two in line have one variable. -/
def adj : List Int → Bool
  | x :: y :: l => decide (x / 2 = y / 2) || adj (y :: l)
  | _ => false
theorem adj_of : ∀ (c : List Int) (m : Int), c.Pairwise (· < ·) → m % 2 = 0 → m ∈ c → m + 1 ∈ c → adj c = true
  | [], _, _, _, h, _ => absurd h (by simp)
  | [x], m, _, _, h, h2 => by
    have e1 := List.mem_singleton.1 h
    have e2 := List.mem_singleton.1 h2
    omega
  | x :: y :: l, m, hp, he, h, h2 => by
    rw [List.pairwise_cons] at hp
    have hy := hp.1 y (by simp)
    rw [adj, Bool.or_eq_true, decide_eq_true_eq]
    rcases List.mem_cons.1 h with e | h
    · rcases List.mem_cons.1 h2 with e2 | h2
      · omega
      rcases List.mem_cons.1 h2 with e2 | h2
      · left; omega
      · have := (List.pairwise_cons.1 hp.2).1 _ h2
        omega
    · rcases List.mem_cons.1 h2 with e2 | h2
      · have := hp.1 m h; omega
      · exact Or.inr (adj_of (y :: l) m hp.2 he h h2)
theorem adj_in : ∀ (c : List Int), c.Pairwise (· < ·) → adj c = true → ∃ m, m % 2 = 0 ∧ m ∈ c ∧ m + 1 ∈ c
  | [], _, h => absurd h (by simp [adj])
  | [x], _, h => absurd h (by simp [adj])
  | x :: y :: l, hp, h => by
    rw [List.pairwise_cons] at hp
    have hy := hp.1 y (by simp)
    rw [adj, Bool.or_eq_true, decide_eq_true_eq] at h
    rcases h with h | h
    · exact ⟨x, by omega, by simp, by rw [show x + 1 = y by omega]; simp⟩
    · obtain ⟨m, h1, h2, h3⟩ := adj_in (y :: l) hp.2 h
      exact ⟨m, h1, List.mem_cons_of_mem _ h2, List.mem_cons_of_mem _ h3⟩
theorem adj_clash (l : List Int) : adj (setI l) = clash l := by
  cases e : clash l with
  | true =>
    obtain ⟨x, hx, h⟩ := List.any_eq_true.1 e
    have h := List.contains_iff_mem.1 h
    unfold notI at h
    by_cases c : x % 2 = 0
    · rw [if_pos c] at h
      exact adj_of _ x (setI_inc l) c ((setI_mem l x).2 hx) ((setI_mem l _).2 h)
    · rw [if_neg c] at h
      exact adj_of _ (x - 1) (setI_inc l) (by omega) ((setI_mem l _).2 h) (by rw [show x - 1 + 1 = x by omega]; exact (setI_mem l x).2 hx)
  | false =>
    cases f : adj (setI l) with
    | false => rfl
    | true =>
      obtain ⟨m, h0, h1, h2⟩ := adj_in _ (setI_inc l) f
      have := List.any_eq_false.1 e m ((setI_mem l m).1 h1)
      exfalso
      apply this
      rw [List.contains_iff_mem]
      unfold notI
      rw [if_pos h0]
      exact (setI_mem l _).1 h2

-- ref02: what the reference of layer 2 and gates.Check come to, for circuits that are not great
def litOut (n l : Int) : Bool := decide (l < 0) || decide (l / 2 > n)
def latBad (n : Int) (x : S45) : Bool := litOut n x.f0 || decide (x.f1 < 0) || decide (x.f1 > 2)
def gBad (m : Int) (i : Nat) (g : S55) : Bool := decide (g.f1 < 0) || decide (g.f0 < g.f1) || decide (g.f0 / 2 > m + i)
def gsBad (m : Int) (l : List S55) : Bool := (List.range l.length).any fun i => gBad m i (rd_T55 l i)
def szS (a : Int) (l1 : List S45) (l2 : List S55) : Int := a + l1.length + l2.length
def checkR (a : Int) (l1 : List S45) (l2 : List S55) (l3 l4 : List Int) : Int :=
  if a < 0 then 8 else if a > 1000 ∨ szS a l1 l2 > 1000 ∨ l3.length > 100 ∨ l4.length > 100 then 4
  else if l3.any (litOut (szS a l1 l2)) = true ∨ l4.any (litOut (szS a l1 l2)) = true ∨ l1.any (latBad (szS a l1 l2)) = true ∨ gsBad (a + l1.length) l2 = true then 8 else 0
/-- The lengths of a circuit that is not great. -/
structure Small (l1 : List S45) (l2 : List S55) (l3 l4 : List Int) : Prop where
  h1 : l1.length ≤ 60
  h2 : l2.length ≤ 130
  h3 : l3.length ≤ 110
  h4 : l4.length ≤ 110
/-- All numbers of a circuit are int64. -/
structure Wf (a : Int) (l1 : List S45) (l2 : List S55) (l3 l4 : List Int) : Prop where
  w0 : -9223372036854775808 ≤ a ∧ a ≤ 9223372036854775807
  w1 : ∀ x ∈ l1, (-9223372036854775808 ≤ x.f0 ∧ x.f0 ≤ 9223372036854775807) ∧ (-9223372036854775808 ≤ x.f1 ∧ x.f1 ≤ 9223372036854775807)
  w2 : ∀ x ∈ l2, (-9223372036854775808 ≤ x.f0 ∧ x.f0 ≤ 9223372036854775807) ∧ (-9223372036854775808 ≤ x.f1 ∧ x.f1 ≤ 9223372036854775807)
  w3 : ∀ x ∈ l3, -9223372036854775808 ≤ x ∧ x ≤ 9223372036854775807
  w4 : ∀ x ∈ l4, -9223372036854775808 ≤ x ∧ x ≤ 9223372036854775807
theorem great_eq (a : Int) (l1 : List S45) (l2 : List S55) (l3 l4 : List Int) :
    ∃ b, spiritlevelref02_Great.f a l1 l2 l3 l4 = some b ∧ (b = false → Small l1 l2 l3 l4 ∧ (a ≤ 40 ∨ 996 ≤ a)) := by
  unfold spiritlevelref02_Great.f
  by_cases c1 : (l1.length : Int) > 60
  · exact ⟨true, by rw [if_pos c1], by simp⟩
  by_cases c2 : (l2.length : Int) > 120
  · exact ⟨true, by rw [if_neg c1, if_pos c2], by simp⟩
  by_cases c3 : (l3.length : Int) > 110
  · exact ⟨true, by rw [if_neg c1, if_neg c2, if_pos c3], by simp⟩
  by_cases c4 : (l4.length : Int) > 110
  · exact ⟨true, by rw [if_neg c1, if_neg c2, if_neg c3, if_pos c4], by simp⟩
  by_cases c5 : a > 40
  · exact ⟨decide (a < 996), by rw [if_neg c1, if_neg c2, if_neg c3, if_neg c4, if_pos c5], fun h => ⟨⟨by omega, by omega, by omega, by omega⟩, by simp at h; omega⟩⟩
  · exact ⟨false, by rw [if_neg c1, if_neg c2, if_neg c3, if_neg c4, if_neg c5], fun _ => ⟨⟨by omega, by omega, by omega, by omega⟩, by omega⟩⟩
theorem literals_l0 (l : List Int) (n : Int) (hw : ∀ x ∈ l, -9223372036854775808 ≤ x ∧ x ≤ 9223372036854775807) (hl : l.length ≤ 100000) (d : Nat) : ∀ (k j : Nat), j + d = l.length → d < k →
    spiritlevelref02_literals.l0 k l n (j : Int) = some (!(l.drop j).any (litOut n)) := by
  induction d with
  | zero =>
    intro k j hj hk
    obtain ⟨k, rfl⟩ : ∃ m, k = m + 1 := ⟨k - 1, by omega⟩
    simp only [spiritlevelref02_literals.l0]
    rw [if_neg (by omega), List.drop_of_length_le (by omega)]; rfl
  | succ d ih =>
    intro k j hj hk
    obtain ⟨k, rfl⟩ : ∃ m, k = m + 1 := ⟨k - 1, by omega⟩
    have hlt : j < l.length := by omega
    have hwj := hw l[j] (List.getElem_mem hlt)
    simp only [spiritlevelref02_literals.l0]
    rw [if_pos (by omega), if_pos (by omega), rd_at l j hlt, List.drop_eq_getElem_cons hlt, List.any_cons]
    by_cases c : l[j] < 0
    · rw [if_pos c]; simp [litOut, c]
    · rw [if_neg c, Int.tdiv_eq_ediv_of_nonneg (by omega), w64 _ (by omega) (by omega)]
      by_cases c2 : l[j] / 2 > n
      · rw [if_pos c2]; simp [litOut, c2]
      · rw [if_neg c2, w64 _ (by omega) (by omega), show ((j : Int) + 1) = ((j + 1 : Nat) : Int) by omega, ih k (j + 1) (by omega) (by omega)]
        have : litOut n l[j] = false := by simp [litOut]; omega
        rw [this]; simp
theorem literals_eq (k : Nat) (l : List Int) (n : Int) (hw : ∀ x ∈ l, -9223372036854775808 ≤ x ∧ x ≤ 9223372036854775807) (hl : l.length ≤ 100000) (hk : l.length < k) :
    spiritlevelref02_literals.f k l n = some (!l.any (litOut n)) := by
  have := literals_l0 l n hw hl l.length k 0 (by omega) hk
  simpa [spiritlevelref02_literals.f] using this
theorem rdL_at (l : List S45) (j : Nat) (h : j < l.length) : rd_T45 l (j : Int) = l[j] := by simp [rd_T45, List.getD, h]
theorem rdA_at (l : List S55) (j : Nat) (h : j < l.length) : rd_T55 l (j : Int) = l[j] := by simp [rd_T55, List.getD, h]
theorem check_l1 (a : Int) (l1 : List S45) (l2 : List S55) (l3 l4 : List Int) (hs : Small l1 l2 l3 l4) (hw : Wf a l1 l2 l3 l4) (h0 : 0 ≤ a) (h1 : a ≤ 1000) (d : Nat) : ∀ (k j : Nat), j + d = l2.length → d < k →
    spiritlevelref02_Check.l1 k (j : Int) a l1 l2 l3 l4 = some (if ((List.range' j d).any fun i => gBad (a + l1.length) i (rd_T55 l2 i)) = true then 8 else 0) := by
  have hs1 := hs.h1
  have hs2 := hs.h2
  induction d with
  | zero =>
    intro k j hj hk
    obtain ⟨k, rfl⟩ : ∃ m, k = m + 1 := ⟨k - 1, by omega⟩
    simp only [spiritlevelref02_Check.l1]
    rw [if_neg (by omega)]; rfl
  | succ d ih =>
    intro k j hj hk
    obtain ⟨k, rfl⟩ : ∃ m, k = m + 1 := ⟨k - 1, by omega⟩
    have hlt : j < l2.length := by omega
    have hwj := hw.w2 l2[j] (List.getElem_mem hlt)
    simp only [spiritlevelref02_Check.l1]
    rw [if_pos (by omega), if_pos (by omega), List.range'_succ, List.any_cons, rdA_at l2 j hlt]
    by_cases c : l2[j].f1 < 0
    · rw [if_pos c, if_pos (by simp [gBad, c])]
    rw [if_neg c]
    by_cases c2 : l2[j].f0 < l2[j].f1
    · rw [if_pos c2, if_pos (by simp [gBad, c2])]
    rw [if_neg c2, Int.tdiv_eq_ediv_of_nonneg (by omega), w64 (l2[j].f0 / 2) (by omega) (by omega), w64 (a + l1.length) (by omega) (by omega), w64 (a + l1.length + j) (by omega) (by omega)]
    by_cases c3 : l2[j].f0 / 2 > a + l1.length + j
    · rw [if_pos c3, if_pos (by simp [gBad, c3])]
    rw [if_neg c3, w64 _ (by omega) (by omega), show ((j : Int) + 1) = ((j + 1 : Nat) : Int) by omega, ih k (j + 1) (by omega) (by omega)]
    have : gBad (a + l1.length) j l2[j] = false := by simp [gBad]; omega
    rw [this]; rfl
theorem check_l0 (a n : Int) (l1 : List S45) (l2 : List S55) (l3 l4 : List Int) (hs : Small l1 l2 l3 l4) (hw : Wf a l1 l2 l3 l4) (h0 : 0 ≤ a) (h1 : a ≤ 1000) (d : Nat) : ∀ (k j : Nat), j + d = l1.length → d + l2.length + 5 < k →
    spiritlevelref02_Check.l0 k n (j : Int) a l1 l2 l3 l4 = some (if (l1.drop j).any (latBad n) = true ∨ gsBad (a + l1.length) l2 = true then 8 else 0) := by
  have hs1 := hs.h1
  have hs2 := hs.h2
  induction d with
  | zero =>
    intro k j hj hk
    obtain ⟨k, rfl⟩ : ∃ m, k = m + 1 := ⟨k - 1, by omega⟩
    simp only [spiritlevelref02_Check.l0]
    rw [if_neg (by omega), List.drop_of_length_le (by omega), show (0 : Int) = ((0 : Nat) : Int) from rfl, check_l1 a l1 l2 l3 l4 hs hw h0 h1 l2.length k 0 (by omega) (by omega)]
    simp [gsBad, List.range_eq_range']
  | succ d ih =>
    intro k j hj hk
    obtain ⟨k, rfl⟩ : ∃ m, k = m + 1 := ⟨k - 1, by omega⟩
    have hlt : j < l1.length := by omega
    have hwj := hw.w1 l1[j] (List.getElem_mem hlt)
    simp only [spiritlevelref02_Check.l0]
    rw [if_pos (by omega), if_pos (by omega), List.drop_eq_getElem_cons hlt, List.any_cons, rdL_at l1 j hlt, literals_eq k _ n (by simp; exact hwj.1) (by simp) (by simp; omega)]
    simp only [Option.bind_some, List.any_cons, List.any_nil, Bool.or_false]
    by_cases c : litOut n l1[j].f0 = true
    · rw [if_neg (by simp [c]), if_pos (by simp [latBad, c])]
    rw [if_pos (by simp [c])]
    by_cases c2 : l1[j].f1 < 0
    · rw [if_pos c2, if_pos (by simp [latBad, c2])]
    rw [if_neg c2]
    by_cases c3 : l1[j].f1 > 2
    · rw [if_pos c3, if_pos (by simp [latBad, c3])]
    rw [if_neg c3, w64 _ (by omega) (by omega), show ((j : Int) + 1) = ((j + 1 : Nat) : Int) by omega, ih k (j + 1) (by omega) (by omega)]
    have : latBad n l1[j] = false := by simp [latBad, c]; omega
    simp [this]
theorem size_eq (a : Int) (l1 : List S45) (l2 : List S55) (l3 l4 : List Int) (hs : Small l1 l2 l3 l4) (h0 : 0 ≤ a) (h1 : a ≤ 1000) : spiritlevelref02_Size.f a l1 l2 l3 l4 = some (szS a l1 l2) := by
  have hs1 := hs.h1
  have hs2 := hs.h2
  unfold spiritlevelref02_Size.f szS
  rw [w64 (a + l1.length) (by omega) (by omega), w64 _ (by omega) (by omega)]
theorem rcheck_eq (k : Nat) (a : Int) (l1 : List S45) (l2 : List S55) (l3 l4 : List Int) (hs : Small l1 l2 l3 l4) (hw : Wf a l1 l2 l3 l4) (hk : 300 ≤ k) :
    spiritlevelref02_Check.f k a l1 l2 l3 l4 = some (checkR a l1 l2 l3 l4) := by
  have hs1 := hs.h1
  have hs2 := hs.h2
  have hs3 := hs.h3
  have hs4 := hs.h4
  obtain ⟨k, rfl⟩ : ∃ m, k = m + 3 := ⟨k - 3, by omega⟩
  unfold spiritlevelref02_Check.f checkR
  by_cases c0 : a < 0
  · rw [if_pos c0, if_pos c0]
  rw [if_neg c0, if_neg c0]
  have j0 : spiritlevelref02_Check.j0 (k + 3) true a l1 l2 l3 l4 = some 4 := by simp [spiritlevelref02_Check.j0]
  by_cases c1 : a > 1000
  · rw [if_pos c1, if_pos (Or.inl c1), j0]
  rw [if_neg c1, size_eq a l1 l2 l3 l4 hs (by omega) (by omega)]
  simp only [Option.bind_some]
  by_cases c2 : szS a l1 l2 > 1000
  · rw [if_pos c2, if_pos (Or.inr (Or.inl c2)), j0]
  rw [if_neg c2]
  by_cases c3 : (l3.length : Int) > 100
  · rw [if_pos c3, if_pos (by omega), j0]
  rw [if_neg c3]
  by_cases c4 : (l4.length : Int) > 100
  · rw [decide_eq_true c4, if_pos (by omega), j0]
  rw [decide_eq_false c4, if_neg (by omega)]
  simp only [spiritlevelref02_Check.j0]
  rw [if_neg (by decide), size_eq a l1 l2 l3 l4 hs (by omega) (by omega)]
  simp only [Option.bind_some]
  rw [literals_eq _ l3 _ hw.w3 (by omega) (by omega)]
  simp only [Option.bind_some]
  by_cases d3 : l3.any (litOut (szS a l1 l2)) = true
  · rw [if_neg (by simp [d3]), if_pos (Or.inl d3)]; simp [spiritlevelref02_Check.j1]
  rw [if_pos (by simp [d3]), literals_eq _ l4 _ hw.w4 (by omega) (by omega)]
  simp only [Option.bind_some]
  by_cases d4 : l4.any (litOut (szS a l1 l2)) = true
  · rw [if_pos (Or.inr (Or.inl d4)), d4]; simp [spiritlevelref02_Check.j1]
  have d4' : l4.any (litOut (szS a l1 l2)) = false := by simpa using d4
  rw [d4']
  simp only [spiritlevelref02_Check.j1, Bool.not_false, Bool.not_true]
  rw [if_neg (by decide), show (0 : Int) = ((0 : Nat) : Int) from rfl, check_l0 a _ l1 l2 l3 l4 hs hw (by omega) (by omega) l1.length _ 0 (by omega) (by omega)]
  simp [d3]
theorem gcheck_eq (a : Int) (l1 : List S45) (l2 : List S55) (l3 l4 : List Int) (hs : Small l1 l2 l3 l4) (hw : Wf a l1 l2 l3 l4) :
    gates_Check.f a l1 l2 l3 l4 = some (checkR a l1 l2 l3 l4) := by
  have hs1 := hs.h1
  have hs2 := hs.h2
  unfold gates_Check.f checkR
  congr 1
  by_cases c0 : a < 0
  · rw [if_pos c0, if_pos c0]
  rw [if_neg c0, if_neg c0]
  by_cases c1 : a > 1000
  · rw [if_pos c1, if_pos (Or.inl c1)]
  have e3 : st3 a l1.length l2.length = szS a l1 l2 + 1 := by
    unfold st3 st2 st1 szS
    rw [w64 (1 + a) (by omega) (by omega), w64 (1 + a + l1.length) (by omega) (by omega), w64 _ (by omega) (by omega)]
    omega
  have e2 : st2 a l1.length = a + l1.length + 1 := by
    unfold st2 st1
    rw [w64 (1 + a) (by omega) (by omega), w64 _ (by omega) (by omega)]
    omega
  have hz : 0 ≤ szS a l1 l2 ∧ szS a l1 l2 ≤ 1190 := by unfold szS; omega
  rw [if_neg c1, e3, w64 (szS a l1 l2 + 1 - 1) (by omega) (by omega), Int.add_sub_cancel]
  by_cases c2 : szS a l1 l2 > 1000
  · rw [if_pos c2, if_pos (Or.inr (Or.inl c2))]
  rw [if_neg c2]
  by_cases c3 : l3.length > 100 ∨ l4.length > 100
  · rw [if_pos (show (if (l3.length : Int) < (l4.length : Int) then (l4.length : Int) else (l3.length : Int)) > 100 by split <;> omega), if_pos (show a > 1000 ∨ szS a l1 l2 > 1000 ∨ l3.length > 100 ∨ l4.length > 100 by omega)]
  rw [if_neg (show ¬ (if (l3.length : Int) < (l4.length : Int) then (l4.length : Int) else (l3.length : Int)) > 100 by split <;> omega), if_neg (show ¬ (a > 1000 ∨ szS a l1 l2 > 1000 ∨ l3.length > 100 ∨ l4.length > 100) by omega)]
  have o : outS (szS a l1 l2 + 1) = litOut (szS a l1 l2) := by
    funext l
    unfold outS litOut
    congr 1
  have o2 : wrongS (szS a l1 l2 + 1) = latBad (szS a l1 l2) := by
    funext x
    unfold wrongS latBad
    rw [o]
  have o3 : gatesBad (st2 a l1.length) l2 = gsBad (a + l1.length) l2 := by
    unfold gatesBad gsBad
    rw [Bool.eq_iff_iff, List.any_eq_true, List.any_eq_true]
    have hp : ∀ i ∈ List.range l2.length, gateBad (st2 a l1.length) i (rd_T55 l2 i) = gBad (a + l1.length) i (rd_T55 l2 i) := by
      intro i hi
      rw [List.mem_range] at hi
      unfold gateBad gBad
      rw [e2, w64 (a + l1.length + 1 + i) (by omega) (by omega), w64 _ (by omega) (by omega)]
      congr 1
      exact decide_eq_decide.2 (by omega)
    constructor
    · rintro ⟨i, hi, h⟩; exact ⟨i, hi, by rw [← hp i hi]; exact h⟩
    · rintro ⟨i, hi, h⟩; exact ⟨i, hi, by rw [hp i hi]; exact h⟩
  rw [o, o2, o3]
  by_cases d3 : l3.any (litOut (szS a l1 l2)) = true
  · rw [if_pos d3, if_pos (Or.inl d3)]
  rw [if_neg d3]
  by_cases d4 : l4.any (litOut (szS a l1 l2)) = true
  · rw [if_pos d4, if_pos (Or.inr (Or.inl d4))]
  rw [if_neg d4]
  by_cases d5 : l1.any (latBad (szS a l1 l2)) = true
  · rw [if_pos d5, if_pos (Or.inr (Or.inr (Or.inl d5)))]
  rw [if_neg d5]
  by_cases d6 : gsBad (a + l1.length) l2 = true
  · rw [if_pos d6, if_pos (Or.inr (Or.inr (Or.inr d6)))]
  · rw [if_neg d6, if_neg (by simp [d3, d4, d5, d6])]

-- ref02's comparisons of equal circuits
theorem sameInts_l0 (l : List Int) (hl : l.length ≤ 100000) (d : Nat) : ∀ (k j : Nat), j + d = l.length → d < k → spiritlevelref02_SameInts.l0 k l l (j : Int) = some true := by
  induction d with
  | zero =>
    intro k j hj hk
    obtain ⟨k, rfl⟩ : ∃ m, k = m + 1 := ⟨k - 1, by omega⟩
    simp only [spiritlevelref02_SameInts.l0]
    rw [if_neg (by omega)]
  | succ d ih =>
    intro k j hj hk
    obtain ⟨k, rfl⟩ : ∃ m, k = m + 1 := ⟨k - 1, by omega⟩
    simp only [spiritlevelref02_SameInts.l0]
    rw [if_pos (by omega), if_pos (by omega), if_pos (by omega), if_pos trivial, w64 _ (by omega) (by omega), show ((j : Int) + 1) = ((j + 1 : Nat) : Int) by omega, ih k (j + 1) (by omega) (by omega)]
theorem sameInts_eq (k : Nat) (l : List Int) (hl : l.length ≤ 100000) (hk : l.length < k) : spiritlevelref02_SameInts.f k l l = some true := by
  unfold spiritlevelref02_SameInts.f
  rw [if_pos rfl]
  exact sameInts_l0 l hl l.length k 0 (by omega) hk
theorem same_l1 (a : Int) (l1 : List S45) (l2 : List S55) (l3 l4 : List Int) (hs : Small l1 l2 l3 l4) (d : Nat) : ∀ (k j : Nat), j + d = l2.length → d < k →
    spiritlevelref02_Same.l1 k (j : Int) a l1 l2 l3 l4 a l1 l2 l3 l4 = some true := by
  have hs2 := hs.h2
  induction d with
  | zero =>
    intro k j hj hk
    obtain ⟨k, rfl⟩ : ∃ m, k = m + 1 := ⟨k - 1, by omega⟩
    simp only [spiritlevelref02_Same.l1]
    rw [if_neg (by omega)]
  | succ d ih =>
    intro k j hj hk
    obtain ⟨k, rfl⟩ : ∃ m, k = m + 1 := ⟨k - 1, by omega⟩
    simp only [spiritlevelref02_Same.l1]
    rw [if_pos (by omega), if_pos (by omega), if_pos (by omega), if_neg (by simp), w64 _ (by omega) (by omega), show ((j : Int) + 1) = ((j + 1 : Nat) : Int) by omega, ih k (j + 1) (by omega) (by omega)]
theorem same_l0 (a : Int) (l1 : List S45) (l2 : List S55) (l3 l4 : List Int) (hs : Small l1 l2 l3 l4) (d : Nat) : ∀ (k j : Nat), j + d = l1.length → d + l2.length + 2 < k →
    spiritlevelref02_Same.l0 k (j : Int) a l1 l2 l3 l4 a l1 l2 l3 l4 = some true := by
  have hs1 := hs.h1
  induction d with
  | zero =>
    intro k j hj hk
    obtain ⟨k, rfl⟩ : ∃ m, k = m + 1 := ⟨k - 1, by omega⟩
    simp only [spiritlevelref02_Same.l0]
    rw [if_neg (by omega), show (0 : Int) = ((0 : Nat) : Int) from rfl, same_l1 a l1 l2 l3 l4 hs l2.length k 0 (by omega) (by omega)]
  | succ d ih =>
    intro k j hj hk
    obtain ⟨k, rfl⟩ : ∃ m, k = m + 1 := ⟨k - 1, by omega⟩
    simp only [spiritlevelref02_Same.l0]
    rw [if_pos (by omega), if_pos (by omega), if_pos (by omega), if_neg (by simp), w64 _ (by omega) (by omega), show ((j : Int) + 1) = ((j + 1 : Nat) : Int) by omega, ih k (j + 1) (by omega) (by omega)]
theorem same_eq (k : Nat) (a : Int) (l1 : List S45) (l2 : List S55) (l3 l4 : List Int) (hs : Small l1 l2 l3 l4) (hk : 300 ≤ k) :
    spiritlevelref02_Same.f k a l1 l2 l3 l4 a l1 l2 l3 l4 = some true := by
  have hs1 := hs.h1
  have hs2 := hs.h2
  have hs3 := hs.h3
  have hs4 := hs.h4
  obtain ⟨k, rfl⟩ : ∃ m, k = m + 1 := ⟨k - 1, by omega⟩
  unfold spiritlevelref02_Same.f
  rw [if_pos rfl, if_pos rfl, if_pos rfl, sameInts_eq _ l3 (by omega) (by omega)]
  simp only [Option.bind_some]
  rw [if_pos trivial, sameInts_eq _ l4 (by omega) (by omega)]
  simp only [Option.bind_some, Bool.not_true, spiritlevelref02_Same.j0]
  rw [if_neg (by decide), show (0 : Int) = ((0 : Nat) : Int) from rfl]
  exact same_l0 a l1 l2 l3 l4 hs l1.length k 0 (by omega) (by omega)

theorem checkR_ok (a : Int) (l1 : List S45) (l2 : List S55) (l3 l4 : List Int) (h : checkR a l1 l2 l3 l4 = 0) : 0 ≤ a ∧ a ≤ 1000 ∧ szS a l1 l2 ≤ 1000 := by
  unfold checkR at h
  by_cases c0 : a < 0
  · rw [if_pos c0] at h; omega
  rw [if_neg c0] at h
  by_cases c1 : a > 1000 ∨ szS a l1 l2 > 1000 ∨ l3.length > 100 ∨ l4.length > 100
  · rw [if_pos c1] at h; omega
  · omega
theorem gvars_eq (a : Int) (l1 : List S45) (l2 : List S55) (l3 l4 : List Int) (hs : Small l1 l2 l3 l4) (hw : Wf a l1 l2 l3 l4) :
    gates_Vars.f a l1 l2 l3 l4 = some (if checkR a l1 l2 l3 l4 = 0 then (szS a l1 l2, 0) else (0, checkR a l1 l2 l3 l4)) := by
  have hs1 := hs.h1
  have hs2 := hs.h2
  unfold gates_Vars.f
  rw [gcheck_eq a l1 l2 l3 l4 hs hw]
  simp only [Option.bind_some]
  by_cases h : checkR a l1 l2 l3 l4 = 0
  · obtain ⟨h0, h1, h2⟩ := checkR_ok _ _ _ _ _ h
    unfold szS at h2
    rw [if_pos h, if_pos h]
    unfold st3 st2 st1 szS
    rw [w64 (1 + a) (by omega) (by omega), w64 (1 + a + l1.length) (by omega) (by omega), w64 (1 + a + l1.length + l2.length) (by omega) (by omega), w64 _ (by omega) (by omega)]
    congr 2; omega
  · rw [if_neg h, if_neg h]

-- a valid circuit
/-- The gates are in order, behind so many variables. -/
def Gates (base : Nat) (gs : List S55) : Prop := ∀ (i : Nat) (h : i < gs.length), 0 ≤ gs[i].f1 ∧ gs[i].f1 ≤ gs[i].f0 ∧ gs[i].f0 / 2 < (base + i : Nat)
/-- What a valid circuit gives. -/
structure Good (a : Int) (l1 : List S45) (l2 : List S55) (l3 l4 : List Int) : Prop where
  a0 : 0 ≤ a
  a1 : a ≤ 1000
  n : szS a l1 l2 ≤ 1000
  g : Gates (1 + a.toNat + l1.length) l2
  l : ∀ x ∈ l1, (0 ≤ x.f0 ∧ x.f0 / 2 ≤ szS a l1 l2) ∧ (0 ≤ x.f1 ∧ x.f1 ≤ 2)
  b : ∀ x ∈ l3, 0 ≤ x ∧ x / 2 ≤ szS a l1 l2
  c : ∀ x ∈ l4, 0 ≤ x ∧ x / 2 ≤ szS a l1 l2
theorem litOut_in {n l : Int} (h : litOut n l = false) : 0 ≤ l ∧ l / 2 ≤ n := by
  simp only [litOut, Bool.or_eq_false_iff, decide_eq_false_iff_not] at h
  omega
theorem good_of (a : Int) (l1 : List S45) (l2 : List S55) (l3 l4 : List Int) (h : checkR a l1 l2 l3 l4 = 0) : Good a l1 l2 l3 l4 := by
  unfold checkR at h
  by_cases c0 : a < 0
  · rw [if_pos c0] at h; omega
  rw [if_neg c0] at h
  by_cases c1 : a > 1000 ∨ szS a l1 l2 > 1000 ∨ l3.length > 100 ∨ l4.length > 100
  · rw [if_pos c1] at h; omega
  rw [if_neg c1] at h
  by_cases c2 : l3.any (litOut (szS a l1 l2)) = true ∨ l4.any (litOut (szS a l1 l2)) = true ∨ l1.any (latBad (szS a l1 l2)) = true ∨ gsBad (a + l1.length) l2 = true
  · rw [if_pos c2] at h; omega
  have d3 : l3.any (litOut (szS a l1 l2)) = false := by
    cases e : l3.any (litOut (szS a l1 l2)) with
    | false => rfl
    | true => exact absurd (Or.inl e) c2
  have d4 : l4.any (litOut (szS a l1 l2)) = false := by
    cases e : l4.any (litOut (szS a l1 l2)) with
    | false => rfl
    | true => exact absurd (Or.inr (Or.inl e)) c2
  have d1 : l1.any (latBad (szS a l1 l2)) = false := by
    cases e : l1.any (latBad (szS a l1 l2)) with
    | false => rfl
    | true => exact absurd (Or.inr (Or.inr (Or.inl e))) c2
  have d2 : gsBad (a + l1.length) l2 = false := by
    cases e : gsBad (a + l1.length) l2 with
    | false => rfl
    | true => exact absurd (Or.inr (Or.inr (Or.inr e))) c2
  refine ⟨by omega, by omega, by omega, ?_, ?_, ?_, ?_⟩
  · intro i hi
    have := List.any_eq_false.1 d2 i (List.mem_range.2 hi)
    rw [rdA_at l2 i hi] at this
    simp [gBad] at this
    omega
  · intro x hx
    have := List.any_eq_false.1 d1 x hx
    simp only [latBad, Bool.not_eq_true, Bool.or_eq_false_iff, decide_eq_false_iff_not] at this
    exact ⟨litOut_in this.1.1, by omega⟩
  · intro x hx
    exact litOut_in (by simpa using List.any_eq_false.1 d3 x hx)
  · intro x hx
    exact litOut_in (by simpa using List.any_eq_false.1 d4 x hx)
theorem check_of (a : Int) (l1 : List S45) (l2 : List S55) (l3 l4 : List Int) (h : Good a l1 l2 l3 l4) (h3 : l3.length ≤ 100) (h4 : l4.length ≤ 100) : checkR a l1 l2 l3 l4 = 0 := by
  have ha0 := h.a0
  have ha1 := h.a1
  have hn := h.n
  unfold checkR
  rw [if_neg (by omega), if_neg (by omega), if_neg]
  rintro (c | c | c | c)
  · obtain ⟨x, hx, hb⟩ := List.any_eq_true.1 c
    have := h.b x hx
    simp [litOut] at hb
    omega
  · obtain ⟨x, hx, hb⟩ := List.any_eq_true.1 c
    have := h.c x hx
    simp [litOut] at hb
    omega
  · obtain ⟨x, hx, hb⟩ := List.any_eq_true.1 c
    have := h.l x hx
    simp [latBad, litOut] at hb
    omega
  · obtain ⟨i, hi, hb⟩ := List.any_eq_true.1 c
    have hi := List.mem_range.1 hi
    have := h.g i hi
    rw [rdA_at l2 i hi] at hb
    simp [gBad] at hb
    omega

theorem inc_len : ∀ (l : List Int) (lo hi : Int), l.Pairwise (· < ·) → (∀ x ∈ l, lo ≤ x ∧ x ≤ hi) → lo ≤ hi + 1 → (l.length : Int) ≤ hi - lo + 1
  | [], lo, hi, _, _, h => by simp; omega
  | x :: l, lo, hi, hp, hb, h => by
    rw [List.pairwise_cons] at hp
    have h1 := hb x (by simp)
    have := inc_len l (x + 1) hi hp.2 (fun y hy => ⟨by have := hp.1 y hy; omega, (hb y (by simp [hy])).2⟩) (by omega)
    simp only [List.length_cons]
    omega

-- cones: what a visit marks
def kidA (first : Int) (gs : List S55) (v : Nat) : Nat := ((rd_T55 gs ((v : Int) - first)).f0 / 2).toNat
def kidB (first : Int) (gs : List S55) (v : Nat) : Nat := ((rd_T55 gs ((v : Int) - first)).f1 / 2).toNat
/-- The variables that are reached from one. -/
def rch (first : Int) (gs : List S55) : Nat → Nat → Nat → Prop
  | 0, _, _ => False
  | k + 1, v, x => (v ≠ 0 ∧ x = v) ∨ (first ≤ (v : Int) ∧ (rch first gs k (kidA first gs v) x ∨ rch first gs k (kidB first gs v) x))
def Rch (first : Int) (gs : List S55) (v x : Nat) : Prop := rch first gs (v + 1) v x
def mk (l : List Bool) (x : Nat) : Prop := rdOf false l (x : Int) = true
theorem mk_set (l : List Bool) (v x : Nat) (h : v < l.length) : mk (l.set v true) x ↔ x = v ∨ mk l x := by
  unfold mk rdOf
  rw [Int.toNat_natCast, List.getD_eq_getElem?_getD, List.getD_eq_getElem?_getD]
  by_cases c : v = x
  · subst c
    rw [List.getElem?_set_self h]
    simp
  · rw [List.getElem?_set_ne c]
    constructor
    · exact Or.inr
    · rintro (e | e)
      · exact absurd e.symm c
      · exact e
theorem mk_none (N x : Nat) : ¬ mk (List.replicate N false) x := by
  unfold mk rdOf
  rw [List.getD_eq_getElem?_getD, List.getElem?_replicate]
  split <;> simp
/-- The parts of each gate are less. -/
structure Down (first : Int) (gs : List S55) (N : Nat) : Prop where
  pos : 0 < first
  len : (N : Int) = first + gs.length
  a : ∀ v : Nat, first ≤ (v : Int) → v < N → kidA first gs v < v
  b : ∀ v : Nat, first ≤ (v : Int) → v < N → kidB first gs v < v
section
variable {first : Int} {gs : List S55} {N : Nat} (hD : Down first gs N)
include hD
theorem rch_fuel : ∀ (k k' v x : Nat), v < k → v < k' → v < N → (rch first gs k v x ↔ rch first gs k' v x) := by
  intro k
  induction k with
  | zero => intro k' v x h; omega
  | succ k ih =>
    intro k' v x h h' hN
    obtain ⟨k', rfl⟩ : ∃ m, k' = m + 1 := ⟨k' - 1, by omega⟩
    unfold rch
    by_cases c : first ≤ (v : Int)
    · have ha := hD.a v c hN
      have hb := hD.b v c hN
      rw [ih k' (kidA first gs v) x (by omega) (by omega) (by omega), ih k' (kidB first gs v) x (by omega) (by omega) (by omega)]
    · constructor
      · rintro (e | e)
        · exact Or.inl e
        · exact absurd e.1 c
      · rintro (e | e)
        · exact Or.inl e
        · exact absurd e.1 c
theorem Rch_a (v x : Nat) (h : first ≤ (v : Int)) (hN : v < N) (hr : Rch first gs (kidA first gs v) x) : Rch first gs v x := by
  have ha := hD.a v h hN
  exact Or.inr ⟨h, Or.inl ((rch_fuel hD _ _ _ x (by omega) (by omega) (by omega)).1 hr)⟩
theorem Rch_b (v x : Nat) (h : first ≤ (v : Int)) (hN : v < N) (hr : Rch first gs (kidB first gs v) x) : Rch first gs v x := by
  have hb := hD.b v h hN
  exact Or.inr ⟨h, Or.inr ((rch_fuel hD _ _ _ x (by omega) (by omega) (by omega)).1 hr)⟩
theorem Rch_cases (v x : Nat) (hN : v < N) (h : Rch first gs v x) : (v ≠ 0 ∧ x = v) ∨ (first ≤ (v : Int) ∧ (Rch first gs (kidA first gs v) x ∨ Rch first gs (kidB first gs v) x)) := by
  rcases h with h | ⟨h0, h⟩
  · exact Or.inl h
  · have ha := hD.a v h0 hN
    have hb := hD.b v h0 hN
    refine Or.inr ⟨h0, h.imp (fun h => ?_) (fun h => ?_)⟩
    · exact (rch_fuel hD v _ _ x (by omega) (by omega) (by omega)).1 h
    · exact (rch_fuel hD v _ _ x (by omega) (by omega) (by omega)).1 h
theorem Rch_zero (x : Nat) : ¬ Rch first gs 0 x := by
  have := hD.pos
  rintro (h | ⟨h, _⟩)
  · exact h.1 rfl
  · omega
theorem Rch_le : ∀ (v x : Nat), v < N → Rch first gs v x → 1 ≤ x ∧ x ≤ v := by
  intro v
  induction v using Nat.strongRecOn with
  | _ v ih =>
    intro x hN h
    rcases Rch_cases hD v x hN h with ⟨h0, rfl⟩ | ⟨h0, h | h⟩
    · omega
    · have ha := hD.a v h0 hN
      have := ih _ ha x (by omega) h
      omega
    · have hb := hD.b v h0 hN
      have := ih _ hb x (by omega) h
      omega
omit hD in
/-- The parts are marked. -/
def Kids (first : Int) (gs : List S55) (l : List Bool) (x : Nat) : Prop := first ≤ (x : Int) → (kidA first gs x = 0 ∨ mk l (kidA first gs x)) ∧ (kidB first gs x = 0 ∨ mk l (kidB first gs x))
omit hD in
/-- What is put out is what is marked, once. -/
def Put (ins : List Bool) (outs : List Int) : Prop := outs.Nodup ∧ ∀ y, y ∈ outs ↔ ∃ x : Nat, y = (x : Int) ∧ mk ins x
omit hD in
theorem Kids_mono {l m : List Bool} {x : Nat} (h : ∀ x, mk l x → mk m x) (hk : Kids first gs l x) : Kids first gs m x := fun hf => ⟨(hk hf).1.imp id (h _), (hk hf).2.imp id (h _)⟩
theorem visit_spec : ∀ (k v : Nat) (ins : List Bool) (outs : List Int), v < k → v < N → ins.length = N → Put ins outs →
    (visitV first gs k v (ins, outs)).1.length = N ∧ Put (visitV first gs k v (ins, outs)).1 (visitV first gs k v (ins, outs)).2 ∧ (∀ x, mk ins x → mk (visitV first gs k v (ins, outs)).1 x) ∧ (∀ x, mk (visitV first gs k v (ins, outs)).1 x → mk ins x ∨ Rch first gs v x) ∧ (v = 0 ∨ mk (visitV first gs k v (ins, outs)).1 v) ∧ (∀ x, mk (visitV first gs k v (ins, outs)).1 x → mk ins x ∨ Kids first gs (visitV first gs k v (ins, outs)).1 x) := by
  intro k
  induction k with
  | zero => intro v _ _ h; omega
  | succ k ih =>
    intro v ins outs hv hN hl hP
    by_cases c : v = 0 ∨ rdOf false (ins, outs).1 (v : Int) = true
    · rw [visitV, if_pos c]
      exact ⟨hl, hP, fun _ h => h, fun _ h => Or.inl h, c, fun _ h => Or.inl h⟩
    · have c0 : v ≠ 0 := fun e => c (Or.inl e)
      have c1 : ¬ mk ins v := fun e => c (Or.inr e)
      have hs : ∀ x, mk (ins.set v true) x ↔ x = v ∨ mk ins x := fun x => mk_set ins v x (by omega)
      have hl1 : (ins.set v true).length = N := by rw [List.length_set]; exact hl
      have hP1 : Put (ins.set v true) (outs ++ [(v : Int)]) := by
        refine ⟨?_, fun y => ?_⟩
        · rw [List.nodup_append]
          refine ⟨hP.1, by simp, fun a ha b hb => ?_⟩
          rw [List.mem_singleton] at hb
          subst hb
          rintro rfl
          obtain ⟨x, e, hx⟩ := (hP.2 _).1 ha
          have : v = x := by omega
          subst this
          exact c1 hx
        · rw [List.mem_append, List.mem_singleton, hP.2]
          constructor
          · rintro (⟨x, e, hx⟩ | e)
            · exact ⟨x, e, (hs x).2 (Or.inr hx)⟩
            · exact ⟨v, e, (hs v).2 (Or.inl rfl)⟩
          · rintro ⟨x, e, hx⟩
            rcases (hs x).1 hx with rfl | hx
            · exact Or.inr e
            · exact Or.inl ⟨x, e, hx⟩
      have hself : Rch first gs v v := Or.inl ⟨c0, rfl⟩
      by_cases cF : first ≤ (v : Int)
      · have ha := hD.a v cF hN
        have hb := hD.b v cF hN
        have e : visitV first gs (k + 1) v (ins, outs) = visitV first gs k (kidB first gs v) (visitV first gs k (kidA first gs v) (ins.set v true, outs ++ [(v : Int)])) := by
          rw [visitV, if_neg c, if_pos cF]; rfl
        obtain ⟨a1, a2, a3, a4, a5, a6⟩ := ih (kidA first gs v) (ins.set v true) (outs ++ [(v : Int)]) (by omega) (by omega) hl1 hP1
        rw [e]
        generalize visitV first gs k (kidA first gs v) (ins.set v true, outs ++ [(v : Int)]) = s2 at a1 a2 a3 a4 a5 a6 ⊢
        obtain ⟨b1, b2, b3, b4, b5, b6⟩ := ih (kidB first gs v) s2.1 s2.2 (by omega) (by omega) a1 a2
        refine ⟨b1, b2, fun x h => b3 x (a3 x ((hs x).2 (Or.inr h))), fun x h => ?_, Or.inr (b3 v (a3 v ((hs v).2 (Or.inl rfl)))), fun x h => ?_⟩
        · rcases b4 x h with h | h
          · rcases a4 x h with h | h
            · rcases (hs x).1 h with rfl | h
              · exact Or.inr hself
              · exact Or.inl h
            · exact Or.inr (Rch_a hD v x cF hN h)
          · exact Or.inr (Rch_b hD v x cF hN h)
        · rcases b6 x h with h | h
          · rcases a6 x h with h | h
            · rcases (hs x).1 h with rfl | h
              · exact Or.inr fun _ => ⟨a5.imp id (b3 _), b5⟩
              · exact Or.inl h
            · exact Or.inr (Kids_mono b3 h)
          · exact Or.inr h
      · rw [visitV, if_neg c, if_neg cF]
        refine ⟨hl1, hP1, fun x h => (hs x).2 (Or.inr h), fun x h => ?_, Or.inr ((hs v).2 (Or.inl rfl)), fun x h => ?_⟩
        · rcases (hs x).1 h with rfl | h
          · exact Or.inr hself
          · exact Or.inl h
        · rcases (hs x).1 h with rfl | h
          · exact Or.inr fun hf => absurd hf cF
          · exact Or.inl h
theorem closed_reach (l : List Bool) (hk : ∀ x, mk l x → Kids first gs l x) : ∀ (u x : Nat), u < N → mk l u → Rch first gs u x → mk l x := by
  intro u
  induction u using Nat.strongRecOn with
  | _ u ih =>
    intro x hN hu h
    rcases Rch_cases hD u x hN h with ⟨h0, rfl⟩ | ⟨h0, h | h⟩
    · exact hu
    · have ha := hD.a u h0 hN
      rcases (hk u hu h0).1 with e | e
      · rw [e] at h; exact absurd h (Rch_zero hD x)
      · exact ih _ ha x (by omega) e h
    · have hb := hD.b u h0 hN
      rcases (hk u hu h0).2 with e | e
      · rw [e] at h; exact absurd h (Rch_zero hD x)
      · exact ih _ hb x (by omega) e h
omit hD in
/-- The cone of a variable, in order. -/
def coneL (first : Int) (gs : List S55) (N v : Nat) : List Int := sortI (visitV first gs (v + 1) v (List.replicate N false, [])).2
theorem coneL_spec (v : Nat) (hv : v < N) : (coneL first gs N v).Pairwise (· < ·) ∧ ∀ y, y ∈ coneL first gs N v ↔ ∃ x : Nat, y = (x : Int) ∧ Rch first gs v x := by
  have hP : Put (List.replicate N false) [] := ⟨List.nodup_nil, fun y => ⟨fun h => absurd h (by simp), fun ⟨x, _, hx⟩ => absurd hx (mk_none N x)⟩⟩
  obtain ⟨b1, b2, b3, b4, b5, b6⟩ := visit_spec hD (v + 1) v (List.replicate N false) [] (by omega) hv (by simp) hP
  unfold coneL
  generalize visitV first gs (v + 1) v (List.replicate N false, []) = s at b1 b2 b3 b4 b5 b6 ⊢
  have hall : ∀ x, mk s.1 x ↔ Rch first gs v x := fun x => by
    constructor
    · intro h
      rcases b4 x h with h | h
      · exact absurd h (mk_none N x)
      · exact h
    · intro h
      rcases b5 with e | e
      · rw [e] at h; exact absurd h (Rch_zero hD x)
      · exact closed_reach hD s.1 (fun x hx => (b6 x hx).resolve_left (mk_none N x)) v x hv e h
  constructor
  · have h1 := sortI_inc s.2
    have h2 : (sortI s.2).Nodup := (List.mergeSort_perm s.2 _).nodup_iff.2 b2.1
    have h3 := h1.and h2
    exact h3.imp fun h => by omega
  · intro y
    rw [sortI_mem, b2.2]
    constructor
    · rintro ⟨x, e, h⟩; exact ⟨x, e, (hall x).1 h⟩
    · rintro ⟨x, e, h⟩; exact ⟨x, e, (hall x).2 h⟩
end

theorem var_eq (k : Nat) (x : Int) (hk : 5 < k) (hw : -9223372036854775808 ≤ x ∧ x ≤ 9223372036854775807) : ∃ b, lits_Var.f k x = some (if 0 ≤ x ∧ x ≤ 2001 then (x / 2, b, 0) else (0, false, 2)) := by
  obtain ⟨k, rfl⟩ : ∃ m, k = m + 1 + 1 := ⟨k - 2, by omega⟩
  unfold lits_Var.f lits_check.f
  have e1 : wrap64 (0 + 1) = 1 := by unfold wrap64; omega
  have hr : rd [x] 0 = x := rfl
  by_cases c : 0 ≤ x ∧ x ≤ 2001
  · have e : lits_check.l0 (k + 1 + 1) [x] ((([x] : List Int).length : Nat) : Int) 0 = some 0 := by
      simp only [lits_check.l0, List.length_singleton, hr, e1]
      rw [if_pos (by decide), if_pos (by decide), if_pos (by decide), if_neg (by omega), if_neg (by omega), if_neg (by decide)]
    rw [e, Option.bind_some, if_pos rfl]
    exact ⟨(Go.bits .and .i64 x 1 == 1), by rw [if_pos c]⟩
  · have e : lits_check.l0 (k + 1 + 1) [x] ((([x] : List Int).length : Nat) : Int) 0 = some 2 := by
      simp only [lits_check.l0, List.length_singleton, hr, e1]
      rw [if_pos (by decide), if_pos (by decide), if_pos (by decide)]
      by_cases d : x < 0
      · rw [if_pos d]
      · rw [if_neg d, if_pos (by omega)]
    rw [e, Option.bind_some, if_neg (by decide)]
    exact ⟨false, by rw [if_neg c]⟩
/-- How many variables there are, 0 among them. -/
def allN (a : Int) (l1 : List S45) (l2 : List S55) : Nat := (szS a l1 l2 + 1).toNat
def coneR (a : Int) (l1 : List S45) (l2 : List S55) (l3 l4 : List Int) (l : Int) : List Int × Int :=
  if checkR a l1 l2 l3 l4 = 0 then (if l < 0 ∨ l / 2 > szS a l1 l2 then ([], 2) else (coneL (1 + a + l1.length) l2 (allN a l1 l2) (l / 2).toNat, 0)) else ([], checkR a l1 l2 l3 l4)
theorem good_gate {a : Int} {l1 : List S45} {l2 : List S55} {l3 l4 : List Int} (hg : Good a l1 l2 l3 l4) (i : Nat) (hi : i < l2.length) : 0 ≤ (rd_T55 l2 (i : Int)).f0 ∧ (rd_T55 l2 (i : Int)).f0 ≤ 2001 ∧ 0 ≤ (rd_T55 l2 (i : Int)).f1 ∧ (rd_T55 l2 (i : Int)).f1 ≤ 2001 ∧ (rd_T55 l2 (i : Int)).f0 / 2 < 1 + a + l1.length + i ∧ (rd_T55 l2 (i : Int)).f1 / 2 < 1 + a + l1.length + i := by
  obtain ⟨g0, g1, g2⟩ := hg.g i hi
  have ha := hg.a0
  have hn := hg.n
  unfold szS at hn
  rw [rdA_at l2 i hi]
  omega
theorem good_down {a : Int} {l1 : List S45} {l2 : List S55} {l3 l4 : List Int} (hg : Good a l1 l2 l3 l4) : Down (1 + a + l1.length) l2 (allN a l1 l2) := by
  have ha := hg.a0
  have hN : ((allN a l1 l2 : Nat) : Int) = 1 + a + l1.length + l2.length := by unfold allN szS; omega
  have key : ∀ v : Nat, 1 + a + (l1.length : Int) ≤ (v : Int) → v < allN a l1 l2 → ∃ i : Nat, i < l2.length ∧ (v : Int) - (1 + a + l1.length) = (i : Int) := fun v h1 h2 => ⟨((v : Int) - (1 + a + l1.length)).toNat, by omega, by omega⟩
  refine ⟨by omega, hN, fun v h1 h2 => ?_, fun v h1 h2 => ?_⟩
  · obtain ⟨i, hi, e⟩ := key v h1 h2
    have := good_gate hg i hi
    unfold kidA
    rw [e]
    omega
  · obtain ⟨i, hi, e⟩ := key v h1 h2
    have := good_gate hg i hi
    unfold kidB
    rw [e]
    omega
theorem gcone_eq (k : Nat) (a : Int) (l1 : List S45) (l2 : List S55) (l3 l4 : List Int) (l : Int) (hs : Small l1 l2 l3 l4) (hw : Wf a l1 l2 l3 l4) (hk : 5 < k) (hl : -9223372036854775808 ≤ l ∧ l ≤ 9223372036854775807) :
    gates_Cone.f k a l1 l2 l3 l4 l = some (coneR a l1 l2 l3 l4 l) := by
  unfold gates_Cone.f coneR
  rw [gvars_eq a l1 l2 l3 l4 hs hw, Option.bind_some]
  by_cases c : checkR a l1 l2 l3 l4 = 0
  · have hg := good_of a l1 l2 l3 l4 c
    have ha := hg.a0
    have hn := hg.n
    rw [if_pos c, if_pos c]
    dsimp only
    rw [if_pos rfl]
    obtain ⟨b, e⟩ := var_eq k l hk hl
    rw [e, Option.bind_some]
    by_cases d : 0 ≤ l ∧ l ≤ 2001
    · rw [if_pos d]
      dsimp only
      rw [if_pos rfl]
      by_cases f : l / 2 > szS a l1 l2
      · rw [if_pos f, if_pos (Or.inr f)]
      · have hok : coneOk a l1.length l2 = true := by
          unfold coneOk
          have hn' := hn
          unfold szS at hn'
          rw [Bool.and_eq_true, decide_eq_true_eq, List.all_eq_true]
          refine ⟨by omega, fun i hi => decide_eq_true ?_⟩
          exact good_gate hg i (List.mem_range.1 hi)
        rw [if_neg f, if_neg (show ¬ (l < 0 ∨ l / 2 > szS a l1 l2) by omega), if_pos ⟨hok, by omega, rfl⟩]
        rfl
    · rw [if_neg d]
      dsimp only
      rw [if_neg (by decide), if_pos (show l < 0 ∨ l / 2 > szS a l1 l2 by omega)]
  · rw [if_neg c, if_neg c]
    dsimp only
    rw [if_neg c]

theorem Rch_trans {first : Int} {gs : List S55} {N : Nat} (hD : Down first gs N) : ∀ (v z x : Nat), v < N → Rch first gs v z → Rch first gs z x → Rch first gs v x := by
  intro v
  induction v using Nat.strongRecOn with
  | _ v ih =>
    intro z x hN h1 h2
    rcases Rch_cases hD v z hN h1 with ⟨h0, rfl⟩ | ⟨h0, h | h⟩
    · exact h2
    · have ha := hD.a v h0 hN
      exact Rch_a hD v x h0 hN (ih _ ha z x (by omega) h h2)
    · have hb := hD.b v h0 hN
      exact Rch_b hD v x h0 hN (ih _ hb z x (by omega) h h2)
theorem coneR_of {a : Int} {l1 : List S45} {l2 : List S55} {l3 l4 : List Int} (c0 : checkR a l1 l2 l3 l4 = 0) (l : Int) (h0 : 0 ≤ l) (h1 : l / 2 ≤ szS a l1 l2) :
    coneR a l1 l2 l3 l4 l = (coneL (1 + a + l1.length) l2 (allN a l1 l2) (l / 2).toNat, 0) := by
  unfold coneR; rw [if_pos c0, if_neg (by omega)]
/-- What a cone of a valid circuit is. -/
structure IsCone (a : Int) (l1 : List S45) (l2 : List S55) (v : Nat) (C : List Int) : Prop where
  inc : C.Pairwise (· < ·)
  mem : ∀ y, y ∈ C ↔ ∃ x : Nat, y = (x : Int) ∧ Rch (1 + a + l1.length) l2 v x
  rng : ∀ y ∈ C, 1 ≤ y ∧ y ≤ v
  len : C.length ≤ 1000
theorem is_cone {a : Int} {l1 : List S45} {l2 : List S55} {l3 l4 : List Int} (hg : Good a l1 l2 l3 l4) (v : Nat) (hv : (v : Int) ≤ szS a l1 l2) : IsCone a l1 l2 v (coneL (1 + a + l1.length) l2 (allN a l1 l2) v) := by
  have ha := hg.a0
  have hn := hg.n
  have hvx : v < allN a l1 l2 := by unfold allN; omega
  obtain ⟨p1, p2⟩ := coneL_spec (good_down hg) v hvx
  have hrng : ∀ y ∈ coneL (1 + a + l1.length) l2 (allN a l1 l2) v, 1 ≤ y ∧ y ≤ v := fun y hy => by
    obtain ⟨z, rfl, hz⟩ := (p2 y).1 hy
    have := Rch_le (good_down hg) _ z hvx hz
    omega
  have := inc_len _ 1 1000 p1 (fun y hy => by have := hrng y hy; omega) (by omega)
  exact ⟨p1, p2, hrng, by omega⟩

theorem okH_of {a : Int} {l1 : List S45} {l2 : List S55} {l3 l4 : List Int} (hg : Good a l1 l2 l3 l4) (hs : Small l1 l2 l3 l4) : okH a l1 l2 l3 l4 = true := by
  have h0 := hg.a0
  have h1 := hg.a1
  have s1 := hs.h1
  have s2 := hs.h2
  have s3 := hs.h3
  have s4 := hs.h4
  unfold okH
  rw [Bool.and_eq_true, decide_eq_true_eq, List.all_eq_true]
  refine ⟨by omega, fun g hgm => ?_⟩
  obtain ⟨i, hi, rfl⟩ := List.getElem_of_mem hgm
  obtain ⟨b1, b2, b3⟩ := hg.g i hi
  unfold okG
  rw [decide_eq_true_eq]
  omega

theorem bx_eq (y : Int) (h0 : 0 ≤ y) (h1 : y < 9223372036854775807) : Go.bits .xor .i64 y 1 = if y % 2 = 0 then y + 1 else y - 1 := bxor1 y h0 h1
theorem bx_bx (y : Int) (h0 : 0 ≤ y) (h1 : y < 9223372036854775800) : Go.bits .xor .i64 (Go.bits .xor .i64 y 1) 1 = y := by
  rw [bx_eq y h0 (by omega)]
  split
  · rw [bx_eq _ (by omega) (by omega), if_neg (by omega)]; omega
  · rw [bx_eq _ (by omega) (by omega), if_pos (by omega)]; omega
theorem findG_some {first : Int} {gs : List S55} {x y l : Int} (h : findG first gs x y = some l) : ∃ (i : Nat) (hi : i < gs.length), l = 2 * (first + (i : Int)) ∧ gs[i].f0 = x ∧ gs[i].f1 = y := by
  unfold findG at h
  obtain ⟨i, hi, rfl⟩ := Option.map_eq_some_iff.1 h
  obtain ⟨hlt, hp, _⟩ := List.findIdx?_eq_some_iff_getElem.1 hi
  have := of_decide_eq_true hp
  exact ⟨i, hlt, rfl, this.1, this.2⟩
theorem mx_comm (x y : Int) : mx x y = mx y x := by unfold mx; split <;> split <;> omega
theorem mn_comm (x y : Int) : mn x y = mn y x := by unfold mn; split <;> split <;> omega
theorem andP_cases (first : Int) (gs : List S55) (x y : Int) : (andP first gs x y).1 = gs ∨ ((andP first gs x y) = (gs ++ [⟨mx x y, mn x y⟩], 2 * (first + (gs.length : Int))) ∧ x ≠ 0 ∧ y ≠ 0 ∧ x ≠ 1 ∧ y ≠ 1 ∧ x ≠ y ∧ x ≠ Go.bits .xor .i64 y 1 ∧ findG first gs (mx x y) (mn x y) = none) := by
  unfold andP
  split
  · exact Or.inl rfl
  · rename_i c1
    split
    · exact Or.inl rfl
    · rename_i c2
      split
      · exact Or.inl rfl
      · rename_i c3
        cases e : findG first gs (mx x y) (mn x y) with
        | some l => exact Or.inl rfl
        | none => exact Or.inr ⟨rfl, fun h => c1 (Or.inl h), fun h => c1 (Or.inr (Or.inl h)), fun h => c2 (Or.inl h), c3, fun h => c2 (Or.inr h), fun h => c1 (Or.inr (Or.inr h)), rfl⟩

theorem findG_new (first : Int) (gs : List S55) (p q : Int) (h : findG first gs p q = none) : findG first (gs ++ [⟨p, q⟩]) p q = some (2 * (first + (gs.length : Int))) := by
  have := congrFun (congrFun (findG_push first gs p q h) p) q
  rw [← this, if_pos ⟨rfl, rfl⟩]
/-- Built again, with its parts exchanged, it is the same. -/
theorem andP_again (first : Int) (gs : List S55) (x y : Int) (x0 : 0 ≤ x) (x1 : x < 1000000) (y0 : 0 ≤ y) (y1 : y < 1000000) : andP first (andP first gs x y).1 y x = andP first gs x y := by
  have hbb : ∀ u v : Int, 0 ≤ u → u < 1000000 → u = Go.bits .xor .i64 v 1 → 0 ≤ v → v < 1000000 → v = Go.bits .xor .i64 u 1 := fun u v hu hu2 h hv hv2 => by rw [h, bx_bx v hv (by omega)]
  by_cases c1 : x = 0 ∨ y = 0 ∨ x = Go.bits .xor .i64 y 1
  · have e : andP first gs x y = (gs, 0) := by unfold andP; rw [if_pos c1]
    rw [e]
    unfold andP
    rw [if_pos]
    rcases c1 with h | h | h
    · exact Or.inr (Or.inl h)
    · exact Or.inl h
    · exact Or.inr (Or.inr (hbb x y x0 x1 h y0 y1))
  have c1' : ¬ (y = 0 ∨ x = 0 ∨ y = Go.bits .xor .i64 x 1) := by
    rintro (h | h | h)
    · exact c1 (Or.inr (Or.inl h))
    · exact c1 (Or.inl h)
    · exact c1 (Or.inr (Or.inr (hbb y x y0 y1 h x0 x1)))
  by_cases c2 : x = 1 ∨ x = y
  · have e : andP first gs x y = (gs, y) := by unfold andP; rw [if_neg c1, if_pos c2]
    rw [e]
    unfold andP
    rw [if_neg c1']
    rcases c2 with h | h
    · subst h
      by_cases d : y = 1 ∨ y = 1
      · rw [if_pos d]
        rcases d with d | d <;> rw [d]
      · rw [if_neg d, if_pos rfl]
    · subst h
      rw [if_pos (Or.inr rfl)]
  by_cases c3 : y = 1
  · have e : andP first gs x y = (gs, x) := by unfold andP; rw [if_neg c1, if_neg c2, if_pos c3]
    rw [e]
    unfold andP
    rw [if_neg c1', if_pos (Or.inl c3)]
  have c2' : ¬ (y = 1 ∨ y = x) := by
    rintro (h | h)
    · exact c3 h
    · exact c2 (Or.inr h.symm)
  have c3' : ¬ x = 1 := fun h => c2 (Or.inl h)
  cases e : findG first gs (mx x y) (mn x y) with
  | some l =>
    have e1 : andP first gs x y = (gs, l) := by unfold andP; rw [if_neg c1, if_neg c2, if_neg c3, e]
    rw [e1]
    unfold andP
    rw [if_neg c1', if_neg c2', if_neg c3', mx_comm y x, mn_comm y x, e]
  | none =>
    have e1 : andP first gs x y = (gs ++ [⟨mx x y, mn x y⟩], 2 * (first + (gs.length : Int))) := by unfold andP; rw [if_neg c1, if_neg c2, if_neg c3, e]
    rw [e1]
    unfold andP
    rw [if_neg c1', if_neg c2', if_neg c3', mx_comm y x, mn_comm y x, findG_new first gs _ _ e]

structure Fine (first : Int) (gs : List S55) : Prop where
  ok : ∀ (i : Nat) (h : i < gs.length), 2 ≤ gs[i].f1 ∧ gs[i].f1 < gs[i].f0 ∧ gs[i].f0 ≠ Go.bits .xor .i64 gs[i].f1 1 ∧ gs[i].f0 / 2 < first + (i : Int)
  one : ∀ (i j : Nat) (hi : i < gs.length) (hj : j < gs.length), i < j → ¬ (gs[i].f0 = gs[j].f0 ∧ gs[i].f1 = gs[j].f1)
theorem fine_nil (first : Int) : Fine first [] := ⟨fun i h => absurd h (by simp), fun i j hi => absurd hi (by simp)⟩
theorem findG_miss {first : Int} {gs : List S55} {p q : Int} (h : findG first gs p q = none) (i : Nat) (hi : i < gs.length) : ¬ (gs[i].f0 = p ∧ gs[i].f1 = q) := by
  unfold findG at h
  rw [Option.map_eq_none_iff, List.findIdx?_eq_none_iff] at h
  have := h _ (List.getElem_mem hi)
  simpa using this
theorem fine_step {first : Int} {gs : List S55} {x y : Int} (hf : 1 ≤ first) (h : Fine first gs) (x0 : 0 ≤ x) (x1 : x / 2 < first + (gs.length : Int)) (y0 : 0 ≤ y) (y1 : y / 2 < first + (gs.length : Int)) (hx : x < 1000000) (hy : y < 1000000) :
    Fine first (andP first gs x y).1 ∧ 0 ≤ (andP first gs x y).2 ∧ (andP first gs x y).2 / 2 < first + ((andP first gs x y).1.length : Int) := by
  rcases andP_cases first gs x y with e | ⟨e, c0, c1, c2, c3, c4, c5, c6⟩
  · rw [e]
    refine ⟨h, ?_⟩
    unfold andP
    split
    · dsimp only; omega
    · split
      · dsimp only; omega
      · split
        · dsimp only; omega
        · split
          · rename_i l hl
            obtain ⟨i, hi, rfl, -, -⟩ := findG_some hl
            dsimp only; omega
          · rename_i hl
            dsimp only
            exfalso
            unfold andP at e
            simp_all
  · rw [e]
    dsimp only
    have hm : 2 ≤ mn x y ∧ mn x y < mx x y ∧ mx x y / 2 < first + (gs.length : Int) ∧ mx x y ≠ Go.bits .xor .i64 (mn x y) 1 := by
      have h2 : y ≠ Go.bits .xor .i64 x 1 := fun h => c5 (by rw [h, bx_bx x x0 (by omega)])
      unfold mx mn
      split <;> split <;> first | omega | (refine ⟨by omega, by omega, by omega, ?_⟩; assumption)
    refine ⟨⟨fun i hi => ?_, fun i j hi hj hij => ?_⟩, by omega, by rw [List.length_append, List.length_singleton]; omega⟩
    · by_cases c : i < gs.length
      · rw [List.getElem_append_left c]
        exact h.ok i c
      · have hi2 : i = gs.length := by rw [List.length_append, List.length_singleton] at hi; omega
        subst hi2
        simp only [List.getElem_concat_length]
        exact ⟨hm.1, hm.2.1, hm.2.2.2, hm.2.2.1⟩
    · have hjl : j ≤ gs.length := by rw [List.length_append, List.length_singleton] at hj; omega
      have hil : i < gs.length := by omega
      rw [List.getElem_append_left hil]
      by_cases c : j < gs.length
      · rw [List.getElem_append_left c]
        exact h.one i j hil c hij
      · have hj2 : j = gs.length := by omega
        subst hj2
        simp only [List.getElem_concat_length]
        exact findG_miss c6 i hil

theorem findG_none' {first : Int} {gs : List S55} {p q : Int} (hn : ∀ (j : Nat) (hj : j < gs.length), ¬ (gs[j].f0 = p ∧ gs[j].f1 = q)) : findG first gs p q = none := by
  unfold findG
  have : gs.findIdx? (fun g => decide (g.f0 = p ∧ g.f1 = q)) = none := by
    rw [List.findIdx?_eq_none_iff]
    intro g hg
    obtain ⟨j, hj, rfl⟩ := List.getElem_of_mem hg
    exact decide_eq_false (hn j hj)
  rw [this]; rfl
theorem sgn_lit {T : List Int} {B : Int} (hT : ∀ t ∈ T, 0 ≤ t ∧ t / 2 < B) (hB : B ≤ 100000) (l : Int) (h0 : 0 ≤ l) (h1 : l / 2 < T.length) (h2 : l ≤ 1000000) : 0 ≤ sgnP T l ∧ sgnP T l / 2 < B := by
  have hm := hT _ (rd_mem T (l / 2) (by omega) h1)
  rw [sgnP_eq T l h0 (by omega) hm.1 (by omega)]
  unfold notH
  split
  · exact hm
  · split <;> omega
structure InvB (first : Int) (k : Nat) (s : List S55 × List Int) : Prop where
  fine : Fine first s.1
  len : s.2.length = k
  cnt : s.1.length = 0 ∨ first + (s.1.length : Int) ≤ (k : Int)
  lits : ∀ t ∈ s.2, 0 ≤ t ∧ t / 2 < first + (s.1.length : Int)
theorem inv_step {first : Int} {ands : List S55} {given : List Int} {ins : Int} {k : Nat} (hf : 1 ≤ first) (ha : okA first ands = true) (hg : badG ins given k = false) (hk : (k : Int) < first + (ands.length : Int)) (hN : first + (ands.length : Int) ≤ 50000) {s : List S55 × List Int} (h : InvB first k s) : InvB first (k + 1) (stepB first ands given s) := by
  obtain ⟨h1, h2, h3, h4⟩ := h
  have hB : first + (s.1.length : Int) ≤ 100000 := by omega
  unfold stepB
  rw [h2]
  by_cases c : 0 ≤ rd given (k : Int)
  · rw [if_pos c]
    have hb := badG_not hg c
    have hs := sgn_lit h4 hB _ c (by rw [h2]; omega) (by omega)
    refine ⟨h1, by dsimp only; rw [List.length_append, List.length_singleton, h2], by dsimp only; omega, fun t ht => ?_⟩
    rcases List.mem_append.1 ht with ht | ht
    · exact h4 t ht
    · rw [List.mem_singleton.1 ht]; exact hs
  · rw [if_neg c]
    by_cases c1 : (k : Int) < first
    · rw [if_pos c1]
      refine ⟨h1, by dsimp only; rw [List.length_append, List.length_singleton, h2], by dsimp only; omega, fun t ht => ?_⟩
      rcases List.mem_append.1 ht with ht | ht
      · exact h4 t ht
      · rw [List.mem_singleton.1 ht]; dsimp only; omega
    · rw [if_neg c1]
      obtain ⟨i, hi⟩ : ∃ i : Nat, (i : Int) = (k : Int) - first := ⟨((k : Int) - first).toNat, by omega⟩
      obtain ⟨a0, a1, a2, a3⟩ := okA_at ha i (by omega)
      rw [← hi]
      have hs := sgn_lit h4 hB _ a0 (by rw [h2]; omega) (by omega)
      have ht := sgn_lit h4 hB _ a2 (by rw [h2]; omega) (by omega)
      generalize sgnP s.2 (rd_T55 ands (i : Int)).f0 = x at *
      generalize sgnP s.2 (rd_T55 ands (i : Int)).f1 = y at *
      obtain ⟨f1, f2, f3⟩ := fine_step hf h1 hs.1 hs.2 ht.1 ht.2 (by omega) (by omega)
      have hl := andP_len first s.1 x y
      have hge : s.1.length ≤ (andP first s.1 x y).1.length := by
        rcases andP_cases first s.1 x y with e | ⟨e, -⟩
        · rw [e]; exact Nat.le_refl _
        · rw [e]; simp
      refine ⟨f1, by dsimp only; rw [List.length_append, List.length_singleton, h2], by dsimp only; omega, fun t ht => ?_⟩
      rcases List.mem_append.1 ht with ht | ht
      · have := h4 t ht; dsimp only; omega
      · rw [List.mem_singleton.1 ht]; exact ⟨f2, f3⟩
theorem inv_run {first : Int} {ands : List S55} {given : List Int} {ins : Int} (hf : 1 ≤ first) (ha : okA first ands = true) (hN : first + (ands.length : Int) ≤ 50000) : ∀ k : Nat, (k : Int) ≤ first + (ands.length : Int) → (∀ v : Nat, v < k → badG ins given v = false) → InvB first k (runB first ands given k)
  | 0, _, _ => ⟨fine_nil first, rfl, Or.inl rfl, fun t ht => absurd ht (by simp [runB])⟩
  | k + 1, hk, hg => inv_step hf ha (hg k (by omega)) (by omega) hN (inv_run hf ha hN k (by omega) (fun v hv => hg v (by omega)))
theorem sgn_id (k : Nat) (hk : k ≤ 50000) (l : Int) (h0 : 0 ≤ l) (h1 : l / 2 < (k : Int)) : sgnP ((List.range k).map (fun v : Nat => 2 * (v : Int))) l = l := by
  obtain ⟨n, hn⟩ : ∃ n : Nat, l / 2 = (n : Int) := ⟨(l / 2).toNat, by omega⟩
  have hr : rd ((List.range k).map (fun v : Nat => 2 * (v : Int))) (l / 2) = 2 * (l / 2) := by
    rw [hn, rd_at _ n (by simp; omega)]
    simp
  rw [sgnP_eq _ l h0 (by omega) (by rw [hr]; omega) (by rw [hr]; omega), hr]
  unfold notH
  split
  · omega
  · rw [if_pos (by omega)]; omega
theorem rerun {first : Int} {F : Nat} (hF : first = (F : Int)) {G : List S55} (hf : 1 ≤ first) (h : Fine first G) (N : Nat) (hN : N = F + G.length) (hN2 : N ≤ 50000) : ∀ k : Nat, k ≤ N → runB first G (List.replicate N (-1)) k = (G.take (k - F), (List.range k).map (fun v : Nat => 2 * (v : Int)))
  | 0, _ => by simp [runB]
  | k + 1, hk => by
    rw [runB, rerun hF hf h N hN hN2 k (by omega)]
    have hl : ((List.range k).map (fun v : Nat => 2 * (v : Int))).length = k := by simp
    have hr : rd (List.replicate N (-1)) (k : Int) = -1 := by
      rw [rd_at _ k (by simp; omega)]; simp
    have hT : (List.range (k + 1)).map (fun v : Nat => 2 * (v : Int)) = (List.range k).map (fun v : Nat => 2 * (v : Int)) ++ [2 * (k : Int)] := by
      rw [List.range_succ, List.map_append]; rfl
    unfold stepB
    dsimp only
    rw [hl, hr, if_neg (by decide)]
    by_cases c : (k : Int) < first
    · rw [if_pos c, hT, show k + 1 - F = 0 by omega, show k - F = 0 by omega]
    · rw [if_neg c]
      obtain ⟨i, hi⟩ : ∃ i : Nat, k = F + i := ⟨k - F, by omega⟩
      have hi2 : i < G.length := by omega
      have e1 : (k : Int) - first = (i : Int) := by omega
      have er : rd_T55 G (i : Int) = G[i] := by simp [rd_T55, List.getD, hi2]
      obtain ⟨b1, b2, b3, b4⟩ := h.ok i hi2
      have eg : findG first (G.take i) G[i].f0 G[i].f1 = none := findG_none' (fun j hj => by
        rw [List.length_take] at hj
        rw [List.getElem_take]
        exact h.one j i (by omega) hi2 (by omega))
      have ea : andP first (G.take i) G[i].f0 G[i].f1 = (G.take i ++ [G[i]], 2 * (first + (i : Int))) := by
        have em : mx G[i].f0 G[i].f1 = G[i].f0 := by unfold mx; split <;> omega
        have en : mn G[i].f0 G[i].f1 = G[i].f1 := by unfold mn; split <;> omega
        unfold andP
        rw [if_neg (by rintro (h | h | h); omega; omega; exact b3 h), if_neg (by rintro (h | h) <;> omega), if_neg (by omega), em, en, eg]
        dsimp only
        rw [List.length_take, Nat.min_eq_left (by omega)]
      rw [e1, er, sgn_id k (by omega) _ (by omega) (by omega), sgn_id k (by omega) _ (by omega) (by omega), show k - F = i by omega, show k + 1 - F = i + 1 by omega, ea, hT, List.take_succ_eq_append_getElem hi2]
      dsimp only
      rw [show 2 * (first + (i : Int)) = 2 * (k : Int) by omega]

theorem okC_of {a : Int} {l1 : List S45} {l2 : List S55} {l3 l4 g : List Int} (hg : Good a l1 l2 l3 l4) (hs : Small l1 l2 l3 l4) (h : g.length ≤ 60000) : okC a l1 l2 l3 l4 g = true := by
  have ho := okH_of hg hs
  unfold okC okA
  simp only [Bool.and_eq_true, decide_eq_true_eq, List.all_eq_true]
  refine ⟨⟨⟨⟨⟨ho, fun i hi => ?_⟩, h⟩, fun x hx => ?_⟩, fun x hx => ?_⟩, fun x hx => ?_⟩
  · have hi := List.mem_range.1 hi
    obtain ⟨b1, b2, b3⟩ := hg.g i hi
    have er : rd_T55 l2 (i : Int) = l2[i] := by simp [rd_T55, List.getD, hi]
    have := hg.a0
    rw [er]; omega
  · have := (hg.l x hx).1; unfold szS at this; omega
  · have := hg.b x hx; unfold szS at this; omega
  · have := hg.c x hx; unfold szS at this; omega
theorem lens_of {a : Int} {l1 : List S45} {l2 : List S55} {l3 l4 : List Int} (h : checkR a l1 l2 l3 l4 = 0) : l3.length ≤ 100 ∧ l4.length ≤ 100 := by
  unfold checkR at h
  by_cases c0 : a < 0
  · rw [if_pos c0] at h; omega
  · rw [if_neg c0] at h
    by_cases c1 : a > 1000 ∨ szS a l1 l2 > 1000 ∨ l3.length > 100 ∨ l4.length > 100
    · rw [if_pos c1] at h; omega
    · omega
theorem built_good {a : Int} {l1 : List S45} {l2 G : List S55} {l3 l4 T : List Int} {N : Nat} (hg : Good a l1 l2 l3 l4) (hi : InvB (a + (l1.length : Int) + 1) N (G, T)) (hN : (N : Int) = szS a l1 l2 + 1) :
    Good a (l1.map (fun x => (⟨sgnP T x.f0, x.f1⟩ : S45))) G (l3.map (sgnP T)) (l4.map (sgnP T)) ∧ G.length ≤ l2.length := by
  obtain ⟨h1, h2, h3, h4⟩ := hi
  dsimp only at h1 h2 h3 h4
  have ha0 := hg.a0
  have ha1 := hg.a1
  have hn := hg.n
  have hG : G.length ≤ l2.length := by unfold szS at hN; omega
  have hz : szS a (l1.map (fun x => (⟨sgnP T x.f0, x.f1⟩ : S45))) G = a + (l1.length : Int) + (G.length : Int) := by unfold szS; rw [List.length_map]
  have hB : a + (l1.length : Int) + 1 + (G.length : Int) ≤ 100000 := by unfold szS at hn; omega
  have key : ∀ x : Int, 0 ≤ x → x / 2 ≤ szS a l1 l2 → 0 ≤ sgnP T x ∧ sgnP T x / 2 ≤ a + (l1.length : Int) + (G.length : Int) := fun x x0 x1 => by
    have := sgn_lit h4 hB x x0 (by omega) (by omega)
    omega
  refine ⟨⟨ha0, ha1, by rw [hz]; unfold szS at hn; omega, fun i hi => ?_, fun x hx => ?_, fun x hx => ?_, fun x hx => ?_⟩, hG⟩
  · obtain ⟨b1, b2, b3, b4⟩ := h1.ok i hi
    rw [List.length_map]
    refine ⟨by omega, by omega, by omega⟩
  · obtain ⟨y, hy, rfl⟩ := List.mem_map.1 hx
    obtain ⟨b1, b2⟩ := hg.l y hy
    rw [hz]
    exact ⟨key _ b1.1 b1.2, b2⟩
  · obtain ⟨y, hy, rfl⟩ := List.mem_map.1 hx
    obtain ⟨b1, b2⟩ := hg.b y hy
    rw [hz]
    exact key _ b1 b2
  · obtain ⟨y, hy, rfl⟩ := List.mem_map.1 hx
    obtain ⟨b1, b2⟩ := hg.c y hy
    rw [hz]
    exact key _ b1 b2
theorem good_wf {a : Int} {l1 : List S45} {l2 : List S55} {l3 l4 : List Int} (hg : Good a l1 l2 l3 l4) (h2 : l2.length ≤ 130) : Wf a l1 l2 l3 l4 := by
  have ha0 := hg.a0
  have ha1 := hg.a1
  have hn := hg.n
  refine ⟨by omega, fun x hx => ?_, fun x hx => ?_, fun x hx => ?_, fun x hx => ?_⟩
  · have := hg.l x hx; omega
  · obtain ⟨i, hi, rfl⟩ := List.getElem_of_mem hx
    obtain ⟨b1, b2, b3⟩ := hg.g i hi
    unfold szS at hn
    omega
  · have := hg.b x hx; omega
  · have := hg.c x hx; omega

/-- What a circuit that is valid is when it is built with literals that are given. -/
theorem built_of {a : Int} {l1 : List S45} {l2 : List S55} {l3 l4 g : List Int} (hs : Small l1 l2 l3 l4) (c : checkR a l1 l2 l3 l4 = 0) (hgl : (g.length : Int) = szS a l1 l2 + 1) (hgb : ∀ v : Nat, v < g.length → badG a g v = false) :
    checkR a (l1.map (fun x => (⟨sgnP (builtP a l1 l2 g).2 x.f0, x.f1⟩ : S45))) (builtP a l1 l2 g).1 (l3.map (sgnP (builtP a l1 l2 g).2)) (l4.map (sgnP (builtP a l1 l2 g).2)) = 0 ∧ Small (l1.map (fun x => (⟨sgnP (builtP a l1 l2 g).2 x.f0, x.f1⟩ : S45))) (builtP a l1 l2 g).1 (l3.map (sgnP (builtP a l1 l2 g).2)) (l4.map (sgnP (builtP a l1 l2 g).2)) ∧ Wf a (l1.map (fun x => (⟨sgnP (builtP a l1 l2 g).2 x.f0, x.f1⟩ : S45))) (builtP a l1 l2 g).1 (l3.map (sgnP (builtP a l1 l2 g).2)) (l4.map (sgnP (builtP a l1 l2 g).2)) ∧ (builtP a l1 l2 g).2.length = g.length := by
  have hg := good_of a l1 l2 l3 l4 c
  have ha0 := hg.a0
  have ha1 := hg.a1
  have hn := hg.n
  have hs1 := hs.h1
  have hs2 := hs.h2
  have hs3 := hs.h3
  have hs4 := hs.h4
  have hA : okA (a + (l1.length : Int) + 1) l2 = true := by
    have := okC_of (g := g) hg hs (by unfold szS at *; omega)
    unfold okC at this
    simp only [Bool.and_eq_true] at this
    exact this.1.1.1.1.2
  have hinv : InvB (a + (l1.length : Int) + 1) g.length (builtP a l1 l2 g) := inv_run (by omega) hA (by unfold szS at hn; omega) g.length (by unfold szS at hgl; omega) hgb
  generalize builtP a l1 l2 g = bp at *
  obtain ⟨G, T⟩ := bp
  obtain ⟨hgx, hGl⟩ := built_good hg hinv hgl
  have hlx := lens_of c
  have hT : T.length = g.length := hinv.len
  dsimp only
  have hsx : Small (l1.map (fun x => (⟨sgnP T x.f0, x.f1⟩ : S45))) G (l3.map (sgnP T)) (l4.map (sgnP T)) := ⟨by rw [List.length_map]; omega, by omega, by rw [List.length_map]; omega, by rw [List.length_map]; omega⟩
  exact ⟨check_of a _ G _ _ hgx (by rw [List.length_map]; omega) (by rw [List.length_map]; omega), hsx, good_wf hgx hsx.h2, hT⟩

theorem hbuild_ok {a : Int} {l1 : List S45} {l2 : List S55} {l3 l4 g : List Int} (hs : Small l1 l2 l3 l4) (hw : Wf a l1 l2 l3 l4) (c : checkR a l1 l2 l3 l4 = 0) (hgl : (g.length : Int) = szS a l1 l2 + 1) (hgb : ∀ v : Nat, v < g.length → badG a g v = false) :
    hash_Build.f a l1 l2 l3 l4 g = some (a, l1.map (fun x => ⟨sgnP (builtP a l1 l2 g).2 x.f0, x.f1⟩), (builtP a l1 l2 g).1, l3.map (sgnP (builtP a l1 l2 g).2), l4.map (sgnP (builtP a l1 l2 g).2), (builtP a l1 l2 g).2, 0) := by
  have hg := good_of a l1 l2 l3 l4 c
  have hn := hg.n
  unfold hash_Build.f
  rw [gvars_eq a l1 l2 l3 l4 hs hw, if_pos c, Option.bind_some]
  dsimp only
  rw [if_pos rfl, if_pos ⟨okC_of hg hs (by omega), rfl⟩, if_neg]
  rintro (h | h)
  · exact h hgl
  · obtain ⟨v, hv, hb⟩ := List.any_eq_true.1 h
    rw [hgb v (List.mem_range.1 hv)] at hb
    exact absurd hb (by decide)

-- building with more constants
theorem notH_notH (x : Int) (h : 0 ≤ x) : notH (notH x) = x := by unfold notH; split <;> split <;> omega
theorem notH_lit {x B : Int} (h : 0 ≤ x ∧ x / 2 < B) : 0 ≤ notH x ∧ notH x / 2 < B := by unfold notH; split <;> omega
theorem sgn_rd (T : List Int) (B : Int) (hT : ∀ t ∈ T, 0 ≤ t ∧ t / 2 < B) (hB : B ≤ 100000) (l : Int) (h0 : 0 ≤ l) (h1 : l / 2 < T.length) (h2 : l ≤ 1000000) : sgnP T l = if l % 2 = 0 then rd T (l / 2) else notH (rd T (l / 2)) := by
  have := hT _ (rd_mem T (l / 2) (by omega) h1)
  exact sgnP_eq T l h0 (by omega) this.1 (by omega)
theorem sgn_not {T : List Int} {B : Int} (hT : ∀ t ∈ T, 0 ≤ t ∧ t / 2 < B) (hB : B ≤ 100000) (l : Int) (h0 : 0 ≤ l) (h1 : l / 2 < T.length) (h2 : l ≤ 900000) : sgnP T (notH l) = notH (sgnP T l) := by
  have hm := hT _ (rd_mem T (l / 2) (by omega) h1)
  have e : notH l / 2 = l / 2 := by unfold notH; split <;> omega
  have e2 : notH l % 2 = 1 - l % 2 := by unfold notH; split <;> omega
  have e3 : 0 ≤ notH l ∧ notH l ≤ 1000000 := by unfold notH; split <;> omega
  rw [sgn_rd T B hT hB l h0 h1 (by omega), sgn_rd T B hT hB (notH l) e3.1 (by rw [e]; exact h1) e3.2, e, e2]
  rcases (show l % 2 = 0 ∨ l % 2 = 1 by omega) with c | c
  · rw [c, if_neg (by decide), if_pos rfl]
  · rw [c, if_pos (by decide), if_neg (by decide), notH_notH _ hm.1]
theorem sgn_comp {T1 T2 σ : List Int} {B1 B2 B3 : Int} (h1 : ∀ t ∈ T1, 0 ≤ t ∧ t / 2 < B1) (h2 : ∀ t ∈ T2, 0 ≤ t ∧ t / 2 < B2) (hs : ∀ t ∈ σ, 0 ≤ t ∧ t / 2 < B3) (b1 : B1 ≤ 100000) (b2 : B2 ≤ 100000) (b3 : B3 ≤ 100000) (l1 : B1 ≤ σ.length) (l : Int) (l0 : 0 ≤ l) (lb : l ≤ 800000) (lt1 : l / 2 < T1.length) (lt2 : l / 2 < T2.length)
    (e : rd T2 (l / 2) = sgnP σ (rd T1 (l / 2))) : sgnP T2 l = sgnP σ (sgnP T1 l) := by
  have m1 := h1 _ (rd_mem T1 (l / 2) (by omega) lt1)
  rw [sgn_rd T2 B2 h2 b2 l l0 lt2 (by omega), sgn_rd T1 B1 h1 b1 l l0 lt1 (by omega), e]
  split
  · rfl
  · rw [sgn_not hs b3 _ m1.1 (by omega) (by omega)]
theorem sgn01 {T : List Int} (hz : rd T 0 = 0) (c : Int) (hc : c = 0 ∨ c = 1) : sgnP T c = c := by
  rcases hc with rfl | rfl
  · rw [sgnP_eq T 0 (by decide) (by decide) (by show 0 ≤ rd T 0; omega) (by show rd T 0 ≤ _; omega), if_pos (by decide)]; exact hz
  · rw [sgnP_eq T 1 (by decide) (by decide) (by show 0 ≤ rd T 0; omega) (by show rd T 0 ≤ _; omega), if_neg (by decide)]; show notH (rd T 0) = 1; rw [hz]; rfl
theorem bx_not (y : Int) (h0 : 0 ≤ y) (h1 : y < 9223372036854775807) : Go.bits .xor .i64 y 1 = notH y := bx_eq y h0 h1
theorem andP_cm (first : Int) (gs : List S55) (x y : Int) (x0 : 0 ≤ x) (x1 : x < 1000000) (y0 : 0 ≤ y) (y1 : y < 1000000) : andP first gs x y = andP first gs y x := by
  have hn : x = Go.bits .xor .i64 y 1 ↔ y = Go.bits .xor .i64 x 1 := by
    rw [bx_not x x0 (by omega), bx_not y y0 (by omega)]
    exact ⟨fun h => by rw [h, notH_notH y y0], fun h => by rw [h, notH_notH x x0]⟩
  by_cases c1 : x = 0 ∨ y = 0 ∨ x = Go.bits .xor .i64 y 1
  · have c1' : y = 0 ∨ x = 0 ∨ y = Go.bits .xor .i64 x 1 := by
      rcases c1 with h | h | h
      · exact .inr (.inl h)
      · exact .inl h
      · exact .inr (.inr (hn.1 h))
    unfold andP
    rw [if_pos c1, if_pos c1']
  have c1' : ¬ (y = 0 ∨ x = 0 ∨ y = Go.bits .xor .i64 x 1) := by
    rintro (h | h | h)
    · exact c1 (.inr (.inl h))
    · exact c1 (.inl h)
    · exact c1 (.inr (.inr (hn.2 h)))
  unfold andP
  rw [if_neg c1, if_neg c1', mx_comm y x, mn_comm y x]
  by_cases c2 : x = y
  · subst c2; rfl
  by_cases c3 : x = 1
  · rw [if_pos (.inl c3), if_neg (by rintro (h | h) <;> omega), if_pos c3]
  by_cases c4 : y = 1
  · rw [if_neg (by rintro (h | h) <;> omega), if_pos c4, if_pos (.inl c4)]
  rw [if_neg (by rintro (h | h) <;> omega), if_neg c4, if_neg (by rintro (h | h) <;> omega), if_neg c3]
theorem findG_app {first : Int} {gs : List S55} {p q l : Int} (z : S55) (h : findG first gs p q = some l) : findG first (gs ++ [z]) p q = some l := by
  unfold findG at h ⊢
  obtain ⟨i, hi, rfl⟩ := Option.map_eq_some_iff.1 h
  rw [List.findIdx?_append, hi]
  rfl
/-- What is there stays as it is. -/
theorem andP_stay {first : Int} {gs : List S55} {p q s : Int} (z : S55) (h : andP first gs p q = (gs, s)) : andP first (gs ++ [z]) p q = (gs ++ [z], s) := by
  unfold andP at h ⊢
  split at h
  · rename_i c; rw [if_pos c]; rw [Prod.mk.injEq] at h; rw [h.2]
  · rename_i c
    rw [if_neg c]
    split at h
    · rename_i c; rw [if_pos c]; rw [Prod.mk.injEq] at h; rw [h.2]
    · rename_i c
      rw [if_neg c]
      split at h
      · rename_i c; rw [if_pos c]; rw [Prod.mk.injEq] at h; rw [h.2]
      · rename_i c
        rw [if_neg c]
        cases e : findG first gs (mx p q) (mn p q) with
        | some l => rw [e] at h; rw [findG_app z e]; rw [Prod.mk.injEq] at h; dsimp only; rw [h.2]
        | none =>
          rw [e] at h
          rw [Prod.mk.injEq] at h
          have := congrArg List.length h.1
          simp at this
/-- With the gates of the one circuit told in the other. -/
structure Sb (F : Nat) (G1 G2 : List S55) (σ g : List Int) : Prop where
  len : σ.length = F + G1.length
  lit : ∀ s ∈ σ, 0 ≤ s ∧ s / 2 < (F : Int) + G2.length
  z : rd σ 0 = 0
  gt : ∀ (i : Nat) (h : i < G1.length), andP (F : Int) G2 (sgnP σ G1[i].f0) (sgnP σ G1[i].f1) = (G2, rd σ ((F : Int) + i))
  run : runB (F : Int) G1 g (F + G1.length) = (G2, σ)
theorem step_app (F : Nat) (G : List S55) (z : S55) (g : List Int) : ∀ k, k ≤ F + G.length → runB (F : Int) (G ++ [z]) g k = runB (F : Int) G g k
  | 0, _ => rfl
  | k + 1, hk => by
    have hl := (runB_len (F : Int) G g k).1
    rw [runB, runB, step_app F G z g k (by omega)]
    unfold stepB
    rw [hl]
    by_cases c : 0 ≤ rd g (k : Int)
    · rw [if_pos c, if_pos c]
    · rw [if_neg c, if_neg c]
      by_cases c1 : (k : Int) < (F : Int)
      · rw [if_pos c1, if_pos c1]
      · rw [if_neg c1, if_neg c1]
        obtain ⟨i, hi⟩ : ∃ i : Nat, (k : Int) - (F : Int) = (i : Int) := ⟨k - F, by omega⟩
        have e : rd_T55 (G ++ [z]) (i : Int) = rd_T55 G (i : Int) := by
          have : i < G.length := by omega
          simp [rd_T55, List.getD, List.getElem?_append_left this]
        rw [hi, e]
theorem rd_new (T : List Int) (x : Int) : rd (T ++ [x]) (T.length : Int) = x := by rw [rd_at _ _ (by simp)]; simp
/-- One AND more, in both. -/
theorem and_sub {F : Nat} {G1 G2 : List S55} {σ g : List Int} (hF : 1 ≤ F) (h : Sb F G1 G2 σ g) (h1 : Fine (F : Int) G1) (h2 : Fine (F : Int) G2) (hN : F + G1.length ≤ 50000) (hN2 : F + G2.length ≤ 50000) (hg : rd g ((F + G1.length : Nat) : Int) < 0) (x y : Int) (x0 : 0 ≤ x) (x1 : x / 2 < (F : Int) + G1.length) (y0 : 0 ≤ y) (y1 : y / 2 < (F : Int) + G1.length) :
    ∃ σ', Sb F (andP (F : Int) G1 x y).1 (andP (F : Int) G2 (sgnP σ x) (sgnP σ y)).1 σ' g ∧ (andP (F : Int) G2 (sgnP σ x) (sgnP σ y)).2 = sgnP σ' (andP (F : Int) G1 x y).2 ∧ (∀ t : Int, 0 ≤ t → t / 2 < (F : Int) + G1.length → sgnP σ' t = sgnP σ t) := by
  have hB : (F : Int) + G2.length ≤ 100000 := by omega
  have hx := sgn_lit h.lit hB x x0 (by rw [h.len]; omega) (by omega)
  have hy := sgn_lit h.lit hB y y0 (by rw [h.len]; omega) (by omega)
  have same : ∀ s t, andP (F : Int) G1 x y = (G1, t) → andP (F : Int) G2 (sgnP σ x) (sgnP σ y) = (G2, s) → s = sgnP σ t → ∃ σ', Sb F (andP (F : Int) G1 x y).1 (andP (F : Int) G2 (sgnP σ x) (sgnP σ y)).1 σ' g ∧ (andP (F : Int) G2 (sgnP σ x) (sgnP σ y)).2 = sgnP σ' (andP (F : Int) G1 x y).2 ∧ (∀ t : Int, 0 ≤ t → t / 2 < (F : Int) + G1.length → sgnP σ' t = sgnP σ t) := fun s t e1 e2 e => by
    rw [e1, e2]
    exact ⟨σ, h, e, fun _ _ _ => rfl⟩
  have s0 : sgnP σ 0 = 0 := sgn01 h.z 0 (.inl rfl)
  have s1 : sgnP σ 1 = 1 := sgn01 h.z 1 (.inr rfl)
  have zero : ∀ p q : Int, (p = 0 ∨ q = 0 ∨ p = Go.bits .xor .i64 q 1) → ∀ G : List S55, andP (F : Int) G p q = (G, 0) := fun p q c G => by unfold andP; rw [if_pos c]
  have one : ∀ (q : Int) (G : List S55), 0 ≤ q → q < 1000000 → andP (F : Int) G 1 q = (G, q) := fun q G q0 q1 => by
    by_cases c : q = 0
    · rw [zero 1 q (.inr (.inl c)), c]
    · unfold andP
      rw [if_neg, if_pos (.inl rfl)]
      rw [bx_not q q0 (by omega)]
      unfold notH
      rintro (h | h | h)
      · omega
      · exact c h
      · split at h <;> omega
  have both : ∀ (q : Int) (G : List S55), 0 ≤ q → q < 1000000 → andP (F : Int) G q q = (G, q) := fun q G q0 q1 => by
    by_cases c : q = 0
    · rw [zero q q (.inl c), c]
    · unfold andP
      rw [if_neg, if_pos (.inr rfl)]
      rw [bx_not q q0 (by omega)]
      unfold notH
      rintro (h | h | h)
      · exact c h
      · exact c h
      · split at h <;> omega
  by_cases c1 : x = 0
  · exact same 0 0 (zero x y (.inl c1) _) (zero _ _ (.inl (by rw [c1, s0])) _) s0.symm
  by_cases c2 : y = 0
  · exact same 0 0 (zero x y (.inr (.inl c2)) _) (zero _ _ (.inr (.inl (by rw [c2, s0]))) _) s0.symm
  by_cases c3 : x = Go.bits .xor .i64 y 1
  · refine same 0 0 (zero x y (.inr (.inr c3)) _) (zero _ _ (.inr (.inr ?_)) _) s0.symm
    rw [c3, bx_not y y0 (by omega), bx_not _ hy.1 (by omega), sgn_not h.lit hB y y0 (by rw [h.len]; omega) (by omega)]
  by_cases c4 : x = 1
  · refine same _ y (by rw [c4]; exact one y G1 y0 (by omega)) (by rw [c4, s1]; exact one _ G2 hy.1 (by omega)) rfl
  by_cases c5 : x = y
  · refine same _ y (by rw [c5]; exact both y G1 y0 (by omega)) (by rw [c5]; exact both _ G2 hy.1 (by omega)) rfl
  by_cases c6 : y = 1
  · refine same _ x ?_ ?_ rfl
    · rw [andP_cm _ _ _ _ x0 (by omega) y0 (by omega), c6]; exact one x G1 x0 (by omega)
    · rw [andP_cm _ _ _ _ hx.1 (by omega) hy.1 (by omega), c6, s1]; exact one _ G2 hx.1 (by omega)
  have hc : ¬ (x = 0 ∨ y = 0 ∨ x = Go.bits .xor .i64 y 1 ∨ x = 1 ∨ x = y ∨ y = 1) := by
    rintro (h | h | h | h | h | h) <;> contradiction
  -- the literals in their order
  have ord : ∀ G : List S55, andP (F : Int) G (sgnP σ (mx x y)) (sgnP σ (mn x y)) = andP (F : Int) G (sgnP σ x) (sgnP σ y) := fun G => by
    unfold mx mn
    by_cases c : x < y
    · first
      | (rw [if_pos (by omega), if_pos (by omega)]; exact andP_cm _ _ _ _ hy.1 (by omega) hx.1 (by omega))
      | (rw [if_neg (by omega), if_pos (by omega)]; exact andP_cm _ _ _ _ hy.1 (by omega) hx.1 (by omega))
      | (rw [if_pos (by omega), if_neg (by omega)]; exact andP_cm _ _ _ _ hy.1 (by omega) hx.1 (by omega))
      | (rw [if_neg (by omega), if_neg (by omega)]; exact andP_cm _ _ _ _ hy.1 (by omega) hx.1 (by omega))
    · first
      | rw [if_pos (by omega), if_pos (by omega)]
      | rw [if_neg (by omega), if_pos (by omega)]
      | rw [if_pos (by omega), if_neg (by omega)]
      | rw [if_neg (by omega), if_neg (by omega)]
  cases e : findG (F : Int) G1 (mx x y) (mn x y) with
  | some l =>
    obtain ⟨i, hi, rfl, p, q⟩ := findG_some e
    have h3 := h.gt i hi
    rw [p, q, ord G2] at h3
    refine same _ _ (andP_found hc e) h3 ?_
    rw [sgn_rd σ _ h.lit hB _ (by omega) (by rw [h.len]; omega) (by omega), if_pos (by omega), show 2 * ((F : Int) + (i : Int)) / 2 = (F : Int) + i by omega]
  | none =>
    have e1 := andP_new hc e
    rw [e1]
    dsimp only
    obtain ⟨hf2, t0, t1⟩ := fine_step (by omega) h2 hx.1 hx.2 hy.1 hy.2 (by omega) (by omega)
    have ag := andP_again (F : Int) G2 (sgnP σ x) (sgnP σ y) hx.1 (by omega) hy.1 (by omega)
    have hgr : (andP (F : Int) G2 (sgnP σ x) (sgnP σ y)).1 = G2 ∨ ∃ z, (andP (F : Int) G2 (sgnP σ x) (sgnP σ y)).1 = G2 ++ [z] := by
      rcases andP_cases (F : Int) G2 (sgnP σ x) (sgnP σ y) with e | ⟨e, -⟩
      · exact .inl e
      · exact .inr ⟨_, by rw [e]⟩
    have ordw := ord
    generalize hP : andP (F : Int) G2 (sgnP σ x) (sgnP σ y) = P at *
    obtain ⟨G3, s⟩ := P
    dsimp only at *
    have hle : G2.length ≤ G3.length := by
      rcases hgr with rfl | ⟨z, rfl⟩
      · exact Nat.le_refl _
      · simp
    have ext : ∀ t : Int, 0 ≤ t → t / 2 < (F : Int) + G1.length → sgnP (σ ++ [s]) t = sgnP σ t := fun t t0 t1 => sgnP_left σ [s] t t0 (by rw [h.len]; omega)
    have mxr : 0 ≤ mx x y ∧ mx x y / 2 < (F : Int) + G1.length ∧ 0 ≤ mn x y ∧ mn x y / 2 < (F : Int) + G1.length := by
      unfold mx mn
      split <;> split <;> omega
    refine ⟨σ ++ [s], ⟨?_, ?_, ?_, ?_, ?_⟩, ?_, ext⟩
    · rw [List.length_append, h.len, List.length_append]; simp only [List.length_singleton]; omega
    · intro u hu
      rcases List.mem_append.1 hu with hu | hu
      · have := h.lit u hu; omega
      · rw [List.mem_singleton.1 hu]; exact ⟨t0, t1⟩
    · rw [rd_left σ [s] 0 (by omega) (by rw [h.len]; omega)]; exact h.z
    · intro i hi
      rw [List.length_append, List.length_singleton] at hi
      by_cases ci : i < G1.length
      · rw [List.getElem_append_left ci]
        obtain ⟨b1, b2, b3, b4⟩ := h1.ok i ci
        rw [ext _ (by omega) (by omega), ext _ (by omega) (by omega), rd_left σ [s] _ (by omega) (by rw [h.len]; omega)]
        have h3 := h.gt i ci
        rcases hgr with rfl | ⟨z, rfl⟩
        · exact h3
        · exact andP_stay z h3
      · obtain rfl : i = G1.length := by omega
        rw [List.getElem_concat_length (by rfl)]
        dsimp only
        rw [ext _ mxr.1 mxr.2.1, ext _ mxr.2.2.1 mxr.2.2.2, ord G3, andP_cm _ _ _ _ hx.1 (by omega) hy.1 (by omega), ag, show ((F : Int) + (G1.length : Int)) = (σ.length : Int) by rw [h.len]; omega, rd_new]
    · rw [List.length_append, List.length_singleton, show F + (G1.length + 1) = (F + G1.length) + 1 by omega, runB, step_app F G1 _ g _ (Nat.le_refl _), h.run]
      have er : rd_T55 (G1 ++ [(⟨mx x y, mn x y⟩ : S55)]) (G1.length : Int) = ⟨mx x y, mn x y⟩ := by simp [rd_T55, List.getD]
      unfold stepB
      dsimp only
      rw [h.len, if_neg (by omega), if_neg (by omega), show (((F + G1.length : Nat) : Int) - (F : Int)) = (G1.length : Int) by omega, er]
      dsimp only
      rw [ord G2, hP]
    · rw [sgn_rd (σ ++ [s]) ((F : Int) + G3.length) (fun u hu => by
        rcases List.mem_append.1 hu with hu | hu
        · have := h.lit u hu; omega
        · rw [List.mem_singleton.1 hu]; exact ⟨t0, t1⟩) (by have := hgr; rcases this with e | ⟨z, e⟩ <;> (have := congrArg List.length e; first | omega | (simp at this; omega))) _ (by omega) (by rw [List.length_append, h.len, List.length_singleton]; omega) (by omega), if_pos (by omega), show 2 * ((F : Int) + (G1.length : Int)) / 2 = (σ.length : Int) by rw [h.len]; omega, rd_new]
/-- The constants, and the variables that stay. -/
def baseL (k : Nat) (g : List Int) : List Int := (List.range k).map (fun v : Nat => if 0 ≤ rd g (v : Int) then rd g (v : Int) else 2 * (v : Int))
theorem baseL_len (k : Nat) (g : List Int) : (baseL k g).length = k := by simp [baseL]
theorem baseL_succ (k : Nat) (g : List Int) : baseL (k + 1) g = baseL k g ++ [if 0 ≤ rd g (k : Int) then rd g (k : Int) else 2 * (k : Int)] := by simp [baseL, List.range_succ]
theorem baseL_rd (k : Nat) (g : List Int) (v : Nat) (h : v < k) : rd (baseL k g) (v : Int) = if 0 ≤ rd g (v : Int) then rd g (v : Int) else 2 * (v : Int) := by
  rw [rd_at _ v (by rw [baseL_len]; exact h)]; simp [baseL]
/-- Constants that are given for some of the first variables. -/
structure Cg (F N : Nat) (g : List Int) : Prop where
  z : rd g 0 < 0
  c : ∀ v : Nat, v < F → 0 ≤ rd g (v : Int) → rd g (v : Int) = 0 ∨ rd g (v : Int) = 1
  hi : ∀ v : Nat, F ≤ v → v < N → rd g (v : Int) < 0
theorem baseL_z {F N : Nat} {g : List Int} (h : Cg F N g) (k : Nat) (hk : 1 ≤ k) : rd (baseL k g) 0 = 0 := by
  have := baseL_rd k g 0 (by omega)
  have hz := h.z
  rw [show ((0 : Nat) : Int) = 0 from rfl] at this
  rw [this, if_neg (by omega)]; rfl
theorem baseL_lit {F N : Nat} {g : List Int} (h : Cg F N g) (hF : 1 ≤ F) : ∀ s ∈ baseL F g, 0 ≤ s ∧ s / 2 < (F : Int) := fun s hs => by
  obtain ⟨v, hv, rfl⟩ := List.mem_map.1 hs
  have hv := List.mem_range.1 hv
  split
  · rename_i c
    rcases h.c v hv c with e | e <;> rw [e] <;> omega
  · omega
theorem run_base {F N : Nat} (ands : List S55) {g : List Int} (h : Cg F N g) : ∀ k, k ≤ F → runB (F : Int) ands g k = ([], baseL k g)
  | 0, _ => rfl
  | k + 1, hk => by
    rw [runB, run_base ands h k (by omega), baseL_succ]
    unfold stepB
    dsimp only
    rw [baseL_len]
    by_cases c : 0 ≤ rd g (k : Int)
    · rw [if_pos c, if_pos c]
      have hk1 : 1 ≤ k := by
        rcases Nat.eq_zero_or_pos k with rfl | h1
        · have := h.z; rw [show ((0 : Nat) : Int) = 0 from rfl] at c; omega
        · exact h1
      rw [sgn01 (baseL_z h k hk1) _ (h.c k (by omega) c)]
    · rw [if_neg c, if_neg c, if_pos (by omega)]
theorem sub_run {F : Nat} {ands : List S55} {g1 g2 : List Int} {ins : Int} (hF : 1 ≤ F) (ha : okA (F : Int) ands = true) (hN : F + ands.length ≤ 50000) (c1 : Cg F (F + ands.length) g1) (c2 : Cg F (F + ands.length) g2) (hle : ∀ v : Nat, v < F → 0 ≤ rd g1 (v : Int) → rd g2 (v : Int) = rd g1 (v : Int))
    (hb1 : ∀ v : Nat, v < F + ands.length → badG ins g1 v = false) (hb2 : ∀ v : Nat, v < F + ands.length → badG ins g2 v = false) : ∀ i, i ≤ ands.length → ∃ σ, Sb F (runB (F : Int) ands g1 (F + i)).1 (runB (F : Int) ands g2 (F + i)).1 σ g2 ∧ ∀ v : Nat, v < F + i → rd (runB (F : Int) ands g2 (F + i)).2 (v : Int) = sgnP σ (rd (runB (F : Int) ands g1 (F + i)).2 (v : Int))
  | 0, _ => by
    rw [Nat.add_zero, run_base ands c1 F (Nat.le_refl _), run_base ands c2 F (Nat.le_refl _)]
    refine ⟨baseL F g2, ⟨by rw [baseL_len]; rfl, fun s hs => by have := baseL_lit c2 hF s hs; simpa using this, baseL_z c2 F hF, fun i hi => absurd hi (by simp), by rw [List.length_nil, Nat.add_zero]; exact run_base [] c2 F (Nat.le_refl _)⟩, fun v hv => ?_⟩
    dsimp only
    have hv : v < F := by omega
    rw [baseL_rd F g2 v hv, baseL_rd F g1 v hv]
    by_cases c : 0 ≤ rd g1 (v : Int)
    · rw [hle v hv c, if_pos c, sgn01 (baseL_z c2 F hF) _ (c1.c v hv c)]
    · rw [if_neg c, sgn_rd (baseL F g2) (F : Int) (baseL_lit c2 hF) (by omega) (2 * (v : Int)) (by omega) (by rw [baseL_len]; omega) (by omega), if_pos (show 2 * (v : Int) % 2 = 0 by omega), show 2 * (v : Int) / 2 = (v : Int) by omega, baseL_rd F g2 v hv]
  | i + 1, hi => by
    obtain ⟨σ, hS, hT⟩ := sub_run hF ha hN c1 c2 hle hb1 hb2 i (by omega)
    have i1 := inv_run (ins := ins) (by omega) ha (by omega) (F + i) (by omega) (fun v hv => hb1 v (by omega))
    have i2 := inv_run (ins := ins) (by omega) ha (by omega) (F + i) (by omega) (fun v hv => hb2 v (by omega))
    rw [show F + (i + 1) = (F + i) + 1 by omega, runB, runB]
    generalize runB (F : Int) ands g1 (F + i) = s1 at *
    generalize runB (F : Int) ands g2 (F + i) = s2 at *
    obtain ⟨G1, T1⟩ := s1
    obtain ⟨G2, T2⟩ := s2
    obtain ⟨f1, l1, n1, t1⟩ := i1
    obtain ⟨f2, l2, n2, t2⟩ := i2
    dsimp only at *
    have hg1 := c1.hi (F + i) (by omega) (by omega)
    have hg2 := c2.hi (F + i) (by omega) (by omega)
    obtain ⟨a0, a1, a2, a3⟩ := okA_at ha i (by omega)
    unfold stepB
    dsimp only
    rw [l1, l2, if_neg (by omega), if_neg (by omega), if_neg (by omega), if_neg (by omega), show (((F + i : Nat) : Int) - (F : Int)) = (i : Int) by omega]
    generalize (rd_T55 ands (i : Int)).f0 = p at *
    generalize (rd_T55 ands (i : Int)).f1 = q at *
    have B1 : (F : Int) + (G1.length : Int) ≤ 50000 := by omega
    have B2 : (F : Int) + (G2.length : Int) ≤ 50000 := by omega
    have hlen := hS.len
    have cmp : ∀ l : Int, 0 ≤ l → l / 2 < (F : Int) + i → sgnP T2 l = sgnP σ (sgnP T1 l) := fun l h0 h1 => by
      obtain ⟨u, hu⟩ : ∃ u : Nat, l / 2 = (u : Int) := ⟨(l / 2).toNat, by omega⟩
      exact sgn_comp t1 t2 hS.lit (by omega) (by omega) (by omega) (by rw [hlen]; omega) l h0 (by omega) (by omega) (by omega) (by rw [hu]; exact hT u (by omega))
    have hx := sgn_lit t1 (by omega) p a0 (by omega) (by omega)
    have hy := sgn_lit t1 (by omega) q a2 (by omega) (by omega)
    rw [cmp p a0 a1, cmp q a2 a3]
    generalize sgnP T1 p = x at *
    generalize sgnP T1 q = y at *
    obtain ⟨σ', hS', e, ext⟩ := and_sub hF hS f1 f2 (by omega) (by omega) (c2.hi (F + G1.length) (by omega) (by omega)) x y hx.1 hx.2 hy.1 hy.2
    refine ⟨σ', hS', fun v hv => ?_⟩
    rcases Nat.lt_or_ge v (F + i) with h | h
    · have hm := t1 _ (rd_mem T1 (v : Int) (by omega) (by omega))
      rw [rd_left T2 _ _ (by omega) (by omega), rd_left T1 _ _ (by omega) (by omega), hT v h, ext _ hm.1 hm.2]
    · obtain rfl : v = F + i := by omega
      have r1 : ∀ z : Int, rd (T1 ++ [z]) ((F + i : Nat) : Int) = z := fun z => by rw [← l1]; exact rd_new T1 z
      have r2 : ∀ z : Int, rd (T2 ++ [z]) ((F + i : Nat) : Int) = z := fun z => by rw [← l2]; exact rd_new T2 z
      rw [r1, r2, e]
/-- A literal whose variable is not given. -/
def okV (F : Nat) (g : List Int) (t : Int) : Prop := t / 2 < (F : Int) → rd g (t / 2) < 0
theorem okV_not {F : Nat} {g : List Int} {t : Int} (h : okV F g t) : okV F g (notH t) := by
  unfold okV at *
  rw [show notH t / 2 = t / 2 by unfold notH; split <;> omega]; exact h
theorem okV_sgn {F : Nat} {g T : List Int} {B : Int} (hT : ∀ t ∈ T, 0 ≤ t ∧ t / 2 < B) (hB : B ≤ 100000) (h : ∀ t ∈ T, okV F g t) (l : Int) (h0 : 0 ≤ l) (h1 : l / 2 < T.length) (h2 : l ≤ 1000000) : okV F g (sgnP T l) := by
  have hm := h _ (rd_mem T (l / 2) (by omega) h1)
  rw [sgn_rd T B hT hB l h0 h1 h2]
  split
  · exact hm
  · exact okV_not hm
theorem clean_run {F : Nat} {ands : List S55} {g : List Int} {ins : Int} (hF : 1 ≤ F) (ha : okA (F : Int) ands = true) (hN : F + ands.length ≤ 50000) (c : Cg F (F + ands.length) g) (hb : ∀ v : Nat, v < F + ands.length → badG ins g v = false) : ∀ i, i ≤ ands.length → (∀ z ∈ (runB (F : Int) ands g (F + i)).1, okV F g z.f0 ∧ okV F g z.f1) ∧ ∀ t ∈ (runB (F : Int) ands g (F + i)).2, okV F g t
  | 0, _ => by
    rw [Nat.add_zero, run_base ands c F (Nat.le_refl _)]
    refine ⟨fun z hz => absurd hz (by simp), fun t ht h => ?_⟩
    obtain ⟨v, hv, rfl⟩ := List.mem_map.1 ht
    have hv := List.mem_range.1 hv
    have hz := c.z
    by_cases d : 0 ≤ rd g (v : Int)
    · rw [if_pos d] at h ⊢
      rcases c.c v hv d with e | e <;> rw [e] <;> exact hz
    · rw [if_neg d] at h ⊢
      rw [show 2 * (v : Int) / 2 = (v : Int) by omega]; omega
  | i + 1, hi => by
    obtain ⟨hG, hT⟩ := clean_run hF ha hN c hb i (by omega)
    have i1 := inv_run (ins := ins) (by omega) ha (by omega) (F + i) (by omega) (fun v hv => hb v (by omega))
    rw [show F + (i + 1) = (F + i) + 1 by omega, runB]
    generalize runB (F : Int) ands g (F + i) = s1 at *
    obtain ⟨G1, T1⟩ := s1
    obtain ⟨f1, l1, n1, t1⟩ := i1
    dsimp only at *
    have hg1 := c.hi (F + i) (by omega) (by omega)
    obtain ⟨a0, a1, a2, a3⟩ := okA_at ha i (by omega)
    unfold stepB
    dsimp only
    rw [l1, if_neg (by omega), if_neg (by omega), show (((F + i : Nat) : Int) - (F : Int)) = (i : Int) by omega]
    generalize (rd_T55 ands (i : Int)).f0 = p at *
    generalize (rd_T55 ands (i : Int)).f1 = q at *
    have B1 : (F : Int) + (G1.length : Int) ≤ 50000 := by omega
    have hx := okV_sgn t1 (by omega) hT p a0 (by omega) (by omega)
    have hy := okV_sgn t1 (by omega) hT q a2 (by omega) (by omega)
    generalize sgnP T1 p = x at *
    generalize sgnP T1 q = y at *
    have z0 : okV F g 0 := fun _ => c.z
    have z2 : ∀ j : Nat, okV F g (2 * ((F : Int) + j)) := fun j h => by omega
    have add : ∀ s, okV F g s → ∀ t ∈ T1 ++ [s], okV F g t := fun s hs t ht => by
      rcases List.mem_append.1 ht with h | h
      · exact hT t h
      · rw [List.mem_singleton.1 h]; exact hs
    unfold andP
    split
    · exact ⟨hG, add _ z0⟩
    · split
      · exact ⟨hG, add _ hy⟩
      · split
        · exact ⟨hG, add _ hx⟩
        · split
          · rename_i l hl
            obtain ⟨j, hj, rfl, -, -⟩ := findG_some hl
            exact ⟨hG, add _ (z2 j)⟩
          · refine ⟨fun z hz => ?_, add _ (z2 _)⟩
            rcases List.mem_append.1 hz with h | h
            · exact hG z h
            · rw [List.mem_singleton.1 h]
              unfold mx mn
              dsimp only
              constructor <;> split <;> assumption
/-- What tells the variables of a circuit that has been built already. -/
def told0 (F : Nat) (g : List Int) (i : Nat) : List Int := baseL F g ++ (List.range i).map (fun j : Nat => 2 * ((F : Int) + (j : Int)))
theorem told0_len (F : Nat) (g : List Int) (i : Nat) : (told0 F g i).length = F + i := by simp [told0, baseL_len]
theorem told0_sgn (F : Nat) (g : List Int) (i : Nat) (hN : F + i ≤ 50000) (l : Int) (h0 : 0 ≤ l) (h1 : l / 2 < (F : Int) + i) (h : okV F g l) : sgnP (told0 F g i) l = l := by
  obtain ⟨u, hu⟩ : ∃ u : Nat, l / 2 = (u : Int) := ⟨(l / 2).toNat, by omega⟩
  have e : rd (told0 F g i) (l / 2) = 2 * (l / 2) := by
    rw [hu]
    by_cases c : u < F
    · have := h (by omega)
      rw [hu] at this
      unfold told0
      rw [rd_left _ _ _ (by omega) (by rw [baseL_len]; omega), baseL_rd F g u c, if_neg (by omega)]
    · rw [rd_at _ u (by rw [told0_len]; omega)]
      unfold told0
      rw [List.getElem_append_right (by rw [baseL_len]; omega)]
      simp [baseL_len]
      omega
  rw [sgnP_eq _ l h0 (by omega) (by rw [e]; omega) (by rw [e]; omega), e]
  unfold notH
  split
  · omega
  · rw [if_pos (by omega)]; omega
theorem rerunC {F N : Nat} {G : List S55} {g : List Int} (hF : 1 ≤ F) (h : Fine (F : Int) G) (hN : F + G.length ≤ 50000) (c : Cg F (F + G.length) g) (hG : ∀ z ∈ G, okV F g z.f0 ∧ okV F g z.f1) : ∀ i, i ≤ G.length → runB (F : Int) G g (F + i) = (G.take i, told0 F g i)
  | 0, _ => by rw [Nat.add_zero, run_base G c F (Nat.le_refl _)]; simp [told0]
  | i + 1, hi => by
    rw [show F + (i + 1) = (F + i) + 1 by omega, runB, rerunC (N := N) hF h hN c hG i (by omega)]
    have hi2 : i < G.length := by omega
    have hg1 := c.hi (F + i) (by omega) (by omega)
    have er : rd_T55 G (i : Int) = G[i] := by simp [rd_T55, List.getD, hi2]
    obtain ⟨b1, b2, b3, b4⟩ := h.ok i hi2
    obtain ⟨o1, o2⟩ := hG _ (List.getElem_mem hi2)
    have eg : findG (F : Int) (G.take i) G[i].f0 G[i].f1 = none := findG_none' (fun j hj => by
      rw [List.length_take] at hj
      rw [List.getElem_take]
      exact h.one j i (by omega) hi2 (by omega))
    have ea : andP (F : Int) (G.take i) G[i].f0 G[i].f1 = (G.take i ++ [G[i]], 2 * ((F : Int) + (i : Int))) := by
      have em : mx G[i].f0 G[i].f1 = G[i].f0 := by unfold mx; split <;> omega
      have en : mn G[i].f0 G[i].f1 = G[i].f1 := by unfold mn; split <;> omega
      unfold andP
      rw [if_neg (by rintro (h | h | h); omega; omega; exact b3 h), if_neg (by rintro (h | h) <;> omega), if_neg (by omega), em, en, eg]
      dsimp only
      rw [List.length_take, Nat.min_eq_left (by omega)]
    unfold stepB
    dsimp only
    rw [told0_len, if_neg (by omega), if_neg (by omega), show (((F + i : Nat) : Int) - (F : Int)) = (i : Int) by omega, er, told0_sgn F g i (by omega) _ (by omega) (by omega) o1, told0_sgn F g i (by omega) _ (by omega) (by omega) o2, ea, List.take_succ_eq_append_getElem hi2]
    unfold told0
    rw [List.range_succ, List.map_append, ← List.append_assoc]
    rfl
theorem runB_congr (F : Int) (ands : List S55) (g g' : List Int) : ∀ k : Nat, (∀ v : Nat, v < k → rd g (v : Int) = rd g' (v : Int)) → runB F ands g k = runB F ands g' k
  | 0, _ => rfl
  | k + 1, h => by
    rw [runB, runB, runB_congr F ands g g' k (fun v hv => h v (by omega))]
    unfold stepB
    rw [(runB_len F ands g' k).1, h k (by omega)]

-- the latches that stay
theorem rd_set (l : List Int) (n v : Nat) (x : Int) (hv : v < l.length) : rd (l.set n x) (v : Int) = if n = v then x else rd l (v : Int) := by
  rw [rd_at _ v (by rw [List.length_set]; exact hv), rd_at l v hv, List.getElem_set]
theorem gvn_rd (a : Int) (l1 : List S45) (v : Nat) : ∀ (S g0 : List Int), (∀ x ∈ S, 0 ≤ a + 1 + x) → v < g0.length → (∃ x ∈ S, (v : Int) = a + 1 + x ∧ rd (S.foldl (fun g x => g.set (a + 1 + x).toNat (rd_T45 l1 x).f1) g0) (v : Int) = (rd_T45 l1 x).f1) ∨ ((∀ x ∈ S, (v : Int) ≠ a + 1 + x) ∧ rd (S.foldl (fun g x => g.set (a + 1 + x).toNat (rd_T45 l1 x).f1) g0) (v : Int) = rd g0 (v : Int))
  | [], g0, _, _ => .inr ⟨fun _ h => absurd h (by simp), rfl⟩
  | y :: S, g0, h, hv => by
    have hy := h y (List.mem_cons_self ..)
    rw [List.foldl_cons]
    rcases gvn_rd a l1 v S (g0.set (a + 1 + y).toNat (rd_T45 l1 y).f1) (fun x hx => h x (List.mem_cons_of_mem _ hx)) (by rw [List.length_set]; exact hv) with ⟨x, hx, e1, e2⟩ | ⟨e1, e2⟩
    · exact .inl ⟨x, List.mem_cons_of_mem _ hx, e1, e2⟩
    · rw [rd_set _ _ _ _ hv] at e2
      by_cases c : (a + 1 + y).toNat = v
      · rw [if_pos c] at e2
        exact .inl ⟨y, List.mem_cons_self .., by omega, e2⟩
      · rw [if_neg c] at e2
        refine .inr ⟨fun x hx => ?_, e2⟩
        rcases List.mem_cons.1 hx with rfl | hx
        · omega
        · exact e1 x hx
/-- Indices of latches whose resets are no any. -/
def okL (l1 : List S45) (S : List Int) : Prop := ∀ x ∈ S, (0 ≤ x ∧ x < (l1.length : Int)) ∧ ((rd_T45 l1 x).f1 = 0 ∨ (rd_T45 l1 x).f1 = 1)
section
variable {a : Int} {l1 : List S45} {l2 : List S55} {l3 l4 : List Int} {N : Nat}
theorem gvnP_len (S : List Int) : (gvnP a l1 N S).length = N := by unfold gvnP; rw [gvn_len, List.length_replicate]
theorem gvnP_rd (ha : 0 ≤ a) {S : List Int} (hS : okL l1 S) (v : Nat) (hv : v < N) : (∃ x ∈ S, (v : Int) = a + 1 + x ∧ rd (gvnP a l1 N S) (v : Int) = (rd_T45 l1 x).f1) ∨ ((∀ x ∈ S, (v : Int) ≠ a + 1 + x) ∧ rd (gvnP a l1 N S) (v : Int) = -1) := by
  rcases gvn_rd a l1 v S (List.replicate N (-1)) (fun x hx => by have := (hS x hx).1; omega) (by rw [List.length_replicate]; exact hv) with h | ⟨h1, h2⟩
  · exact .inl h
  · refine .inr ⟨h1, ?_⟩
    unfold gvnP
    rw [h2, rd_at _ v (by rw [List.length_replicate]; exact hv)]; simp
theorem gvnP_at (ha : 0 ≤ a) {S : List Int} (hS : okL l1 S) (x : Int) (hx : x ∈ S) (hN : a + 1 + x < (N : Int)) : rd (gvnP a l1 N S) (a + 1 + x) = (rd_T45 l1 x).f1 := by
  have h0 := (hS x hx).1
  obtain ⟨v, hv⟩ : ∃ v : Nat, a + 1 + x = (v : Int) := ⟨(a + 1 + x).toNat, by omega⟩
  rw [hv]
  rcases gvnP_rd (N := N) ha hS v (by omega) with ⟨y, _, e1, e2⟩ | ⟨e1, _⟩
  · rw [e2, show y = x by omega]
  · exact absurd hv.symm (e1 x hx)
theorem gvnP_cg (ha : 0 ≤ a) {S : List Int} (hS : okL l1 S) {F : Nat} (hF : (F : Int) = a + (l1.length : Int) + 1) (hN : F ≤ N) : Cg F N (gvnP a l1 N S) := by
  refine ⟨?_, fun v hv h0 => ?_, fun v h1 h2 => ?_⟩
  · rcases gvnP_rd (N := N) ha hS 0 (by omega) with ⟨y, hy, e1, _⟩ | ⟨_, e⟩
    · have := (hS y hy).1; omega
    · rw [show ((0 : Nat) : Int) = 0 from rfl] at e; omega
  · rcases gvnP_rd (N := N) ha hS v (by omega) with ⟨y, hy, e1, e2⟩ | ⟨_, e⟩
    · rw [e2]; exact (hS y hy).2
    · omega
  · rcases gvnP_rd (N := N) ha hS v h2 with ⟨y, hy, e1, _⟩ | ⟨_, e⟩
    · have := (hS y hy).1; omega
    · omega
theorem gvnP_bad (ha : 0 ≤ a) {S : List Int} (hS : okL l1 S) (v : Nat) (hv : v < N) : badG a (gvnP a l1 N S) v = false := by
  unfold badG
  rcases gvnP_rd (N := N) ha hS v hv with ⟨y, hy, e1, e2⟩ | ⟨_, e⟩
  · have h0 := (hS y hy).1
    have h1 := (hS y hy).2
    rw [e2, decide_eq_false (by omega), decide_eq_false (by omega), decide_eq_false (show ¬ (v : Int) ≤ a by omega), Bool.and_false]; rfl
  · rw [e, decide_eq_false (by omega), decide_eq_false (by omega), decide_eq_false (show ¬ (0 : Int) ≤ -1 by omega)]; rfl
theorem gvnP_le (ha : 0 ≤ a) {S U : List Int} (hS : okL l1 S) (hU : ∀ x ∈ U, x ∈ S) {F : Nat} (hN : F ≤ N) (v : Nat) (hv : v < F) (h0 : 0 ≤ rd (gvnP a l1 N U) (v : Int)) : rd (gvnP a l1 N S) (v : Int) = rd (gvnP a l1 N U) (v : Int) := by
  rcases gvnP_rd (N := N) ha (S := U) (fun x hx => hS x (hU x hx)) v (by omega) with ⟨y, hy, e1, e2⟩ | ⟨_, e⟩
  · rw [e2, e1]
    exact gvnP_at ha hS y (hU y hy) (by omega)
  · omega
/-- The literals that tell the variables, with these latches as constants. -/
def tellP (a : Int) (l1 : List S45) (l2 : List S55) (N : Nat) (S : List Int) : List Int := (builtP a l1 l2 (gvnP a l1 N S)).2
/-- All of these latches stay, with them as constants. -/
def selfP (a : Int) (l1 : List S45) (l2 : List S55) (N : Nat) (S : List Int) : Prop := ∀ x ∈ S, sgnP (tellP a l1 l2 N S) (rd_T45 l1 x).f0 = (rd_T45 l1 x).f1
theorem rdL_map (h : S45 → S45) (l : List S45) (x : Int) (h0 : 0 ≤ x) (h1 : x < (l.length : Int)) : rd_T45 (l.map h) x = h (rd_T45 l x) := by
  obtain ⟨j, rfl⟩ := Int.eq_ofNat_of_zero_le h0
  have hj : j < l.length := by omega
  simp [rd_T45, List.getD, hj]
theorem rdL_mem (l : List S45) (x : Int) (h0 : 0 ≤ x) (h1 : x < (l.length : Int)) : rd_T45 l x ∈ l := by
  obtain ⟨j, rfl⟩ := Int.eq_ofNat_of_zero_le h0
  have hj : j < l.length := by omega
  simp [rd_T45, List.getD, hj]
theorem stay_map (T : List Int) {S : List Int} (hS : okL l1 S) : stayP (l1.map (fun x => (⟨sgnP T x.f0, x.f1⟩ : S45))) l1 S = S.filter fun x => decide (sgnP T (rd_T45 l1 x).f0 = (rd_T45 l1 x).f1) := by
  unfold stayP
  refine List.filter_congr (fun x hx => ?_)
  have := (hS x hx).1
  rw [rdL_map _ _ x this.1 this.2]
  dsimp only
  by_cases c : sgnP T (rd_T45 l1 x).f0 = (rd_T45 l1 x).f1
  · rw [bne_eq_false_iff_eq.mpr c, decide_eq_true c]; rfl
  · rw [bne_iff_ne.mpr c, decide_eq_false c]; rfl
theorem okA_of (hg : Good a l1 l2 l3 l4) (hs : Small l1 l2 l3 l4) : okA (a + (l1.length : Int) + 1) l2 = true := by
  have := okC_of (g := []) hg hs (by simp)
  unfold okC at this
  simp only [Bool.and_eq_true] at this
  exact this.1.1.1.1.2
/-- More latches as constants: what was constant stays constant. -/
theorem tell_mono (hg : Good a l1 l2 l3 l4) (hs : Small l1 l2 l3 l4) (hN : (N : Int) = szS a l1 l2 + 1) {S U : List Int} (hS : okL l1 S) (hU : ∀ x ∈ U, x ∈ S) (l c : Int) (l0 : 0 ≤ l) (lt : l / 2 ≤ szS a l1 l2) (hc : c = 0 ∨ c = 1) (h : sgnP (tellP a l1 l2 N U) l = c) : sgnP (tellP a l1 l2 N S) l = c := by
  have ha0 := hg.a0
  have hn := hg.n
  unfold szS at hN hn lt
  obtain ⟨F, hF⟩ : ∃ F : Nat, (F : Int) = a + (l1.length : Int) + 1 := ⟨(a + (l1.length : Int) + 1).toNat, by omega⟩
  have hA := okA_of hg hs
  rw [← hF] at hA
  have hNF : N = F + l2.length := by omega
  have hU' : okL l1 U := fun x hx => hS x (hU x hx)
  obtain ⟨σ, hσ, ht⟩ := sub_run (ins := a) (by omega) hA (by omega) (gvnP_cg ha0 hU' hF (by omega)) (gvnP_cg ha0 hS hF (by omega)) (fun v hv h0 => gvnP_le ha0 hS hU (by omega) v hv h0) (fun v hv => gvnP_bad ha0 hU' v hv) (fun v hv => gvnP_bad ha0 hS v hv) l2.length (Nat.le_refl _)
  have i1 := inv_run (ins := a) (by omega) hA (by omega) (F + l2.length) (by omega) (fun v hv => gvnP_bad (N := F + l2.length) ha0 hU' v hv)
  have i2 := inv_run (ins := a) (by omega) hA (by omega) (F + l2.length) (by omega) (fun v hv => gvnP_bad (N := F + l2.length) ha0 hS v hv)
  unfold tellP builtP at h ⊢
  rw [gvnP_len, ← hF, hNF] at h ⊢
  generalize runB (F : Int) l2 (gvnP a l1 (F + l2.length) U) (F + l2.length) = r1 at *
  generalize runB (F : Int) l2 (gvnP a l1 (F + l2.length) S) (F + l2.length) = r2 at *
  have n1 := i1.cnt
  have n2 := i2.cnt
  have len1 := i1.len
  have len2 := i2.len
  obtain ⟨u, hu⟩ : ∃ u : Nat, l / 2 = (u : Int) := ⟨(l / 2).toNat, by omega⟩
  rw [sgn_comp i1.lits i2.lits hσ.lit (by omega) (by omega) (by omega) (by rw [hσ.len]; omega) l l0 (by omega) (by omega) (by omega) (by rw [hu]; exact ht u (by omega)), h]
  exact sgn01 hσ.z c hc
/-- The circuit, built with these latches as constants. -/
theorem build_stay (hs : Small l1 l2 l3 l4) (hw : Wf a l1 l2 l3 l4) (c : checkR a l1 l2 l3 l4 = 0) (hN : (N : Int) = szS a l1 l2 + 1) {S : List Int} (hS : okL l1 S) : hash_Build.f a l1 l2 l3 l4 (gvnP a l1 N S) = some (a, l1.map (fun x => ⟨sgnP (tellP a l1 l2 N S) x.f0, x.f1⟩), (builtP a l1 l2 (gvnP a l1 N S)).1, l3.map (sgnP (tellP a l1 l2 N S)), l4.map (sgnP (tellP a l1 l2 N S)), tellP a l1 l2 N S, 0) := by
  have hg := good_of a l1 l2 l3 l4 c
  exact hbuild_ok hs hw c (by rw [gvnP_len]; exact hN) (fun v hv => gvnP_bad hg.a0 hS v (by rw [gvnP_len] at hv; exact hv))
theorem filter_same {α : Type} (p : α → Bool) (l : List α) (h : (l.filter p).length = l.length) : l.filter p = l := List.length_filter_eq_length_iff.1 h |> List.filter_eq_self.2
/-- The latches that stay: they do, and all sets that do are among them. -/
theorem findL_ok (hs : Small l1 l2 l3 l4) (hw : Wf a l1 l2 l3 l4) (c : checkR a l1 l2 l3 l4 = 0) (hN : (N : Int) = szS a l1 l2 + 1) : ∀ (n : Nat) (S : List Int), S.length ≤ n → okL l1 S → ∃ S', (∀ k, n < k → findL a l1 l2 l3 l4 N k S = some (S', a, l1.map (fun x => ⟨sgnP (tellP a l1 l2 N S') x.f0, x.f1⟩), (builtP a l1 l2 (gvnP a l1 N S')).1, l3.map (sgnP (tellP a l1 l2 N S')), l4.map (sgnP (tellP a l1 l2 N S')))) ∧ (∀ x ∈ S', x ∈ S) ∧ S'.length ≤ S.length ∧ selfP a l1 l2 N S' ∧ ∀ U : List Int, (∀ x ∈ U, x ∈ S) → selfP a l1 l2 N U → ∀ x ∈ U, x ∈ S' := by
  have hg := good_of a l1 l2 l3 l4 c
  intro n
  induction n with
  | zero =>
    intro S hl hS
    obtain rfl : S = [] := List.eq_nil_of_length_eq_zero (by omega)
    refine ⟨[], fun k hk => ?_, fun _ h => h, Nat.le_refl _, fun x hx => absurd hx (by simp), fun U h _ => h⟩
    obtain ⟨k, rfl⟩ : ∃ m, k = m + 1 := ⟨k - 1, by omega⟩
    rw [findL, build_stay hs hw c hN hS, Option.bind_some]
    dsimp only
    rw [if_pos (List.length_map ..), show stayP (l1.map (fun x => (⟨sgnP (tellP a l1 l2 N []) x.f0, x.f1⟩ : S45))) l1 [] = [] from rfl, if_pos rfl]
  | succ n ih =>
    intro S hl hS
    have hst : stayP (l1.map (fun x => (⟨sgnP (tellP a l1 l2 N S) x.f0, x.f1⟩ : S45))) l1 S = S.filter fun x => decide (sgnP (tellP a l1 l2 N S) (rd_T45 l1 x).f0 = (rd_T45 l1 x).f1) := stay_map _ hS
    by_cases ce : (S.filter fun x => decide (sgnP (tellP a l1 l2 N S) (rd_T45 l1 x).f0 = (rd_T45 l1 x).f1)).length = S.length
    · have hsame := filter_same _ S ce
      refine ⟨S, fun k hk => ?_, fun _ h => h, Nat.le_refl _, fun x hx => ?_, fun U h _ => h⟩
      · obtain ⟨k, rfl⟩ : ∃ m, k = m + 1 := ⟨k - 1, by omega⟩
        rw [findL, build_stay hs hw c hN hS, Option.bind_some]
        dsimp only
        rw [if_pos (List.length_map ..), hst, if_pos ce, hsame]
      · rw [← hsame] at hx
        exact of_decide_eq_true (List.mem_filter.1 hx).2
    · have hlt : (S.filter fun x => decide (sgnP (tellP a l1 l2 N S) (rd_T45 l1 x).f0 = (rd_T45 l1 x).f1)).length ≤ n := by
        have := List.length_filter_le (fun x => decide (sgnP (tellP a l1 l2 N S) (rd_T45 l1 x).f0 = (rd_T45 l1 x).f1)) S
        omega
      have hle := List.length_filter_le (fun x => decide (sgnP (tellP a l1 l2 N S) (rd_T45 l1 x).f0 = (rd_T45 l1 x).f1)) S
      obtain ⟨S', h1, h2, h3, h4, h5⟩ := ih _ hlt (fun x hx => hS x (List.mem_filter.1 hx).1)
      refine ⟨S', fun k hk => ?_, fun x hx => (List.mem_filter.1 (h2 x hx)).1, by omega, h4, fun U hU hself => h5 U (fun x hx => ?_) hself⟩
      · obtain ⟨k, rfl⟩ : ∃ m, k = m + 1 := ⟨k - 1, by omega⟩
        rw [findL, build_stay hs hw c hN hS, Option.bind_some]
        dsimp only
        rw [if_pos (List.length_map ..), hst, if_neg ce]
        exact h1 k (by omega)
      · have hx1 := hS x (hU x hx)
        have hl := (hg.l _ (rdL_mem l1 x hx1.1.1 hx1.1.2)).1
        exact List.mem_filter.2 ⟨hU x hx, decide_eq_true (tell_mono hg hs hN hS hU _ _ hl.1 hl.2 hx1.2 (hself x hx))⟩
theorem initP_ok (hg : Good a l1 l2 l3 l4) : okL l1 (initP l1 l1.length) := fun x hx => by
  have h := initP_in l1 l1.length x hx
  refine ⟨h, ?_⟩
  obtain ⟨j, hj, rfl⟩ := List.mem_map.1 hx
  have h2 := (List.mem_filter.1 hj).2
  have h3 := (hg.l _ (rdL_mem l1 (j : Int) h.1 h.2)).2
  have h4 := bne_iff_ne.1 h2
  omega
theorem initP_all {x : Int} (h0 : 0 ≤ x) (h1 : x < (l1.length : Int)) (h2 : (rd_T45 l1 x).f1 ≠ 2) : x ∈ initP l1 l1.length := by
  obtain ⟨j, rfl⟩ := Int.eq_ofNat_of_zero_le h0
  exact List.mem_map.2 ⟨j, List.mem_filter.2 ⟨List.mem_range.2 (by omega), bne_iff_ne.2 h2⟩, rfl⟩
/-- What find returns for a valid circuit. -/
theorem find_ok (hs : Small l1 l2 l3 l4) (hw : Wf a l1 l2 l3 l4) (c : checkR a l1 l2 l3 l4 = 0) (hN : (N : Int) = szS a l1 l2 + 1) (k : Nat) (hk : 1000 ≤ k) : ∃ S', constants_find.f k a l1 l2 l3 l4 = some (S', a, l1.map (fun x => ⟨sgnP (tellP a l1 l2 N S') x.f0, x.f1⟩), (builtP a l1 l2 (gvnP a l1 N S')).1, l3.map (sgnP (tellP a l1 l2 N S')), l4.map (sgnP (tellP a l1 l2 N S')), 0) ∧ okL l1 S' ∧ S'.length ≤ l1.length ∧ selfP a l1 l2 N S' ∧ ∀ U : List Int, okL l1 U → selfP a l1 l2 N U → ∀ x ∈ U, x ∈ S' := by
  have hg := good_of a l1 l2 l3 l4 c
  have hs1 := hs.h1
  have hl := initP_len l1 l1.length
  obtain ⟨S', h1, h2, h3, h4, h5⟩ := findL_ok hs hw c hN l1.length (initP l1 l1.length) hl (initP_ok hg)
  have hi := initP_ok hg
  refine ⟨S', ?_, fun x hx => hi x (h2 x hx), by omega, h4, fun U hU hself => h5 U (fun x hx => ?_) hself⟩
  · unfold constants_find.f
    rw [gvars_eq a l1 l2 l3 l4 hs hw, if_pos c, Option.bind_some]
    dsimp only
    rw [if_pos rfl, if_pos ⟨okH_of hg hs, rfl⟩, show (szS a l1 l2 + 1).toNat = N by omega, h1 k (by omega), Option.bind_some]
  · have := hU x hx
    exact initP_all this.1.1 this.1.2 (by omega)
end

def litL (a : Int) (n : Nat) : List Int := (List.range n).map (fun j : Nat => 2 * (a + 1 + (j : Int)))
def litR (n : Nat) : List Int := (List.range n).map (fun j : Nat => 2 * ((j : Int) + 1))
theorem litL_succ (a : Int) (n : Nat) : litL a (n + 1) = litL a n ++ [2 * (a + 1 + (n : Int))] := by simp [litL, List.range_succ]
theorem litR_succ (n : Nat) : litR (n + 1) = litR n ++ [2 * ((n : Int) + 1)] := by simp [litR, List.range_succ]
theorem litL_len (a : Int) (n : Nat) : (litL a n).length = n := by simp [litL]
theorem litR_len (n : Nat) : (litR n).length = n := by simp [litR]
theorem idx_l1 (a : Int) (a0 : 0 ≤ a) (a1 : a ≤ 10000) (l1 : List S45) (l2 : List S55) (l3 l4 : List Int) (s p lit : Int) (rows : List (List Int)) (n : Nat) (hn : n ≤ 10000) (d : Nat) : ∀ (k j : Nat), j + d = n → d < k → lift_Identity.l1 k (n : Int) (j : Int) a l1 l2 l3 l4 s p (litL a j) rows lit = some (s, p, litL a n, rows, litL a n, [], lit, 0) := by
  induction d with
  | zero =>
    intro k j hj hk
    obtain ⟨k, rfl⟩ : ∃ m, k = m + 1 := ⟨k - 1, by omega⟩
    simp only [lift_Identity.l1]
    obtain rfl : j = n := by omega
    rw [if_neg (by omega)]
    unfold slices_Clone_int_int.f
    rw [if_pos (by rw [litL_len]; omega)]
    rfl
  | succ d ih =>
    intro k j hj hk
    obtain ⟨k, rfl⟩ : ∃ m, k = m + 1 := ⟨k - 1, by omega⟩
    simp only [lift_Identity.l1]
    rw [if_pos (by omega), if_pos (by rw [litL_len]; omega), w64 (a + 1) (by omega) (by omega), w64 (a + 1 + (j : Int)) (by omega) (by omega), w64 (2 * (a + 1 + (j : Int))) (by omega) (by omega), w64 ((j : Int) + 1) (by omega) (by omega), ← litL_succ, show (j : Int) + 1 = ((j + 1 : Nat) : Int) by omega]
    exact ih k (j + 1) (by omega) (by omega)
theorem idx_l0 (A : Nat) (hA : A ≤ 10000) (l1 : List S45) (l2 : List S55) (l3 l4 : List Int) (s p lit : Int) (hn : l1.length ≤ 10000) (d : Nat) : ∀ (k v : Nat), v + d = A → d + l1.length + 1 < k → lift_Identity.l0 k ((v : Int) + 1) (A : Int) l1 l2 l3 l4 s p [litR v] lit = some (s, p, litL (A : Int) l1.length, [litR A], litL (A : Int) l1.length, [], lit, 0) := by
  induction d with
  | zero =>
    intro k v hv hk
    obtain ⟨k, rfl⟩ : ∃ m, k = m + 1 := ⟨k - 1, by omega⟩
    simp only [lift_Identity.l0]
    obtain rfl : v = A := by omega
    rw [if_neg (by omega)]
    exact idx_l1 (v : Int) (by omega) (by omega) l1 l2 l3 l4 s p lit _ l1.length hn l1.length k 0 (by omega) (by omega)
  | succ d ih =>
    intro k v hv hk
    obtain ⟨k, rfl⟩ : ∃ m, k = m + 1 := ⟨k - 1, by omega⟩
    simp only [lift_Identity.l0]
    have er : rd_L3 [litR v] 0 = litR v := rfl
    have es : ([litR v] : List (List Int)).set (0 : Int).toNat (litR v ++ [2 * ((v : Int) + 1)]) = [litR (v + 1)] := by rw [litR_succ]; rfl
    rw [er, if_pos (by omega), if_pos (by simp), if_pos (by rw [litR_len]; omega), w64 (2 * ((v : Int) + 1)) (by omega) (by omega), es, w64 ((v : Int) + 1 + 1) (by omega) (by omega), show (v : Int) + 1 + 1 = ((v + 1 : Nat) : Int) + 1 by omega]
    exact ih k (v + 1) (by omega) (by omega)
theorem idx_eq (k : Nat) (A : Nat) (l1 : List S45) (l2 : List S55) (l3 l4 : List Int) (hs : Small l1 l2 l3 l4) (hw : Wf (A : Int) l1 l2 l3 l4) (hc : checkR (A : Int) l1 l2 l3 l4 = 0) (hk : 2000 ≤ k) : lift_Identity.f k (A : Int) l1 l2 l3 l4 = some (0, 1, litL (A : Int) l1.length, [litR A], litL (A : Int) l1.length, [], 1, 0) := by
  have hg := good_of _ l1 l2 l3 l4 hc
  have ha0 := hg.a0
  have ha1 := hg.a1
  have hs1 := hs.h1
  unfold lift_Identity.f
  rw [gcheck_eq _ l1 l2 l3 l4 hs hw, Option.bind_some, hc, if_pos rfl, if_pos (by decide)]
  have := idx_l0 A (by omega) l1 l2 l3 l4 0 1 1 (by omega) A k 0 (by omega) (by omega)
  exact this

-- the circuit that constants builds, built again
theorem find_filter {a : Int} {l1 : List S45} {l2 : List S55} {l3 l4 : List Int} {N : Nat} : ∀ (k : Nat) (S : List Int) (r : List Int × Int × List S45 × List S55 × List Int × List Int), findL a l1 l2 l3 l4 N k S = some r → r.1 = S.filter (fun x => decide (x ∈ r.1)) ∧ ∀ x ∈ r.1, x ∈ S
  | 0, S, r, h => by simp [findL] at h
  | k + 1, S, r, h => by
    rw [findL] at h
    obtain ⟨x, -, h⟩ := Option.bind_eq_some_iff.1 h
    by_cases c : x.2.1.length = l1.length
    case neg => rw [if_neg c] at h; exact absurd h (by simp)
    rw [if_pos c] at h
    by_cases ce : (stayP x.2.1 l1 S).length = S.length
    · rw [if_pos ce, Option.some.injEq] at h
      subst h
      have e : stayP x.2.1 l1 S = S := filter_same _ S ce
      dsimp only
      rw [e]
      exact ⟨(List.filter_eq_self.2 (fun y hy => decide_eq_true hy)).symm, fun _ h => h⟩
    · rw [if_neg ce] at h
      obtain ⟨e, hm⟩ := find_filter k _ r h
      refine ⟨?_, fun y hy => (List.mem_filter.1 (hm y hy)).1⟩
      refine e.trans ?_
      unfold stayP
      rw [List.filter_filter]
      refine List.filter_congr (fun y hy => ?_)
      by_cases m : y ∈ r.1
      · rw [decide_eq_true m, Bool.true_and]; exact (List.mem_filter.1 (hm y m)).2
      · rw [decide_eq_false m, Bool.false_and]
theorem gvn_same {a : Int} {l1 L : List S45} {N M : Nat} (ha : 0 ≤ a) {U : List Int} (h1 : okL l1 U) (h2 : okL L U) (hf : ∀ x, 0 ≤ x → x < (l1.length : Int) → (rd_T45 L x).f1 = (rd_T45 l1 x).f1) (v : Nat) (hv : v < N) (hm : v < M) : rd (gvnP a L M U) (v : Int) = rd (gvnP a l1 N U) (v : Int) := by
  rcases gvnP_rd ha h1 v hv with ⟨x, hx, e, r⟩ | ⟨ne, r⟩
  · rcases gvnP_rd ha h2 v hm with ⟨y, hy, e2, r2⟩ | ⟨ne2, r2⟩
    · obtain rfl : x = y := by omega
      rw [r, r2, hf x (h1 x hx).1.1 (h1 x hx).1.2]
    · exact absurd e (ne2 x hx)
  · rcases gvnP_rd ha h2 v hm with ⟨y, hy, e2, r2⟩ | ⟨ne2, r2⟩
    · exact absurd e2 (ne y hy)
    · rw [r, r2]
theorem okV_same {F : Nat} {g g' : List Int} (h : ∀ v : Nat, v < F → rd g' (v : Int) = rd g (v : Int)) {t : Int} (h0 : 0 ≤ t) (ht : okV F g t) : okV F g' t := fun hlt => by
  have := ht hlt
  obtain ⟨u, hu⟩ : ∃ u : Nat, t / 2 = (u : Int) := ⟨(t / 2).toNat, by omega⟩
  rw [hu] at this hlt ⊢
  rw [h u (by omega)]
  exact this
/-- Built again with the same latches it is itself; and what stays in it stays in the first. -/
structure Ag (a : Int) (l1 : List S45) (l2 : List S55) (N : Nat) (S : List Int) (L : List S45) (G : List S55) (M : Nat) : Prop where
  ok : okL L S
  self : selfP a L G M S
  back : ∀ U : List Int, okL L U → selfP a L G M U → (∀ x ∈ S, x ∈ U) → okL l1 U ∧ selfP a l1 l2 N U
  gates : (builtP a L G (gvnP a L M S)).1 = G
  same : ∀ l : Int, 0 ≤ l → l / 2 ≤ szS a l1 l2 → sgnP (tellP a L G M S) (sgnP (tellP a l1 l2 N S) l) = sgnP (tellP a l1 l2 N S) l
  clean : ∀ l : Int, 0 ≤ l → l / 2 ≤ szS a l1 l2 → ∀ x ∈ S, sgnP (tellP a l1 l2 N S) l / 2 ≠ a + 1 + x
  cleanG : ∀ z ∈ G, ∀ x ∈ S, z.f0 / 2 ≠ a + 1 + x ∧ z.f1 / 2 ≠ a + 1 + x
theorem again_ok {a : Int} {l1 : List S45} {l2 : List S55} {l3 l4 : List Int} {N M : Nat} {L : List S45} {G : List S55} (hs : Small l1 l2 l3 l4) (c : checkR a l1 l2 l3 l4 = 0) (hN : (N : Int) = szS a l1 l2 + 1) {S : List Int} (hok : okL l1 S) (hself : selfP a l1 l2 N S)
    (eL : L = l1.map (fun x => ⟨sgnP (tellP a l1 l2 N S) x.f0, x.f1⟩)) (eG : G = (builtP a l1 l2 (gvnP a l1 N S)).1) (hM : (M : Int) = szS a L G + 1) : Ag a l1 l2 N S L G M := by
  have hg := good_of a l1 l2 l3 l4 c
  have ha0 := hg.a0
  have hn := hg.n
  have hlen : L.length = l1.length := by rw [eL, List.length_map]
  have hrd : ∀ x, 0 ≤ x → x < (l1.length : Int) → rd_T45 L x = ⟨sgnP (tellP a l1 l2 N S) (rd_T45 l1 x).f0, (rd_T45 l1 x).f1⟩ := fun x h0 h1 => by rw [eL]; exact rdL_map _ _ x h0 h1
  have hf : ∀ x, 0 ≤ x → x < (l1.length : Int) → (rd_T45 L x).f1 = (rd_T45 l1 x).f1 := fun x h0 h1 => by rw [hrd x h0 h1]
  have okLL : ∀ U, okL L U ↔ okL l1 U := fun U => by
    constructor
    · intro h x hx
      have := h x hx
      rw [hlen] at this
      exact ⟨this.1, by rw [← hf x this.1.1 this.1.2]; exact this.2⟩
    · intro h x hx
      have := h x hx
      refine ⟨by rw [hlen]; exact this.1, by rw [hf x this.1.1 this.1.2]; exact this.2⟩
  unfold szS at hN hn hM
  obtain ⟨F, hF⟩ : ∃ F : Nat, (F : Int) = a + (l1.length : Int) + 1 := ⟨(a + (l1.length : Int) + 1).toNat, by omega⟩
  have hA := okA_of hg hs
  rw [← hF] at hA
  have hNF : N = F + l2.length := by omega
  have hMF : M = F + G.length := by omega
  subst hNF
  subst hMF
  have hFi : a + (L.length : Int) + 1 = (F : Int) := by omega
  have cg := gvnP_cg (N := F + l2.length) ha0 hok hF (by omega)
  have hb : ∀ v : Nat, v < F + l2.length → badG a (gvnP a l1 (F + l2.length) S) v = false := fun v hv => gvnP_bad ha0 hok v hv
  have i1 := inv_run (ins := a) (by omega) hA (by omega) (F + l2.length) (by omega) hb
  obtain ⟨cz, ct⟩ := clean_run (ins := a) (by omega) hA (by omega) cg hb l2.length (Nat.le_refl _)
  have eT : tellP a l1 l2 (F + l2.length) S = (runB (F : Int) l2 (gvnP a l1 (F + l2.length) S) (F + l2.length)).2 := by unfold tellP builtP; rw [gvnP_len, ← hF]
  have eG2 : G = (runB (F : Int) l2 (gvnP a l1 (F + l2.length) S) (F + l2.length)).1 := by rw [eG]; unfold builtP; rw [gvnP_len, ← hF]
  have hsub := fun (U : List Int) (hU : okL l1 U) (hSU : ∀ x ∈ S, x ∈ U) => sub_run (ins := a) (by omega) hA (by omega) cg (gvnP_cg (N := F + l2.length) ha0 hU hF (by omega)) (fun v hv h0 => gvnP_le ha0 hU hSU (by omega) v hv h0) hb (fun v hv => gvnP_bad ha0 hU v hv) l2.length (Nat.le_refl _)
  have i2 := fun (U : List Int) (hU : okL l1 U) => inv_run (given := gvnP a l1 (F + l2.length) U) (ins := a) (by omega) hA (by omega) (F + l2.length) (by omega) (fun v hv => gvnP_bad (N := F + l2.length) ha0 hU v hv)
  rw [eT] at hrd
  unfold selfP at hself
  rw [eT] at hself
  rw [← eG2] at cz
  have hfine := i1.fine
  rw [← eG2] at hfine
  have hcnt := i1.cnt
  rw [← eG2] at hcnt
  have hlits := i1.lits
  rw [← eG2] at hlits
  have htl := i1.len
  have hsgn : ∀ l : Int, 0 ≤ l → l / 2 ≤ a + (l1.length : Int) + (l2.length : Int) → (0 ≤ sgnP (runB (F : Int) l2 (gvnP a l1 (F + l2.length) S) (F + l2.length)).2 l ∧ sgnP (runB (F : Int) l2 (gvnP a l1 (F + l2.length) S) (F + l2.length)).2 l / 2 < (F : Int) + G.length) ∧ okV F (gvnP a l1 (F + l2.length) S) (sgnP (runB (F : Int) l2 (gvnP a l1 (F + l2.length) S) (F + l2.length)).2 l) := fun l h0 h1 =>
    ⟨sgn_lit hlits (by omega) l h0 (by omega) (by omega), okV_sgn hlits (by omega) ct l h0 (by omega) (by omega)⟩
  have hgs : ∀ v : Nat, v < F → rd (gvnP a L (F + G.length) S) (v : Int) = rd (gvnP a l1 (F + l2.length) S) (v : Int) := fun v hv => gvn_same ha0 hok ((okLL S).2 hok) hf v (by omega) (by omega)
  have cg2 : Cg F (F + G.length) (gvnP a L (F + G.length) S) := gvnP_cg ha0 ((okLL S).2 hok) (by omega) (by omega)
  have hrr := rerunC (N := F + G.length) (by omega) hfine (by omega) cg2 (fun z hz => by
    obtain ⟨i, hi, rfl⟩ := List.mem_iff_getElem.1 hz
    obtain ⟨b1, b2, b3, b4⟩ := hfine.ok i hi
    have := cz _ hz
    exact ⟨okV_same hgs (by omega) this.1, okV_same hgs (by omega) this.2⟩) G.length (Nat.le_refl _)
  have eB : builtP a L G (gvnP a L (F + G.length) S) = (G.take G.length, told0 F (gvnP a L (F + G.length) S) G.length) := by unfold builtP; rw [gvnP_len, hFi]; exact hrr
  have hid : ∀ l : Int, 0 ≤ l → l / 2 < (F : Int) + G.length → okV F (gvnP a l1 (F + l2.length) S) l → sgnP (tellP a L G (F + G.length) S) l = l := fun l h0 h1 hv => by
    unfold tellP
    rw [eB]
    exact told0_sgn F _ G.length (by omega) l h0 h1 (okV_same hgs h0 hv)
  have hgiven : ∀ t : Int, okV F (gvnP a l1 (F + l2.length) S) t → ∀ x ∈ S, t / 2 ≠ a + 1 + x := fun t ht x hx e => by
    have hx1 := hok x hx
    have := ht (by omega)
    rw [e, gvnP_at ha0 hok x hx (by omega)] at this
    omega
  refine ⟨(okLL S).2 hok, fun x hx => ?_, fun U hU hUs hSU => ⟨(okLL U).1 hU, fun x hx => ?_⟩, by rw [eB]; exact List.take_length, fun l h0 h1 => ?_, fun l h0 h1 x hx => ?_, fun z hz x hx => ?_⟩
  · have hx1 := hok x hx
    have hl := (hg.l _ (rdL_mem l1 x hx1.1.1 hx1.1.2)).1
    have := hsgn _ hl.1 (by have := hl.2; unfold szS at this; exact this)
    rw [hrd x hx1.1.1 hx1.1.2]
    dsimp only
    rw [hid _ this.1.1 this.1.2 this.2]
    exact hself x hx
  · have hU1 := (okLL U).1 hU
    have hx1 := hU1 x hx
    have hl := (hg.l _ (rdL_mem l1 x hx1.1.1 hx1.1.2)).1
    have hl2 : (rd_T45 l1 x).f0 / 2 ≤ a + (l1.length : Int) + (l2.length : Int) := hl.2
    have hq := hsgn _ hl.1 hl2
    have hu := hUs x hx
    rw [hrd x hx1.1.1 hx1.1.2] at hu
    dsimp only at hu
    obtain ⟨σ, hσ, ht⟩ := hsub U hU1 hSU
    have j2 := i2 U hU1
    have hrun := hσ.run
    have hcong : runB (F : Int) G (gvnP a L (F + G.length) U) (F + G.length) = runB (F : Int) G (gvnP a l1 (F + l2.length) U) (F + G.length) := runB_congr _ _ _ _ _ (fun v hv => gvn_same ha0 hU1 hU hf v (by omega) (by omega))
    rw [← eG2] at hrun
    have eσ : tellP a L G (F + G.length) U = σ := by unfold tellP builtP; rw [gvnP_len, hFi, hcong, hrun]
    rw [eσ] at hu
    have eT2 : tellP a l1 l2 (F + l2.length) U = (runB (F : Int) l2 (gvnP a l1 (F + l2.length) U) (F + l2.length)).2 := by unfold tellP builtP; rw [gvnP_len, ← hF]
    rw [eT2]
    have m1 := j2.cnt
    have m2 := j2.len
    have m3 := hσ.len
    rw [← eG2] at m3
    obtain ⟨u, hu2⟩ : ∃ u : Nat, (rd_T45 l1 x).f0 / 2 = (u : Int) := ⟨((rd_T45 l1 x).f0 / 2).toNat, by omega⟩
    rw [sgn_comp hlits j2.lits hσ.lit (by omega) (by omega) (by omega) (by rw [m3]; omega) _ hl.1 (by omega) (by omega) (by omega) (by rw [hu2]; exact ht u (by omega)), hu]
  · have := hsgn l h0 h1
    rw [eT]
    exact hid _ this.1.1 this.1.2 this.2
  · rw [eT]; exact hgiven _ (hsgn l h0 h1).2 x hx
  · exact ⟨hgiven _ (cz z hz).1 x hx, hgiven _ (cz z hz).2 x hx⟩
theorem initP_same {l1 L : List S45} (hl : L.length = l1.length) (hf : ∀ x, 0 ≤ x → x < (l1.length : Int) → (rd_T45 L x).f1 = (rd_T45 l1 x).f1) : initP L L.length = initP l1 l1.length := by
  unfold initP
  rw [hl]
  congr 1
  refine List.filter_congr (fun j hj => ?_)
  have := List.mem_range.1 hj
  rw [hf (j : Int) (by omega) (by omega)]
theorem find_eq {a : Int} {l1 : List S45} {l2 : List S55} {l3 l4 : List Int} (hs : Small l1 l2 l3 l4) (hw : Wf a l1 l2 l3 l4) (c : checkR a l1 l2 l3 l4 = 0) {k : Nat} {S' : List Int} {a' : Int} {L' : List S45} {G' : List S55} {B' D' : List Int} (h : constants_find.f k a l1 l2 l3 l4 = some (S', a', L', G', B', D', 0)) : S' = (initP l1 l1.length).filter (fun x => decide (x ∈ S')) := by
  have hg := good_of a l1 l2 l3 l4 c
  unfold constants_find.f at h
  rw [gvars_eq a l1 l2 l3 l4 hs hw, if_pos c, Option.bind_some] at h
  dsimp only at h
  rw [if_pos rfl, if_pos ⟨okH_of hg hs, rfl⟩] at h
  obtain ⟨x, hx, h⟩ := Option.bind_eq_some_iff.1 h
  have := (find_filter _ _ _ hx).1
  simp only [Option.some.injEq, Prod.mk.injEq] at h
  rw [← h.1]
  exact this
/-- constants finds in what it built what it found; and builds it again. -/
theorem find_again (k : Nat) (hk : 1000 ≤ k) {a : Int} {l1 : List S45} {l2 : List S55} {l3 l4 : List Int} (hs : Small l1 l2 l3 l4) (hw : Wf a l1 l2 l3 l4) (c : checkR a l1 l2 l3 l4 = 0) : ∃ (S : List Int) (L : List S45) (G : List S55) (B D : List Int),
    constants_find.f k a l1 l2 l3 l4 = some (S, a, L, G, B, D, 0) ∧ constants_find.f k a L G B D = some (S, a, L, G, B, D, 0) ∧ checkR a L G B D = 0 ∧ Small L G B D ∧ Wf a L G B D ∧ L.length = l1.length ∧ okL l1 S ∧ S.length ≤ l1.length ∧ B.length = l3.length ∧ D.length = l4.length ∧
    (∀ l, (l ∈ B ∨ l ∈ D ∨ ∃ x ∈ L, l = x.f0) → ∀ x ∈ S, l / 2 ≠ a + 1 + x) ∧ ∀ z ∈ G, ∀ x ∈ S, z.f0 / 2 ≠ a + 1 + x ∧ z.f1 / 2 ≠ a + 1 + x := by
  have hg := good_of a l1 l2 l3 l4 c
  have ha0 := hg.a0
  obtain ⟨N, hN⟩ : ∃ N : Nat, (N : Int) = szS a l1 l2 + 1 := ⟨(szS a l1 l2 + 1).toNat, by have := hg.a0; unfold szS; omega⟩
  obtain ⟨S, h1, hok, hlS, hself, hgr⟩ := find_ok hs hw c hN k hk
  obtain ⟨c2, hs2, hw2, -⟩ := built_of (g := gvnP a l1 N S) hs c (by rw [gvnP_len]; exact hN) (fun v hv => gvnP_bad ha0 hok v (by rw [gvnP_len] at hv; exact hv))
  have hfe := find_eq hs hw c h1
  rw [show (builtP a l1 l2 (gvnP a l1 N S)).2 = tellP a l1 l2 N S from rfl] at c2 hs2 hw2
  generalize eL : l1.map (fun x => (⟨sgnP (tellP a l1 l2 N S) x.f0, x.f1⟩ : S45)) = L at *
  generalize eG : (builtP a l1 l2 (gvnP a l1 N S)).1 = G at *
  generalize eB : l3.map (sgnP (tellP a l1 l2 N S)) = B at *
  generalize eD : l4.map (sgnP (tellP a l1 l2 N S)) = D at *
  have hg2 := good_of a L G B D c2
  obtain ⟨M, hM⟩ : ∃ M : Nat, (M : Int) = szS a L G + 1 := ⟨(szS a L G + 1).toNat, by have := hg2.a0; unfold szS; omega⟩
  have A := again_ok hs c hN hok hself eL.symm eG.symm hM
  obtain ⟨S2, h2, hok2, hlS2, hself2, hgr2⟩ := find_ok hs2 hw2 c2 hM k hk
  have hfe2 := find_eq hs2 hw2 c2 h2
  have hsub := hgr2 S A.ok A.self
  obtain ⟨ob, sb⟩ := A.back S2 hok2 hself2 hsub
  have hsub2 := hgr S2 ob sb
  have hlen : L.length = l1.length := by rw [← eL, List.length_map]
  have hi : initP L L.length = initP l1 l1.length := initP_same hlen (fun x h0 h1 => by rw [← eL, rdL_map _ _ x h0 h1])
  have eS : S2 = S := by
    rw [hfe2, hi, hfe]
    refine List.filter_congr (fun y _ => ?_)
    by_cases m : y ∈ S
    · rw [decide_eq_true m, decide_eq_true (hsub y m)]
    · rw [decide_eq_false m, decide_eq_false (fun h => m (hsub2 y h))]
  subst eS
  have eL2 : L.map (fun x => (⟨sgnP (tellP a L G M S2) x.f0, x.f1⟩ : S45)) = L := by
    rw [← eL, List.map_map]
    refine List.map_congr_left (fun x hx => ?_)
    have := (hg.l x hx).1
    rw [eL]
    show (⟨sgnP (tellP a L G M S2) (sgnP (tellP a l1 l2 N S2) x.f0), x.f1⟩ : S45) = _
    rw [A.same _ this.1 this.2]
  have eB2 : B.map (sgnP (tellP a L G M S2)) = B := by
    rw [← eB, List.map_map]
    refine List.map_congr_left (fun x hx => ?_)
    exact A.same _ (hg.b x hx).1 (hg.b x hx).2
  have eD2 : D.map (sgnP (tellP a L G M S2)) = D := by
    rw [← eD, List.map_map]
    refine List.map_congr_left (fun x hx => ?_)
    exact A.same _ (hg.c x hx).1 (hg.c x hx).2
  rw [eL2, eB2, eD2, A.gates] at h2
  refine ⟨S2, L, G, B, D, h1, h2, c2, hs2, hw2, hlen, hok, hlS, by rw [← eB, List.length_map], by rw [← eD, List.length_map], fun l hl => ?_, A.cleanG⟩
  rcases hl with hl | hl | ⟨x, hx, rfl⟩
  · rw [← eB] at hl
    obtain ⟨x, hx, rfl⟩ := List.mem_map.1 hl
    exact A.clean x (hg.b x hx).1 (hg.b x hx).2
  · rw [← eD] at hl
    obtain ⟨x, hx, rfl⟩ := List.mem_map.1 hl
    exact A.clean x (hg.c x hx).1 (hg.c x hx).2
  · rw [← eL] at hx
    obtain ⟨y, hy, rfl⟩ := List.mem_map.1 hx
    exact A.clean y.f0 (hg.l y hy).1.1 (hg.l y hy).1.2

theorem al27 (k : Nat) (hk : 100 ≤ k) : spiritlevellaw27_alive.f k = some true := by
  have al : spiritlevellaw27_alive.f 100 = some true := by decide +kernel
  obtain ⟨d, rfl⟩ := Nat.exists_eq_add_of_le hk
  induction d with
  | zero => exact al
  | succ d ih => exact spiritlevellaw27_alive.mono (100 + d) _ (ih (by omega))

theorem Rch_keeps {first : Int} {gs : List S55} {N : Nat} (hD : Down first gs N) (P : Int → Prop) (h0 : 0 ≤ first) (hn : ∀ z ∈ gs, 0 ≤ z.f0 ∧ 0 ≤ z.f1) (hG : ∀ z ∈ gs, P (z.f0 / 2) ∧ P (z.f1 / 2)) : ∀ (n v x : Nat), v < n → v < N → P (v : Int) → Rch first gs v x → P (x : Int)
  | 0, v, x, h, _, _, _ => absurd h (by omega)
  | n + 1, v, x, h, hN, hv, hr => by
    have hl := hD.len
    rcases Rch_cases hD v x hN hr with ⟨-, rfl⟩ | ⟨hf, hr⟩
    · exact hv
    · obtain ⟨i, hi⟩ : ∃ i : Nat, (v : Int) - first = (i : Int) := ⟨((v : Int) - first).toNat, by omega⟩
      have hlt : i < gs.length := by omega
      have ez : rd_T55 gs ((v : Int) - first) = gs[i] := by rw [hi]; simp [rd_T55, List.getD, hlt]
      have hm := List.getElem_mem hlt
      have z0 := hn _ hm
      have z1 := hG _ hm
      rcases hr with hr | hr
      · have hk := hD.a v hf hN
        refine Rch_keeps hD P h0 hn hG n _ x (by omega) (by omega) ?_ hr
        unfold kidA
        rw [ez, Int.toNat_of_nonneg (by omega)]
        exact z1.1
      · have hk := hD.b v hf hN
        refine Rch_keeps hD P h0 hn hG n _ x (by omega) (by omega) ?_ hr
        unfold kidB
        rw [ez, Int.toNat_of_nonneg (by omega)]
        exact z1.2
theorem pass_of (k A : Nat) {l1 : List S45} {l2 : List S55} {l3 l4 : List Int} (hs : Small l1 l2 l3 l4) (hw : Wf (A : Int) l1 l2 l3 l4) (c : checkR (A : Int) l1 l2 l3 l4 = 0) (hk : 20000 ≤ k) {S : List Int} {a' : Int} {L : List S45} {G : List S55} {B D : List Int} (h : constants_find.f k (A : Int) l1 l2 l3 l4 = some (S, a', L, G, B, D, 0)) (hok : okL l1 S) (hl : S.length ≤ l1.length) : ∃ (y3 : List Int) (z : List (List Int)) (y5 : List Int) (y6 : List S55) (y7 : Int), constants_Pass.f k (A : Int) l1 l2 l3 l4 = some (a', L, G, B, D, 0, 1, y3, z, y5, y6, y7, 0) := by
  have hg := good_of _ l1 l2 l3 l4 c
  have hs1 := hs.h1
  refine ⟨litL (A : Int) l1.length, [litR A], litL (A : Int) l1.length, (S.foldl (chainS l1) ([], 1)).1, (S.foldl (chainS l1) ([], 1)).2, ?_⟩
  unfold constants_Pass.f
  rw [h, Option.bind_some]
  dsimp only
  rw [if_pos rfl, idx_eq k A l1 l2 l3 l4 hs hw c (by omega), Option.bind_some]
  dsimp only
  rw [if_pos]
  unfold okS
  rw [Bool.and_eq_true, Bool.and_eq_true, Bool.and_eq_true, decide_eq_true_eq, decide_eq_true_eq, decide_eq_true_eq, List.all_eq_true]
  refine ⟨⟨⟨by omega, by omega⟩, by simp⟩, fun x hx => ?_⟩
  have := hok x hx
  rw [decide_eq_true_eq]
  omega
theorem cones_hf (k : Nat) (a : Int) (l1 : List S45) (l2 : List S55) (l3 l4 : List Int) (hs : Small l1 l2 l3 l4) (hw : Wf a l1 l2 l3 l4) (c : checkR a l1 l2 l3 l4 = 0) (hk : 30000 ≤ k) :
    ∃ (S : List Int) (xi xs xp xl : Int) (x1 : List S45) (x2 : List S55) (x3 x4 x7 : List Int) (x8 : List (List Int)) (x9 : List Int) (xA : List S55) (ri rs rp rl : Int) (r1 : List S45) (r2 : List S55) (r3 r4 r7 : List Int) (r8 : List (List Int)) (r9 : List Int) (rA : List S55), HF k a l1 l2 l3 l4 S xi xs xp xl x1 x2 x3 x4 x7 x8 x9 xA ri rs rp rl r1 r2 r3 r4 r7 r8 r9 rA := by
  have hg := good_of a l1 l2 l3 l4 c
  have ha0 := hg.a0
  have ha1 := hg.a1
  have hs1 := hs.h1
  have hs3 := hs.h3
  have hs4 := hs.h4
  obtain ⟨A, rfl⟩ : ∃ A : Nat, a = (A : Int) := ⟨a.toNat, by omega⟩
  obtain ⟨S, L, G, B, D, h1, h2, c2, hs2, hw2, hlen, hok, hlS, hlB, hlD, hcl, hcG⟩ := find_again k (by omega) hs hw c
  have hg2 := good_of _ L G B D c2
  have hok2 : okL L S := by
    obtain ⟨N, hN⟩ : ∃ N : Nat, (N : Int) = szS (A : Int) L G + 1 := ⟨(szS (A : Int) L G + 1).toNat, by unfold szS; omega⟩
    obtain ⟨S2, e2, o2, -⟩ := find_ok hs2 hw2 c2 hN k (by omega)
    rw [h2] at e2
    simp only [Option.some.injEq, Prod.mk.injEq] at e2
    rw [e2.1]; exact o2
  obtain ⟨x7, x8, x9, xA, xl, hp⟩ := pass_of k A hs hw c (by omega) h1 hok hlS
  obtain ⟨r7, r8, r9, rA, rl, hp2⟩ := pass_of k A hs2 hw2 c2 (by omega) h2 hok2 (by omega)
  refine ⟨S, _, _, _, _, _, _, _, _, _, _, _, _, _, _, _, _, _, _, _, _, _, _, _, _, ⟨?_, hp, ?_, hp2, sameInts_eq k S (by omega) (by omega), same_eq k _ L G B D hs2 (by omega), hlen, ⟨by omega, by omega, by omega, by omega, by omega, by omega⟩, fun s hs => ?_, fun l hl => ?_⟩⟩
  · unfold constants_Stay.f
    rw [h1, Option.bind_some]
  · unfold constants_Stay.f
    rw [h2, Option.bind_some]
  · have := hok s hs
    omega
  · have hin : (0 ≤ l ∧ l / 2 ≤ szS (A : Int) L G) ∧ ∀ x ∈ S, l / 2 ≠ (A : Int) + 1 + x := by
      rcases List.mem_append.1 hl with hl | hl
      · rcases List.mem_append.1 hl with hl | hl
        · exact ⟨hg2.b l hl, hcl l (.inl hl)⟩
        · exact ⟨hg2.c l hl, hcl l (.inr (.inl hl))⟩
      · obtain ⟨x, hx, rfl⟩ := List.mem_map.1 hl
        exact ⟨(hg2.l x hx).1, hcl _ (.inr (.inr ⟨x, hx, rfl⟩))⟩
    have hn2 := hg2.n
    have hn3 := hin.1.2
    have hv : ((l / 2).toNat : Int) = l / 2 := Int.toNat_of_nonneg (by omega)
    have hI := is_cone hg2 (l / 2).toNat (by omega)
    refine ⟨_, (gcone_eq k _ L G B D l hs2 hw2 (by omega) (by omega)).trans (congrArg some (coneR_of c2 l hin.1.1 hin.1.2)), by have := hI.len; omega, fun y hy s hss => ?_⟩
    obtain ⟨x, rfl, hx⟩ := (hI.mem y).1 hy
    have hN : ((allN (A : Int) L G : Nat) : Int) = szS (A : Int) L G + 1 := by unfold allN; unfold szS at *; omega
    refine Rch_keeps (good_down hg2) (fun y => ∀ s ∈ S, y ≠ (A : Int) + 1 + s) (by omega) (fun z hz => ?_) (fun z hz => ⟨fun s hs => (hcG z hz s hs).1, fun s hs => (hcG z hz s hs).2⟩) _ _ x (Nat.lt_succ_self _) (by omega) (fun s hs => by rw [hv]; exact hin.2 s hs) hx s hss
    obtain ⟨i, hi, rfl⟩ := List.mem_iff_getElem.1 hz
    have := good_gate hg2 i hi
    rw [show rd_T55 G (i : Int) = G[i] by simp [rd_T55, List.getD, hi]] at this
    exact ⟨this.1, this.2.2.1⟩


theorem constantsCones_all (a0_0 : Int) (A0_1 : Option Addr) (c0_1 : Nat) (l0_1 : List (S45)) (A0_2 : Option Addr) (c0_2 : Nat) (l0_2 : List (S55)) (A0_3 : Option Addr) (c0_3 : Nat) (l0_3 : List Int) (A0_4 : Option Addr) (c0_4 : Nat) (l0_4 : List Int) (w : World) (hr0_1 : Kd.C k45 w A0_1 l0_1.length l0_1) (hc0_1 : l0_1.length ≤ c0_1) (hr0_2 : Kd.C k55 w A0_2 l0_2.length l0_2) (hc0_2 : l0_2.length ≤ c0_2) (hr0_3 : Kd.C (Kd.int .i64) w A0_3 l0_3.length l0_3) (hc0_3 : l0_3.length ≤ c0_3) (hr0_4 : Kd.C (Kd.int .i64) w A0_4 l0_4.length l0_4) (hc0_4 : l0_4.length ≤ c0_4) (ok0_0 : (Lit.int .i64 a0_0).wf = true) (ok0_1 : l0_1.length ≤ 9223372036854775807 ∧ l0_1.length * 16 ≤ 140737488351232 ∧ ∀ x0_ ∈ l0_1, ((Lit.int .i64 x0_.f0).wf = true) ∧ ((Lit.int .i64 x0_.f1).wf = true)) (ok0_2 : l0_2.length ≤ 9223372036854775807 ∧ l0_2.length * 16 ≤ 140737488351232 ∧ ∀ x0_ ∈ l0_2, ((Lit.int .i64 x0_.f0).wf = true) ∧ ((Lit.int .i64 x0_.f1).wf = true)) (ok0_3 : l0_3.length ≤ 9223372036854775807 ∧ l0_3.length * 8 ≤ 140737488351232 ∧ ∀ x0_ ∈ l0_3, (Lit.int .i64 x0_).wf = true) (ok0_4 : l0_4.length ≤ 9223372036854775807 ∧ l0_4.length * 8 ≤ 140737488351232 ∧ ∀ x0_ ∈ l0_4, (Lit.int .i64 x0_).wf = true) :
    Calls Try.prog 3 #[.agg #[.int .i64 a0_0, .slice A0_1 l0_1.length c0_1, .slice A0_2 l0_2.length c0_2, .slice A0_3 l0_3.length c0_3, .slice A0_4 l0_4.length c0_4]] w fun e w' => e = .returned (.bool true) ∧ Below w.heap.size w w' := by
  have hw : Wf a0_0 l0_1 l0_2 l0_3 l0_4 := ⟨wf_i64 ok0_0, fun x hx => ⟨wf_i64 (ok0_1.2.2 x hx).1, wf_i64 (ok0_1.2.2 x hx).2⟩, fun x hx => ⟨wf_i64 (ok0_2.2.2 x hx).1, wf_i64 (ok0_2.2.2 x hx).2⟩, fun x hx => wf_i64 (ok0_3.2.2 x hx), fun x hx => wf_i64 (ok0_4.2.2 x hx)⟩
  obtain ⟨g, hg, hsm⟩ := great_eq a0_0 l0_1 l0_2 l0_3 l0_4
  have hal := al27 40000 (by decide)
  by_cases hc : g = false ∧ checkR a0_0 l0_1 l0_2 l0_3 l0_4 = 0
  · obtain ⟨rfl, hc⟩ := hc
    obtain ⟨S, xi, xs, xp, xl, x1, x2, x3, x4, x7, x8, x9, xA, ri, rs, rp, rl, r1, r2, r3, r4, r7, r8, r9, rA, h⟩ := cones_hf 40000 a0_0 l0_1 l0_2 l0_3 l0_4 (hsm rfl).1 hw hc (by decide)
    exact cones_walk 40000 a0_0 A0_1 c0_1 l0_1 A0_2 c0_2 l0_2 A0_3 c0_3 l0_3 A0_4 c0_4 l0_4 S xi xs xp xl x1 x2 x3 x4 x7 x8 x9 xA ri rs rp rl r1 r2 r3 r4 r7 r8 r9 rA _ false w hr0_1 hc0_1 hr0_2 hc0_2 hr0_3 hc0_3 hr0_4 hc0_4 hal hg (fun _ => rcheck_eq 40000 a0_0 l0_1 l0_2 l0_3 l0_4 (hsm rfl).1 hw (by decide)) (fun _ _ => h)
  · exact cones_walk 40000 a0_0 A0_1 c0_1 l0_1 A0_2 c0_2 l0_2 A0_3 c0_3 l0_3 A0_4 c0_4 l0_4 [] 0 0 0 0 [] [] [] [] [] [] [] [] 0 0 0 0 [] [] [] [] [] [] [] [] (checkR a0_0 l0_1 l0_2 l0_3 l0_4) g w hr0_1 hc0_1 hr0_2 hc0_2 hr0_3 hc0_3 hr0_4 hc0_4 hal hg (fun h => rcheck_eq 40000 a0_0 l0_1 l0_2 l0_3 l0_4 (hsm h).1 hw (by decide)) (fun h1 h2 => absurd ⟨h1, h2⟩ hc)
end Go.Proofs.Ytlgoniocoifjjaa.Pure
