/- Cone and Depth return the reference's results and errors for any circuit and literal; for every circuit that is not great. -/
import Derived.Test.YtnllcdihmpdhhaaQGatesConesx5
namespace Go.Proofs.Ytnllcdihmpdhhaa.Pure
open Go.RowKit Go.Proofs.Ytnllcdihmpdhhaa.QGatesCones Go.Proofs.YtnllcdihmpdhhaaW.PrintWords Go.Proofs.YtnllcdihmpdhhaaW.PrintLast
set_option linter.unusedSimpArgs false
set_option linter.unusedVariables false
theorem w64 (n : Int) (h : -9223372036854775808 ≤ n) (h2 : n ≤ 9223372036854775807) : wrap64 n = n := by unfold wrap64; omega
theorem rd_at (l : List Int) (j : Nat) (h : j < l.length) : rd l (j : Int) = l[j] := by simp [rd, List.getD, h]
theorem wf_i64 {x : Int} (h : (Lit.int .i64 x).wf = true) : -9223372036854775808 ≤ x ∧ x ≤ 9223372036854775807 := by
  simp [Lit.wf, IntKind.min, IntKind.max, IntKind.signed, IntKind.bits] at h
  omega
theorem wf_u8 {x : Int} (h : (Lit.int .u8 x).wf = true) : 0 ≤ x ∧ x ≤ 255 := by
  simp [Lit.wf, IntKind.min, IntKind.max, IntKind.signed, IntKind.bits] at h
  omega
theorem band1 (a : Int) (h0 : 0 ≤ a) (h1 : a < 9223372036854775807) : Go.bits .and .i64 a 1 = a % 2 := by
  have := bits_mask .i64 63 (by decide) (fun n h h' => by rw [IntKind.wrap_i64]; omega) 1 (by decide) a h0 (by omega)
  simpa using this

-- strictly increasing lists: Sort and Compact
theorem inc_ext : ∀ (a b : List Int), a.Pairwise (· < ·) → b.Pairwise (· < ·) → (∀ x, x ∈ a ↔ x ∈ b) → a = b
  | [], [], _, _, _ => rfl
  | [], y :: b, _, _, h => absurd ((h y).2 (by simp)) (by simp)
  | x :: a, [], _, _, h => absurd ((h x).1 (by simp)) (by simp)
  | x :: a, y :: b, ha, hb, h => by
    rw [List.pairwise_cons] at ha hb
    have e : x = y := by
      have h1 := (h x).1 (by simp)
      have h2 := (h y).2 (by simp)
      rcases List.mem_cons.1 h1 with e | h1
      · exact e
      rcases List.mem_cons.1 h2 with e | h2
      · exact e.symm
      have := hb.1 x h1
      have := ha.1 y h2
      omega
    subst e
    rw [inc_ext a b ha.2 hb.2]
    intro z
    constructor
    · intro hz
      rcases List.mem_cons.1 ((h z).1 (by simp [hz])) with e | h'
      · subst e; have := ha.1 z hz; omega
      · exact h'
    · intro hz
      rcases List.mem_cons.1 ((h z).2 (by simp [hz])) with e | h'
      · subst e; have := hb.1 z hz; omega
      · exact h'
/-- The numbers of a list, each once, in increasing order. -/
def setI (l : List Int) : List Int := Lib.compact (sortI l)
theorem sortI_inc (l : List Int) : (sortI l).Pairwise (· ≤ ·) := by
  have := List.pairwise_mergeSort (le := fun x y : Int => decide (x ≤ y)) (fun a b c h1 h2 => by simp at h1 h2 ⊢; omega) (fun a b => by simp; omega) l
  simpa [sortI] using this
theorem sortI_mem (l : List Int) (x : Int) : x ∈ sortI l ↔ x ∈ l := by unfold sortI; exact List.mem_mergeSort
theorem sortI_len (l : List Int) : (sortI l).length = l.length := by simp [sortI]
theorem get_toArray (l : List Int) (j : Nat) (h : j < l.length) : l.toArray[j]! = l[j] := by simp [getElem!_pos, h]
theorem compact_inc (l : List Int) (h : l.Pairwise (· ≤ ·)) : (Lib.compact l).Pairwise (· < ·) := by
  unfold Lib.compact Lib.compactUpTo
  rw [List.pairwise_map, List.pairwise_filter]
  have hr : (List.range l.length).Pairwise (fun a b => (a < b) ∧ a < l.length ∧ b < l.length) := by
    have h1 := List.pairwise_lt_range (n := l.length)
    rw [List.pairwise_iff_forall_sublist] at h1 ⊢
    intro a b hs
    have ha : a ∈ List.range l.length := hs.subset (by simp)
    have hb : b ∈ List.range l.length := hs.subset (by simp)
    exact ⟨h1 hs, List.mem_range.1 ha, List.mem_range.1 hb⟩
  refine hr.imp ?_
  rintro i j ⟨hij, hi, hj⟩ _ hk
  simp only [Lib.keeps, decide_eq_true_eq] at hk
  rw [get_toArray l i hi, get_toArray l j hj]
  rw [get_toArray l j hj, get_toArray l (j - 1) (by omega)] at hk
  have hle := List.pairwise_iff_getElem.1 h
  have h1 : l[j - 1]'(by omega) ≤ l[j] := hle (j - 1) j (by omega) hj (by omega)
  have h2 : l[i] ≤ l[j - 1]'(by omega) := by
    rcases Nat.lt_or_ge i (j - 1) with c | c
    · exact hle i (j - 1) hi (by omega) c
    · have : i = j - 1 := by omega
      subst this; exact Int.le_refl _
  have h3 : l[j] ≠ l[j - 1]'(by omega) := by
    rcases hk with hk | hk
    · omega
    · exact hk
  omega
theorem compact_mem (l : List Int) (x : Int) : x ∈ Lib.compact l ↔ x ∈ l := by
  unfold Lib.compact Lib.compactUpTo
  rw [List.mem_map]
  constructor
  · rintro ⟨j, hj, rfl⟩
    have := List.mem_range.1 (List.mem_filter.1 hj).1
    rw [get_toArray l j this]
    exact List.getElem_mem this
  · intro hx
    obtain ⟨j, hj, rfl⟩ := List.getElem_of_mem hx
    have key : ∀ (n j : Nat), j ≤ n → ∀ (hj : j < l.length), ∃ a, a ∈ (List.range l.length).filter (Lib.keeps l.toArray) ∧ l.toArray[a]! = l[j] := by
      intro n
      induction n with
      | zero =>
        intro j hn hj
        have : j = 0 := by omega
        subst this
        exact ⟨0, List.mem_filter.2 ⟨List.mem_range.2 hj, by simp [Lib.keeps]⟩, get_toArray l 0 hj⟩
      | succ n ih =>
        intro j hn hj
        by_cases c : Lib.keeps l.toArray j = true
        · exact ⟨j, List.mem_filter.2 ⟨List.mem_range.2 hj, c⟩, get_toArray l j hj⟩
        · have c0 : ¬ (j = 0 ∨ l.toArray[j]! ≠ l.toArray[j - 1]!) := by simpa [Lib.keeps] using c
          have c1 : j ≠ 0 := fun e => c0 (Or.inl e)
          have c2 : l.toArray[j]! = l.toArray[j - 1]! := Classical.byContradiction fun e => c0 (Or.inr e)
          rw [get_toArray l j hj, get_toArray l (j - 1) (by omega)] at c2
          obtain ⟨a, ha, e⟩ := ih (j - 1) (by omega) (by omega)
          exact ⟨a, ha, by rw [e, c2]⟩
    exact key j j (Nat.le_refl _) hj
theorem setI_inc (l : List Int) : (setI l).Pairwise (· < ·) := compact_inc _ (sortI_inc l)
theorem setI_mem (l : List Int) (x : Int) : x ∈ setI l ↔ x ∈ l := by unfold setI; rw [compact_mem, sortI_mem]
theorem setI_eq (l m : List Int) (h : m.Pairwise (· < ·)) (h2 : ∀ x, x ∈ m ↔ x ∈ l) : m = setI l := inc_ext _ _ h (setI_inc l) (fun x => by rw [h2, setI_mem])
theorem setI_len (l : List Int) : (setI l).length ≤ l.length := by
  have := Lib.compact_length_le (sortI l)
  rw [sortI_len] at this
  exact this
/-- The other literal of a variable. -/
def notI (x : Int) : Int := if x % 2 = 0 then x + 1 else x - 1
/-- A list has a literal and the other one. -/
def clash (l : List Int) : Bool := l.any fun x => l.contains (notI x)
/-- Two in line have one variable. -/
def adj : List Int → Bool
  | x :: y :: l => decide (x / 2 = y / 2) || adj (y :: l)
  | _ => false
theorem adj_of : ∀ (c : List Int) (m : Int), c.Pairwise (· < ·) → m % 2 = 0 → m ∈ c → m + 1 ∈ c → adj c = true
  | [], _, _, _, h, _ => absurd h (by simp)
  | [x], m, _, _, h, h2 => by
    have e1 := List.mem_singleton.1 h
    have e2 := List.mem_singleton.1 h2
    omega
  | x :: y :: l, m, hp, he, h, h2 => by
    rw [List.pairwise_cons] at hp
    have hy := hp.1 y (by simp)
    rw [adj, Bool.or_eq_true, decide_eq_true_eq]
    rcases List.mem_cons.1 h with e | h
    · rcases List.mem_cons.1 h2 with e2 | h2
      · omega
      rcases List.mem_cons.1 h2 with e2 | h2
      · left; omega
      · have := (List.pairwise_cons.1 hp.2).1 _ h2
        omega
    · rcases List.mem_cons.1 h2 with e2 | h2
      · have := hp.1 m h; omega
      · exact Or.inr (adj_of (y :: l) m hp.2 he h h2)
theorem adj_in : ∀ (c : List Int), c.Pairwise (· < ·) → adj c = true → ∃ m, m % 2 = 0 ∧ m ∈ c ∧ m + 1 ∈ c
  | [], _, h => absurd h (by simp [adj])
  | [x], _, h => absurd h (by simp [adj])
  | x :: y :: l, hp, h => by
    rw [List.pairwise_cons] at hp
    have hy := hp.1 y (by simp)
    rw [adj, Bool.or_eq_true, decide_eq_true_eq] at h
    rcases h with h | h
    · exact ⟨x, by omega, by simp, by rw [show x + 1 = y by omega]; simp⟩
    · obtain ⟨m, h1, h2, h3⟩ := adj_in (y :: l) hp.2 h
      exact ⟨m, h1, List.mem_cons_of_mem _ h2, List.mem_cons_of_mem _ h3⟩
theorem adj_clash (l : List Int) : adj (setI l) = clash l := by
  cases e : clash l with
  | true =>
    obtain ⟨x, hx, h⟩ := List.any_eq_true.1 e
    have h := List.contains_iff_mem.1 h
    unfold notI at h
    by_cases c : x % 2 = 0
    · rw [if_pos c] at h
      exact adj_of _ x (setI_inc l) c ((setI_mem l x).2 hx) ((setI_mem l _).2 h)
    · rw [if_neg c] at h
      exact adj_of _ (x - 1) (setI_inc l) (by omega) ((setI_mem l _).2 h) (by rw [show x - 1 + 1 = x by omega]; exact (setI_mem l x).2 hx)
  | false =>
    cases f : adj (setI l) with
    | false => rfl
    | true =>
      obtain ⟨m, h0, h1, h2⟩ := adj_in _ (setI_inc l) f
      have := List.any_eq_false.1 e m ((setI_mem l m).1 h1)
      exfalso
      apply this
      rw [List.contains_iff_mem]
      unfold notI
      rw [if_pos h0]
      exact (setI_mem l _).1 h2

-- ref02: what the reference of layer 2 and gates.Check come to, for circuits that are not great
def litOut (n l : Int) : Bool := decide (l < 0) || decide (l / 2 > n)
def latBad (n : Int) (x : S53) : Bool := litOut n x.f0 || decide (x.f1 < 0) || decide (x.f1 > 2)
def gBad (m : Int) (i : Nat) (g : S50) : Bool := decide (g.f1 < 0) || decide (g.f0 < g.f1) || decide (g.f0 / 2 > m + i)
def gsBad (m : Int) (l : List S50) : Bool := (List.range l.length).any fun i => gBad m i (rd_T50 l i)
def szS (a : Int) (l1 : List S53) (l2 : List S50) : Int := a + l1.length + l2.length
def checkR (a : Int) (l1 : List S53) (l2 : List S50) (l3 l4 : List Int) : Int :=
  if a < 0 then 8 else if a > 1000 ∨ szS a l1 l2 > 1000 ∨ l3.length > 100 ∨ l4.length > 100 then 4
  else if l3.any (litOut (szS a l1 l2)) = true ∨ l4.any (litOut (szS a l1 l2)) = true ∨ l1.any (latBad (szS a l1 l2)) = true ∨ gsBad (a + l1.length) l2 = true then 8 else 0
/-- The lengths of a circuit that is not great. -/
structure Small (l1 : List S53) (l2 : List S50) (l3 l4 : List Int) : Prop where
  h1 : l1.length ≤ 60
  h2 : l2.length ≤ 130
  h3 : l3.length ≤ 110
  h4 : l4.length ≤ 110
/-- All numbers of a circuit are int64. -/
structure Wf (a : Int) (l1 : List S53) (l2 : List S50) (l3 l4 : List Int) : Prop where
  w0 : -9223372036854775808 ≤ a ∧ a ≤ 9223372036854775807
  w1 : ∀ x ∈ l1, (-9223372036854775808 ≤ x.f0 ∧ x.f0 ≤ 9223372036854775807) ∧ (-9223372036854775808 ≤ x.f1 ∧ x.f1 ≤ 9223372036854775807)
  w2 : ∀ x ∈ l2, (-9223372036854775808 ≤ x.f0 ∧ x.f0 ≤ 9223372036854775807) ∧ (-9223372036854775808 ≤ x.f1 ∧ x.f1 ≤ 9223372036854775807)
  w3 : ∀ x ∈ l3, -9223372036854775808 ≤ x ∧ x ≤ 9223372036854775807
  w4 : ∀ x ∈ l4, -9223372036854775808 ≤ x ∧ x ≤ 9223372036854775807
theorem great_eq (a : Int) (l1 : List S53) (l2 : List S50) (l3 l4 : List Int) :
    ∃ b, spiritlevelref02_Great.f a l1 l2 l3 l4 = some b ∧ (b = false → Small l1 l2 l3 l4 ∧ (a ≤ 40 ∨ 996 ≤ a)) := by
  unfold spiritlevelref02_Great.f
  by_cases c1 : (l1.length : Int) > 60
  · exact ⟨true, by rw [if_pos c1], by simp⟩
  by_cases c2 : (l2.length : Int) > 120
  · exact ⟨true, by rw [if_neg c1, if_pos c2], by simp⟩
  by_cases c3 : (l3.length : Int) > 110
  · exact ⟨true, by rw [if_neg c1, if_neg c2, if_pos c3], by simp⟩
  by_cases c4 : (l4.length : Int) > 110
  · exact ⟨true, by rw [if_neg c1, if_neg c2, if_neg c3, if_pos c4], by simp⟩
  by_cases c5 : a > 40
  · exact ⟨decide (a < 996), by rw [if_neg c1, if_neg c2, if_neg c3, if_neg c4, if_pos c5], fun h => ⟨⟨by omega, by omega, by omega, by omega⟩, by simp at h; omega⟩⟩
  · exact ⟨false, by rw [if_neg c1, if_neg c2, if_neg c3, if_neg c4, if_neg c5], fun _ => ⟨⟨by omega, by omega, by omega, by omega⟩, by omega⟩⟩
theorem literals_l0 (l : List Int) (n : Int) (hw : ∀ x ∈ l, -9223372036854775808 ≤ x ∧ x ≤ 9223372036854775807) (hl : l.length ≤ 100000) (d : Nat) : ∀ (k j : Nat), j + d = l.length → d < k →
    spiritlevelref02_literals.l0 k l n (j : Int) = some (!(l.drop j).any (litOut n)) := by
  induction d with
  | zero =>
    intro k j hj hk
    obtain ⟨k, rfl⟩ : ∃ m, k = m + 1 := ⟨k - 1, by omega⟩
    simp only [spiritlevelref02_literals.l0]
    rw [if_neg (by omega), List.drop_of_length_le (by omega)]; rfl
  | succ d ih =>
    intro k j hj hk
    obtain ⟨k, rfl⟩ : ∃ m, k = m + 1 := ⟨k - 1, by omega⟩
    have hlt : j < l.length := by omega
    have hwj := hw l[j] (List.getElem_mem hlt)
    simp only [spiritlevelref02_literals.l0]
    rw [if_pos (by omega), if_pos (by omega), rd_at l j hlt, List.drop_eq_getElem_cons hlt, List.any_cons]
    by_cases c : l[j] < 0
    · rw [if_pos c]; simp [litOut, c]
    · rw [if_neg c, Int.tdiv_eq_ediv_of_nonneg (by omega), w64 _ (by omega) (by omega)]
      by_cases c2 : l[j] / 2 > n
      · rw [if_pos c2]; simp [litOut, c2]
      · rw [if_neg c2, w64 _ (by omega) (by omega), show ((j : Int) + 1) = ((j + 1 : Nat) : Int) by omega, ih k (j + 1) (by omega) (by omega)]
        have : litOut n l[j] = false := by simp [litOut]; omega
        rw [this]; simp
theorem literals_eq (k : Nat) (l : List Int) (n : Int) (hw : ∀ x ∈ l, -9223372036854775808 ≤ x ∧ x ≤ 9223372036854775807) (hl : l.length ≤ 100000) (hk : l.length < k) :
    spiritlevelref02_literals.f k l n = some (!l.any (litOut n)) := by
  have := literals_l0 l n hw hl l.length k 0 (by omega) hk
  simpa [spiritlevelref02_literals.f] using this
theorem rdL_at (l : List S53) (j : Nat) (h : j < l.length) : rd_T53 l (j : Int) = l[j] := by simp [rd_T53, List.getD, h]
theorem rdA_at (l : List S50) (j : Nat) (h : j < l.length) : rd_T50 l (j : Int) = l[j] := by simp [rd_T50, List.getD, h]
theorem check_l1 (a : Int) (l1 : List S53) (l2 : List S50) (l3 l4 : List Int) (hs : Small l1 l2 l3 l4) (hw : Wf a l1 l2 l3 l4) (h0 : 0 ≤ a) (h1 : a ≤ 1000) (d : Nat) : ∀ (k j : Nat), j + d = l2.length → d < k →
    spiritlevelref02_Check.l1 k (j : Int) a l1 l2 l3 l4 = some (if ((List.range' j d).any fun i => gBad (a + l1.length) i (rd_T50 l2 i)) = true then 8 else 0) := by
  have hs1 := hs.h1
  have hs2 := hs.h2
  induction d with
  | zero =>
    intro k j hj hk
    obtain ⟨k, rfl⟩ : ∃ m, k = m + 1 := ⟨k - 1, by omega⟩
    simp only [spiritlevelref02_Check.l1]
    rw [if_neg (by omega)]; rfl
  | succ d ih =>
    intro k j hj hk
    obtain ⟨k, rfl⟩ : ∃ m, k = m + 1 := ⟨k - 1, by omega⟩
    have hlt : j < l2.length := by omega
    have hwj := hw.w2 l2[j] (List.getElem_mem hlt)
    simp only [spiritlevelref02_Check.l1]
    rw [if_pos (by omega), if_pos (by omega), List.range'_succ, List.any_cons, rdA_at l2 j hlt]
    by_cases c : l2[j].f1 < 0
    · rw [if_pos c, if_pos (by simp [gBad, c])]
    rw [if_neg c]
    by_cases c2 : l2[j].f0 < l2[j].f1
    · rw [if_pos c2, if_pos (by simp [gBad, c2])]
    rw [if_neg c2, Int.tdiv_eq_ediv_of_nonneg (by omega), w64 (l2[j].f0 / 2) (by omega) (by omega), w64 (a + l1.length) (by omega) (by omega), w64 (a + l1.length + j) (by omega) (by omega)]
    by_cases c3 : l2[j].f0 / 2 > a + l1.length + j
    · rw [if_pos c3, if_pos (by simp [gBad, c3])]
    rw [if_neg c3, w64 _ (by omega) (by omega), show ((j : Int) + 1) = ((j + 1 : Nat) : Int) by omega, ih k (j + 1) (by omega) (by omega)]
    have : gBad (a + l1.length) j l2[j] = false := by simp [gBad]; omega
    rw [this]; rfl
theorem check_l0 (a n : Int) (l1 : List S53) (l2 : List S50) (l3 l4 : List Int) (hs : Small l1 l2 l3 l4) (hw : Wf a l1 l2 l3 l4) (h0 : 0 ≤ a) (h1 : a ≤ 1000) (d : Nat) : ∀ (k j : Nat), j + d = l1.length → d + l2.length + 5 < k →
    spiritlevelref02_Check.l0 k n (j : Int) a l1 l2 l3 l4 = some (if (l1.drop j).any (latBad n) = true ∨ gsBad (a + l1.length) l2 = true then 8 else 0) := by
  have hs1 := hs.h1
  have hs2 := hs.h2
  induction d with
  | zero =>
    intro k j hj hk
    obtain ⟨k, rfl⟩ : ∃ m, k = m + 1 := ⟨k - 1, by omega⟩
    simp only [spiritlevelref02_Check.l0]
    rw [if_neg (by omega), List.drop_of_length_le (by omega), show (0 : Int) = ((0 : Nat) : Int) from rfl, check_l1 a l1 l2 l3 l4 hs hw h0 h1 l2.length k 0 (by omega) (by omega)]
    simp [gsBad, List.range_eq_range']
  | succ d ih =>
    intro k j hj hk
    obtain ⟨k, rfl⟩ : ∃ m, k = m + 1 := ⟨k - 1, by omega⟩
    have hlt : j < l1.length := by omega
    have hwj := hw.w1 l1[j] (List.getElem_mem hlt)
    simp only [spiritlevelref02_Check.l0]
    rw [if_pos (by omega), if_pos (by omega), List.drop_eq_getElem_cons hlt, List.any_cons, rdL_at l1 j hlt, literals_eq k _ n (by simp; exact hwj.1) (by simp) (by simp; omega)]
    simp only [Option.bind_some, List.any_cons, List.any_nil, Bool.or_false]
    by_cases c : litOut n l1[j].f0 = true
    · rw [if_neg (by simp [c]), if_pos (by simp [latBad, c])]
    rw [if_pos (by simp [c])]
    by_cases c2 : l1[j].f1 < 0
    · rw [if_pos c2, if_pos (by simp [latBad, c2])]
    rw [if_neg c2]
    by_cases c3 : l1[j].f1 > 2
    · rw [if_pos c3, if_pos (by simp [latBad, c3])]
    rw [if_neg c3, w64 _ (by omega) (by omega), show ((j : Int) + 1) = ((j + 1 : Nat) : Int) by omega, ih k (j + 1) (by omega) (by omega)]
    have : latBad n l1[j] = false := by simp [latBad, c]; omega
    simp [this]
theorem size_eq (a : Int) (l1 : List S53) (l2 : List S50) (l3 l4 : List Int) (hs : Small l1 l2 l3 l4) (h0 : 0 ≤ a) (h1 : a ≤ 1000) : spiritlevelref02_Size.f a l1 l2 l3 l4 = some (szS a l1 l2) := by
  have hs1 := hs.h1
  have hs2 := hs.h2
  unfold spiritlevelref02_Size.f szS
  rw [w64 (a + l1.length) (by omega) (by omega), w64 _ (by omega) (by omega)]
theorem rcheck_eq (k : Nat) (a : Int) (l1 : List S53) (l2 : List S50) (l3 l4 : List Int) (hs : Small l1 l2 l3 l4) (hw : Wf a l1 l2 l3 l4) (hk : 300 ≤ k) :
    spiritlevelref02_Check.f k a l1 l2 l3 l4 = some (checkR a l1 l2 l3 l4) := by
  have hs1 := hs.h1
  have hs2 := hs.h2
  have hs3 := hs.h3
  have hs4 := hs.h4
  obtain ⟨k, rfl⟩ : ∃ m, k = m + 3 := ⟨k - 3, by omega⟩
  unfold spiritlevelref02_Check.f checkR
  by_cases c0 : a < 0
  · rw [if_pos c0, if_pos c0]
  rw [if_neg c0, if_neg c0]
  have j0 : spiritlevelref02_Check.j0 (k + 3) true a l1 l2 l3 l4 = some 4 := by simp [spiritlevelref02_Check.j0]
  by_cases c1 : a > 1000
  · rw [if_pos c1, if_pos (Or.inl c1), j0]
  rw [if_neg c1, size_eq a l1 l2 l3 l4 hs (by omega) (by omega)]
  simp only [Option.bind_some]
  by_cases c2 : szS a l1 l2 > 1000
  · rw [if_pos c2, if_pos (Or.inr (Or.inl c2)), j0]
  rw [if_neg c2]
  by_cases c3 : (l3.length : Int) > 100
  · rw [if_pos c3, if_pos (by omega), j0]
  rw [if_neg c3]
  by_cases c4 : (l4.length : Int) > 100
  · rw [decide_eq_true c4, if_pos (by omega), j0]
  rw [decide_eq_false c4, if_neg (by omega)]
  simp only [spiritlevelref02_Check.j0]
  rw [if_neg (by decide), size_eq a l1 l2 l3 l4 hs (by omega) (by omega)]
  simp only [Option.bind_some]
  rw [literals_eq _ l3 _ hw.w3 (by omega) (by omega)]
  simp only [Option.bind_some]
  by_cases d3 : l3.any (litOut (szS a l1 l2)) = true
  · rw [if_neg (by simp [d3]), if_pos (Or.inl d3)]; simp [spiritlevelref02_Check.j1]
  rw [if_pos (by simp [d3]), literals_eq _ l4 _ hw.w4 (by omega) (by omega)]
  simp only [Option.bind_some]
  by_cases d4 : l4.any (litOut (szS a l1 l2)) = true
  · rw [if_pos (Or.inr (Or.inl d4)), d4]; simp [spiritlevelref02_Check.j1]
  have d4' : l4.any (litOut (szS a l1 l2)) = false := by simpa using d4
  rw [d4']
  simp only [spiritlevelref02_Check.j1, Bool.not_false, Bool.not_true]
  rw [if_neg (by decide), show (0 : Int) = ((0 : Nat) : Int) from rfl, check_l0 a _ l1 l2 l3 l4 hs hw (by omega) (by omega) l1.length _ 0 (by omega) (by omega)]
  simp [d3]
theorem gcheck_eq (a : Int) (l1 : List S53) (l2 : List S50) (l3 l4 : List Int) (hs : Small l1 l2 l3 l4) (hw : Wf a l1 l2 l3 l4) :
    gates_Check.f a l1 l2 l3 l4 = some (checkR a l1 l2 l3 l4) := by
  have hs1 := hs.h1
  have hs2 := hs.h2
  unfold gates_Check.f checkR
  congr 1
  by_cases c0 : a < 0
  · rw [if_pos c0, if_pos c0]
  rw [if_neg c0, if_neg c0]
  by_cases c1 : a > 1000
  · rw [if_pos c1, if_pos (Or.inl c1)]
  have e3 : st3 a l1.length l2.length = szS a l1 l2 + 1 := by
    unfold st3 st2 st1 szS
    rw [w64 (1 + a) (by omega) (by omega), w64 (1 + a + l1.length) (by omega) (by omega), w64 _ (by omega) (by omega)]
    omega
  have e2 : st2 a l1.length = a + l1.length + 1 := by
    unfold st2 st1
    rw [w64 (1 + a) (by omega) (by omega), w64 _ (by omega) (by omega)]
    omega
  have hz : 0 ≤ szS a l1 l2 ∧ szS a l1 l2 ≤ 1190 := by unfold szS; omega
  rw [if_neg c1, e3, w64 (szS a l1 l2 + 1 - 1) (by omega) (by omega), Int.add_sub_cancel]
  by_cases c2 : szS a l1 l2 > 1000
  · rw [if_pos c2, if_pos (Or.inr (Or.inl c2))]
  rw [if_neg c2]
  by_cases c3 : l3.length > 100 ∨ l4.length > 100
  · rw [if_pos (show (if (l3.length : Int) < (l4.length : Int) then (l4.length : Int) else (l3.length : Int)) > 100 by split <;> omega), if_pos (show a > 1000 ∨ szS a l1 l2 > 1000 ∨ l3.length > 100 ∨ l4.length > 100 by omega)]
  rw [if_neg (show ¬ (if (l3.length : Int) < (l4.length : Int) then (l4.length : Int) else (l3.length : Int)) > 100 by split <;> omega), if_neg (show ¬ (a > 1000 ∨ szS a l1 l2 > 1000 ∨ l3.length > 100 ∨ l4.length > 100) by omega)]
  have o : outS (szS a l1 l2 + 1) = litOut (szS a l1 l2) := by
    funext l
    unfold outS litOut
    congr 1
  have o2 : wrongS (szS a l1 l2 + 1) = latBad (szS a l1 l2) := by
    funext x
    unfold wrongS latBad
    rw [o]
  have o3 : gatesBad (st2 a l1.length) l2 = gsBad (a + l1.length) l2 := by
    unfold gatesBad gsBad
    rw [Bool.eq_iff_iff, List.any_eq_true, List.any_eq_true]
    have hp : ∀ i ∈ List.range l2.length, gateBad (st2 a l1.length) i (rd_T50 l2 i) = gBad (a + l1.length) i (rd_T50 l2 i) := by
      intro i hi
      rw [List.mem_range] at hi
      unfold gateBad gBad
      rw [e2, w64 (a + l1.length + 1 + i) (by omega) (by omega), w64 _ (by omega) (by omega)]
      congr 1
      exact decide_eq_decide.2 (by omega)
    constructor
    · rintro ⟨i, hi, h⟩; exact ⟨i, hi, by rw [← hp i hi]; exact h⟩
    · rintro ⟨i, hi, h⟩; exact ⟨i, hi, by rw [hp i hi]; exact h⟩
  rw [o, o2, o3]
  by_cases d3 : l3.any (litOut (szS a l1 l2)) = true
  · rw [if_pos d3, if_pos (Or.inl d3)]
  rw [if_neg d3]
  by_cases d4 : l4.any (litOut (szS a l1 l2)) = true
  · rw [if_pos d4, if_pos (Or.inr (Or.inl d4))]
  rw [if_neg d4]
  by_cases d5 : l1.any (latBad (szS a l1 l2)) = true
  · rw [if_pos d5, if_pos (Or.inr (Or.inr (Or.inl d5)))]
  rw [if_neg d5]
  by_cases d6 : gsBad (a + l1.length) l2 = true
  · rw [if_pos d6, if_pos (Or.inr (Or.inr (Or.inr d6)))]
  · rw [if_neg d6, if_neg (by simp [d3, d4, d5, d6])]

-- ref02's comparisons of equal circuits
theorem sameInts_l0 (l : List Int) (hl : l.length ≤ 100000) (d : Nat) : ∀ (k j : Nat), j + d = l.length → d < k → spiritlevelref02_SameInts.l0 k l l (j : Int) = some true := by
  induction d with
  | zero =>
    intro k j hj hk
    obtain ⟨k, rfl⟩ : ∃ m, k = m + 1 := ⟨k - 1, by omega⟩
    simp only [spiritlevelref02_SameInts.l0]
    rw [if_neg (by omega)]
  | succ d ih =>
    intro k j hj hk
    obtain ⟨k, rfl⟩ : ∃ m, k = m + 1 := ⟨k - 1, by omega⟩
    simp only [spiritlevelref02_SameInts.l0]
    rw [if_pos (by omega), if_pos (by omega), if_pos (by omega), if_pos trivial, w64 _ (by omega) (by omega), show ((j : Int) + 1) = ((j + 1 : Nat) : Int) by omega, ih k (j + 1) (by omega) (by omega)]
theorem sameInts_eq (k : Nat) (l : List Int) (hl : l.length ≤ 100000) (hk : l.length < k) : spiritlevelref02_SameInts.f k l l = some true := by
  unfold spiritlevelref02_SameInts.f
  rw [if_pos rfl]
  exact sameInts_l0 l hl l.length k 0 (by omega) hk
theorem checkR_ok (a : Int) (l1 : List S53) (l2 : List S50) (l3 l4 : List Int) (h : checkR a l1 l2 l3 l4 = 0) : 0 ≤ a ∧ a ≤ 1000 ∧ szS a l1 l2 ≤ 1000 := by
  unfold checkR at h
  by_cases c0 : a < 0
  · rw [if_pos c0] at h; omega
  rw [if_neg c0] at h
  by_cases c1 : a > 1000 ∨ szS a l1 l2 > 1000 ∨ l3.length > 100 ∨ l4.length > 100
  · rw [if_pos c1] at h; omega
  · omega
theorem gvars_eq (a : Int) (l1 : List S53) (l2 : List S50) (l3 l4 : List Int) (hs : Small l1 l2 l3 l4) (hw : Wf a l1 l2 l3 l4) :
    gates_Vars.f a l1 l2 l3 l4 = some (if checkR a l1 l2 l3 l4 = 0 then (szS a l1 l2, 0) else (0, checkR a l1 l2 l3 l4)) := by
  have hs1 := hs.h1
  have hs2 := hs.h2
  unfold gates_Vars.f
  rw [gcheck_eq a l1 l2 l3 l4 hs hw]
  simp only [Option.bind_some]
  by_cases h : checkR a l1 l2 l3 l4 = 0
  · obtain ⟨h0, h1, h2⟩ := checkR_ok _ _ _ _ _ h
    unfold szS at h2
    rw [if_pos h, if_pos h]
    unfold st3 st2 st1 szS
    rw [w64 (1 + a) (by omega) (by omega), w64 (1 + a + l1.length) (by omega) (by omega), w64 (1 + a + l1.length + l2.length) (by omega) (by omega), w64 _ (by omega) (by omega)]
    congr 2; omega
  · rw [if_neg h, if_neg h]

-- a valid circuit
/-- The gates are in order, behind so many variables. -/
def Gates (base : Nat) (gs : List S50) : Prop := ∀ (i : Nat) (h : i < gs.length), 0 ≤ gs[i].f1 ∧ gs[i].f1 ≤ gs[i].f0 ∧ gs[i].f0 / 2 < (base + i : Nat)
/-- What a valid circuit gives. -/
structure Good (a : Int) (l1 : List S53) (l2 : List S50) (l3 l4 : List Int) : Prop where
  a0 : 0 ≤ a
  a1 : a ≤ 1000
  n : szS a l1 l2 ≤ 1000
  g : Gates (1 + a.toNat + l1.length) l2
  l : ∀ x ∈ l1, (0 ≤ x.f0 ∧ x.f0 / 2 ≤ szS a l1 l2) ∧ (0 ≤ x.f1 ∧ x.f1 ≤ 2)
  b : ∀ x ∈ l3, 0 ≤ x ∧ x / 2 ≤ szS a l1 l2
  c : ∀ x ∈ l4, 0 ≤ x ∧ x / 2 ≤ szS a l1 l2
theorem litOut_in {n l : Int} (h : litOut n l = false) : 0 ≤ l ∧ l / 2 ≤ n := by
  simp only [litOut, Bool.or_eq_false_iff, decide_eq_false_iff_not] at h
  omega
theorem good_of (a : Int) (l1 : List S53) (l2 : List S50) (l3 l4 : List Int) (h : checkR a l1 l2 l3 l4 = 0) : Good a l1 l2 l3 l4 := by
  unfold checkR at h
  by_cases c0 : a < 0
  · rw [if_pos c0] at h; omega
  rw [if_neg c0] at h
  by_cases c1 : a > 1000 ∨ szS a l1 l2 > 1000 ∨ l3.length > 100 ∨ l4.length > 100
  · rw [if_pos c1] at h; omega
  rw [if_neg c1] at h
  by_cases c2 : l3.any (litOut (szS a l1 l2)) = true ∨ l4.any (litOut (szS a l1 l2)) = true ∨ l1.any (latBad (szS a l1 l2)) = true ∨ gsBad (a + l1.length) l2 = true
  · rw [if_pos c2] at h; omega
  have d3 : l3.any (litOut (szS a l1 l2)) = false := by
    cases e : l3.any (litOut (szS a l1 l2)) with
    | false => rfl
    | true => exact absurd (Or.inl e) c2
  have d4 : l4.any (litOut (szS a l1 l2)) = false := by
    cases e : l4.any (litOut (szS a l1 l2)) with
    | false => rfl
    | true => exact absurd (Or.inr (Or.inl e)) c2
  have d1 : l1.any (latBad (szS a l1 l2)) = false := by
    cases e : l1.any (latBad (szS a l1 l2)) with
    | false => rfl
    | true => exact absurd (Or.inr (Or.inr (Or.inl e))) c2
  have d2 : gsBad (a + l1.length) l2 = false := by
    cases e : gsBad (a + l1.length) l2 with
    | false => rfl
    | true => exact absurd (Or.inr (Or.inr (Or.inr e))) c2
  refine ⟨by omega, by omega, by omega, ?_, ?_, ?_, ?_⟩
  · intro i hi
    have := List.any_eq_false.1 d2 i (List.mem_range.2 hi)
    rw [rdA_at l2 i hi] at this
    simp [gBad] at this
    omega
  · intro x hx
    have := List.any_eq_false.1 d1 x hx
    simp only [latBad, Bool.not_eq_true, Bool.or_eq_false_iff, decide_eq_false_iff_not] at this
    exact ⟨litOut_in this.1.1, by omega⟩
  · intro x hx
    exact litOut_in (by simpa using List.any_eq_false.1 d3 x hx)
  · intro x hx
    exact litOut_in (by simpa using List.any_eq_false.1 d4 x hx)
theorem check_of (a : Int) (l1 : List S53) (l2 : List S50) (l3 l4 : List Int) (h : Good a l1 l2 l3 l4) (h3 : l3.length ≤ 100) (h4 : l4.length ≤ 100) : checkR a l1 l2 l3 l4 = 0 := by
  have ha0 := h.a0
  have ha1 := h.a1
  have hn := h.n
  unfold checkR
  rw [if_neg (by omega), if_neg (by omega), if_neg]
  rintro (c | c | c | c)
  · obtain ⟨x, hx, hb⟩ := List.any_eq_true.1 c
    have := h.b x hx
    simp [litOut] at hb
    omega
  · obtain ⟨x, hx, hb⟩ := List.any_eq_true.1 c
    have := h.c x hx
    simp [litOut] at hb
    omega
  · obtain ⟨x, hx, hb⟩ := List.any_eq_true.1 c
    have := h.l x hx
    simp [latBad, litOut] at hb
    omega
  · obtain ⟨i, hi, hb⟩ := List.any_eq_true.1 c
    have hi := List.mem_range.1 hi
    have := h.g i hi
    rw [rdA_at l2 i hi] at hb
    simp [gBad] at hb
    omega

theorem inc_len : ∀ (l : List Int) (lo hi : Int), l.Pairwise (· < ·) → (∀ x ∈ l, lo ≤ x ∧ x ≤ hi) → lo ≤ hi + 1 → (l.length : Int) ≤ hi - lo + 1
  | [], lo, hi, _, _, h => by simp; omega
  | x :: l, lo, hi, hp, hb, h => by
    rw [List.pairwise_cons] at hp
    have h1 := hb x (by simp)
    have := inc_len l (x + 1) hi hp.2 (fun y hy => ⟨by have := hp.1 y hy; omega, (hb y (by simp [hy])).2⟩) (by omega)
    simp only [List.length_cons]
    omega
def kidA (first : Int) (gs : List S50) (v : Nat) : Nat := ((rd_T50 gs ((v : Int) - first)).f0 / 2).toNat
def kidB (first : Int) (gs : List S50) (v : Nat) : Nat := ((rd_T50 gs ((v : Int) - first)).f1 / 2).toNat
/-- The variables that are reached from one. -/
def rch (first : Int) (gs : List S50) : Nat → Nat → Nat → Prop
  | 0, _, _ => False
  | k + 1, v, x => (v ≠ 0 ∧ x = v) ∨ (first ≤ (v : Int) ∧ (rch first gs k (kidA first gs v) x ∨ rch first gs k (kidB first gs v) x))
def Rch (first : Int) (gs : List S50) (v x : Nat) : Prop := rch first gs (v + 1) v x
def mk (l : List Bool) (x : Nat) : Prop := rdOf false l (x : Int) = true
theorem mk_set (l : List Bool) (v x : Nat) (h : v < l.length) : mk (l.set v true) x ↔ x = v ∨ mk l x := by
  unfold mk rdOf
  rw [Int.toNat_natCast, List.getD_eq_getElem?_getD, List.getD_eq_getElem?_getD]
  by_cases c : v = x
  · subst c
    rw [List.getElem?_set_self h]
    simp
  · rw [List.getElem?_set_ne c]
    constructor
    · exact Or.inr
    · rintro (e | e)
      · exact absurd e.symm c
      · exact e
theorem mk_none (N x : Nat) : ¬ mk (List.replicate N false) x := by
  unfold mk rdOf
  rw [List.getD_eq_getElem?_getD, List.getElem?_replicate]
  split <;> simp
/-- The parts of each gate are less. -/
structure Down (first : Int) (gs : List S50) (N : Nat) : Prop where
  pos : 0 < first
  len : (N : Int) = first + gs.length
  a : ∀ v : Nat, first ≤ (v : Int) → v < N → kidA first gs v < v
  b : ∀ v : Nat, first ≤ (v : Int) → v < N → kidB first gs v < v
section
variable {first : Int} {gs : List S50} {N : Nat} (hD : Down first gs N)
include hD
theorem rch_fuel : ∀ (k k' v x : Nat), v < k → v < k' → v < N → (rch first gs k v x ↔ rch first gs k' v x) := by
  intro k
  induction k with
  | zero => intro k' v x h; omega
  | succ k ih =>
    intro k' v x h h' hN
    obtain ⟨k', rfl⟩ : ∃ m, k' = m + 1 := ⟨k' - 1, by omega⟩
    unfold rch
    by_cases c : first ≤ (v : Int)
    · have ha := hD.a v c hN
      have hb := hD.b v c hN
      rw [ih k' (kidA first gs v) x (by omega) (by omega) (by omega), ih k' (kidB first gs v) x (by omega) (by omega) (by omega)]
    · constructor
      · rintro (e | e)
        · exact Or.inl e
        · exact absurd e.1 c
      · rintro (e | e)
        · exact Or.inl e
        · exact absurd e.1 c
theorem Rch_a (v x : Nat) (h : first ≤ (v : Int)) (hN : v < N) (hr : Rch first gs (kidA first gs v) x) : Rch first gs v x := by
  have ha := hD.a v h hN
  exact Or.inr ⟨h, Or.inl ((rch_fuel hD _ _ _ x (by omega) (by omega) (by omega)).1 hr)⟩
theorem Rch_b (v x : Nat) (h : first ≤ (v : Int)) (hN : v < N) (hr : Rch first gs (kidB first gs v) x) : Rch first gs v x := by
  have hb := hD.b v h hN
  exact Or.inr ⟨h, Or.inr ((rch_fuel hD _ _ _ x (by omega) (by omega) (by omega)).1 hr)⟩
theorem Rch_cases (v x : Nat) (hN : v < N) (h : Rch first gs v x) : (v ≠ 0 ∧ x = v) ∨ (first ≤ (v : Int) ∧ (Rch first gs (kidA first gs v) x ∨ Rch first gs (kidB first gs v) x)) := by
  rcases h with h | ⟨h0, h⟩
  · exact Or.inl h
  · have ha := hD.a v h0 hN
    have hb := hD.b v h0 hN
    refine Or.inr ⟨h0, h.imp (fun h => ?_) (fun h => ?_)⟩
    · exact (rch_fuel hD v _ _ x (by omega) (by omega) (by omega)).1 h
    · exact (rch_fuel hD v _ _ x (by omega) (by omega) (by omega)).1 h
theorem Rch_zero (x : Nat) : ¬ Rch first gs 0 x := by
  have := hD.pos
  rintro (h | ⟨h, _⟩)
  · exact h.1 rfl
  · omega
theorem Rch_le : ∀ (v x : Nat), v < N → Rch first gs v x → 1 ≤ x ∧ x ≤ v := by
  intro v
  induction v using Nat.strongRecOn with
  | _ v ih =>
    intro x hN h
    rcases Rch_cases hD v x hN h with ⟨h0, rfl⟩ | ⟨h0, h | h⟩
    · omega
    · have ha := hD.a v h0 hN
      have := ih _ ha x (by omega) h
      omega
    · have hb := hD.b v h0 hN
      have := ih _ hb x (by omega) h
      omega
omit hD in
/-- The parts are marked. -/
def Kids (first : Int) (gs : List S50) (l : List Bool) (x : Nat) : Prop := first ≤ (x : Int) → (kidA first gs x = 0 ∨ mk l (kidA first gs x)) ∧ (kidB first gs x = 0 ∨ mk l (kidB first gs x))
omit hD in
/-- What is put out is what is marked, once. -/
def Put (ins : List Bool) (outs : List Int) : Prop := outs.Nodup ∧ ∀ y, y ∈ outs ↔ ∃ x : Nat, y = (x : Int) ∧ mk ins x
omit hD in
theorem Kids_mono {l m : List Bool} {x : Nat} (h : ∀ x, mk l x → mk m x) (hk : Kids first gs l x) : Kids first gs m x := fun hf => ⟨(hk hf).1.imp id (h _), (hk hf).2.imp id (h _)⟩
theorem visit_spec : ∀ (k v : Nat) (ins : List Bool) (outs : List Int), v < k → v < N → ins.length = N → Put ins outs →
    (visitV first gs k v (ins, outs)).1.length = N ∧ Put (visitV first gs k v (ins, outs)).1 (visitV first gs k v (ins, outs)).2 ∧ (∀ x, mk ins x → mk (visitV first gs k v (ins, outs)).1 x) ∧ (∀ x, mk (visitV first gs k v (ins, outs)).1 x → mk ins x ∨ Rch first gs v x) ∧ (v = 0 ∨ mk (visitV first gs k v (ins, outs)).1 v) ∧ (∀ x, mk (visitV first gs k v (ins, outs)).1 x → mk ins x ∨ Kids first gs (visitV first gs k v (ins, outs)).1 x) := by
  intro k
  induction k with
  | zero => intro v _ _ h; omega
  | succ k ih =>
    intro v ins outs hv hN hl hP
    by_cases c : v = 0 ∨ rdOf false (ins, outs).1 (v : Int) = true
    · rw [visitV, if_pos c]
      exact ⟨hl, hP, fun _ h => h, fun _ h => Or.inl h, c, fun _ h => Or.inl h⟩
    · have c0 : v ≠ 0 := fun e => c (Or.inl e)
      have c1 : ¬ mk ins v := fun e => c (Or.inr e)
      have hs : ∀ x, mk (ins.set v true) x ↔ x = v ∨ mk ins x := fun x => mk_set ins v x (by omega)
      have hl1 : (ins.set v true).length = N := by rw [List.length_set]; exact hl
      have hP1 : Put (ins.set v true) (outs ++ [(v : Int)]) := by
        refine ⟨?_, fun y => ?_⟩
        · rw [List.nodup_append]
          refine ⟨hP.1, by simp, fun a ha b hb => ?_⟩
          rw [List.mem_singleton] at hb
          subst hb
          rintro rfl
          obtain ⟨x, e, hx⟩ := (hP.2 _).1 ha
          have : v = x := by omega
          subst this
          exact c1 hx
        · rw [List.mem_append, List.mem_singleton, hP.2]
          constructor
          · rintro (⟨x, e, hx⟩ | e)
            · exact ⟨x, e, (hs x).2 (Or.inr hx)⟩
            · exact ⟨v, e, (hs v).2 (Or.inl rfl)⟩
          · rintro ⟨x, e, hx⟩
            rcases (hs x).1 hx with rfl | hx
            · exact Or.inr e
            · exact Or.inl ⟨x, e, hx⟩
      have hself : Rch first gs v v := Or.inl ⟨c0, rfl⟩
      by_cases cF : first ≤ (v : Int)
      · have ha := hD.a v cF hN
        have hb := hD.b v cF hN
        have e : visitV first gs (k + 1) v (ins, outs) = visitV first gs k (kidB first gs v) (visitV first gs k (kidA first gs v) (ins.set v true, outs ++ [(v : Int)])) := by
          rw [visitV, if_neg c, if_pos cF]; rfl
        obtain ⟨a1, a2, a3, a4, a5, a6⟩ := ih (kidA first gs v) (ins.set v true) (outs ++ [(v : Int)]) (by omega) (by omega) hl1 hP1
        rw [e]
        generalize visitV first gs k (kidA first gs v) (ins.set v true, outs ++ [(v : Int)]) = s2 at a1 a2 a3 a4 a5 a6 ⊢
        obtain ⟨b1, b2, b3, b4, b5, b6⟩ := ih (kidB first gs v) s2.1 s2.2 (by omega) (by omega) a1 a2
        refine ⟨b1, b2, fun x h => b3 x (a3 x ((hs x).2 (Or.inr h))), fun x h => ?_, Or.inr (b3 v (a3 v ((hs v).2 (Or.inl rfl)))), fun x h => ?_⟩
        · rcases b4 x h with h | h
          · rcases a4 x h with h | h
            · rcases (hs x).1 h with rfl | h
              · exact Or.inr hself
              · exact Or.inl h
            · exact Or.inr (Rch_a hD v x cF hN h)
          · exact Or.inr (Rch_b hD v x cF hN h)
        · rcases b6 x h with h | h
          · rcases a6 x h with h | h
            · rcases (hs x).1 h with rfl | h
              · exact Or.inr fun _ => ⟨a5.imp id (b3 _), b5⟩
              · exact Or.inl h
            · exact Or.inr (Kids_mono b3 h)
          · exact Or.inr h
      · rw [visitV, if_neg c, if_neg cF]
        refine ⟨hl1, hP1, fun x h => (hs x).2 (Or.inr h), fun x h => ?_, Or.inr ((hs v).2 (Or.inl rfl)), fun x h => ?_⟩
        · rcases (hs x).1 h with rfl | h
          · exact Or.inr hself
          · exact Or.inl h
        · rcases (hs x).1 h with rfl | h
          · exact Or.inr fun hf => absurd hf cF
          · exact Or.inl h
theorem closed_reach (l : List Bool) (hk : ∀ x, mk l x → Kids first gs l x) : ∀ (u x : Nat), u < N → mk l u → Rch first gs u x → mk l x := by
  intro u
  induction u using Nat.strongRecOn with
  | _ u ih =>
    intro x hN hu h
    rcases Rch_cases hD u x hN h with ⟨h0, rfl⟩ | ⟨h0, h | h⟩
    · exact hu
    · have ha := hD.a u h0 hN
      rcases (hk u hu h0).1 with e | e
      · rw [e] at h; exact absurd h (Rch_zero hD x)
      · exact ih _ ha x (by omega) e h
    · have hb := hD.b u h0 hN
      rcases (hk u hu h0).2 with e | e
      · rw [e] at h; exact absurd h (Rch_zero hD x)
      · exact ih _ hb x (by omega) e h
omit hD in
/-- The cone of a variable, in order. -/
def coneL (first : Int) (gs : List S50) (N v : Nat) : List Int := sortI (visitV first gs (v + 1) v (List.replicate N false, [])).2
theorem coneL_spec (v : Nat) (hv : v < N) : (coneL first gs N v).Pairwise (· < ·) ∧ ∀ y, y ∈ coneL first gs N v ↔ ∃ x : Nat, y = (x : Int) ∧ Rch first gs v x := by
  have hP : Put (List.replicate N false) [] := ⟨List.nodup_nil, fun y => ⟨fun h => absurd h (by simp), fun ⟨x, _, hx⟩ => absurd hx (mk_none N x)⟩⟩
  obtain ⟨b1, b2, b3, b4, b5, b6⟩ := visit_spec hD (v + 1) v (List.replicate N false) [] (by omega) hv (by simp) hP
  unfold coneL
  generalize visitV first gs (v + 1) v (List.replicate N false, []) = s at b1 b2 b3 b4 b5 b6 ⊢
  have hall : ∀ x, mk s.1 x ↔ Rch first gs v x := fun x => by
    constructor
    · intro h
      rcases b4 x h with h | h
      · exact absurd h (mk_none N x)
      · exact h
    · intro h
      rcases b5 with e | e
      · rw [e] at h; exact absurd h (Rch_zero hD x)
      · exact closed_reach hD s.1 (fun x hx => (b6 x hx).resolve_left (mk_none N x)) v x hv e h
  constructor
  · have h1 := sortI_inc s.2
    have h2 : (sortI s.2).Nodup := (List.mergeSort_perm s.2 _).nodup_iff.2 b2.1
    have h3 := h1.and h2
    exact h3.imp fun h => by omega
  · intro y
    rw [sortI_mem, b2.2]
    constructor
    · rintro ⟨x, e, h⟩; exact ⟨x, e, (hall x).1 h⟩
    · rintro ⟨x, e, h⟩; exact ⟨x, e, (hall x).2 h⟩
end

theorem var_eq (k : Nat) (x : Int) (hk : 5 < k) (hw : -9223372036854775808 ≤ x ∧ x ≤ 9223372036854775807) : ∃ b, lits_Var.f k x = some (if 0 ≤ x ∧ x ≤ 2001 then (x / 2, b, 0) else (0, false, 2)) := by
  obtain ⟨k, rfl⟩ : ∃ m, k = m + 1 + 1 := ⟨k - 2, by omega⟩
  unfold lits_Var.f lits_check.f
  have e1 : wrap64 (0 + 1) = 1 := by unfold wrap64; omega
  have hr : rd [x] 0 = x := rfl
  by_cases c : 0 ≤ x ∧ x ≤ 2001
  · have e : lits_check.l0 (k + 1 + 1) [x] ((([x] : List Int).length : Nat) : Int) 0 = some 0 := by
      simp only [lits_check.l0, List.length_singleton, hr, e1]
      rw [if_pos (by decide), if_pos (by decide), if_pos (by decide), if_neg (by omega), if_neg (by omega), if_neg (by decide)]
    rw [e, Option.bind_some, if_pos rfl]
    exact ⟨(Go.bits .and .i64 x 1 == 1), by rw [if_pos c]⟩
  · have e : lits_check.l0 (k + 1 + 1) [x] ((([x] : List Int).length : Nat) : Int) 0 = some 2 := by
      simp only [lits_check.l0, List.length_singleton, hr, e1]
      rw [if_pos (by decide), if_pos (by decide), if_pos (by decide)]
      by_cases d : x < 0
      · rw [if_pos d]
      · rw [if_neg d, if_pos (by omega)]
    rw [e, Option.bind_some, if_neg (by decide)]
    exact ⟨false, by rw [if_neg c]⟩
/-- How many variables there are, 0 among them. -/
def allN (a : Int) (l1 : List S53) (l2 : List S50) : Nat := (szS a l1 l2 + 1).toNat
def coneR (a : Int) (l1 : List S53) (l2 : List S50) (l3 l4 : List Int) (l : Int) : List Int × Int :=
  if checkR a l1 l2 l3 l4 = 0 then (if l < 0 ∨ l / 2 > szS a l1 l2 then ([], 2) else (coneL (1 + a + l1.length) l2 (allN a l1 l2) (l / 2).toNat, 0)) else ([], checkR a l1 l2 l3 l4)
theorem good_gate {a : Int} {l1 : List S53} {l2 : List S50} {l3 l4 : List Int} (hg : Good a l1 l2 l3 l4) (i : Nat) (hi : i < l2.length) : 0 ≤ (rd_T50 l2 (i : Int)).f0 ∧ (rd_T50 l2 (i : Int)).f0 ≤ 2001 ∧ 0 ≤ (rd_T50 l2 (i : Int)).f1 ∧ (rd_T50 l2 (i : Int)).f1 ≤ 2001 ∧ (rd_T50 l2 (i : Int)).f0 / 2 < 1 + a + l1.length + i ∧ (rd_T50 l2 (i : Int)).f1 / 2 < 1 + a + l1.length + i := by
  obtain ⟨g0, g1, g2⟩ := hg.g i hi
  have ha := hg.a0
  have hn := hg.n
  unfold szS at hn
  rw [rdA_at l2 i hi]
  omega
theorem good_down {a : Int} {l1 : List S53} {l2 : List S50} {l3 l4 : List Int} (hg : Good a l1 l2 l3 l4) : Down (1 + a + l1.length) l2 (allN a l1 l2) := by
  have ha := hg.a0
  have hN : ((allN a l1 l2 : Nat) : Int) = 1 + a + l1.length + l2.length := by unfold allN szS; omega
  have key : ∀ v : Nat, 1 + a + (l1.length : Int) ≤ (v : Int) → v < allN a l1 l2 → ∃ i : Nat, i < l2.length ∧ (v : Int) - (1 + a + l1.length) = (i : Int) := fun v h1 h2 => ⟨((v : Int) - (1 + a + l1.length)).toNat, by omega, by omega⟩
  refine ⟨by omega, hN, fun v h1 h2 => ?_, fun v h1 h2 => ?_⟩
  · obtain ⟨i, hi, e⟩ := key v h1 h2
    have := good_gate hg i hi
    unfold kidA
    rw [e]
    omega
  · obtain ⟨i, hi, e⟩ := key v h1 h2
    have := good_gate hg i hi
    unfold kidB
    rw [e]
    omega
theorem gcone_eq (k : Nat) (a : Int) (l1 : List S53) (l2 : List S50) (l3 l4 : List Int) (l : Int) (hs : Small l1 l2 l3 l4) (hw : Wf a l1 l2 l3 l4) (hk : 5 < k) (hl : -9223372036854775808 ≤ l ∧ l ≤ 9223372036854775807) :
    gates_Cone.f k a l1 l2 l3 l4 l = some (coneR a l1 l2 l3 l4 l) := by
  unfold gates_Cone.f coneR
  rw [gvars_eq a l1 l2 l3 l4 hs hw, Option.bind_some]
  by_cases c : checkR a l1 l2 l3 l4 = 0
  · have hg := good_of a l1 l2 l3 l4 c
    have ha := hg.a0
    have hn := hg.n
    rw [if_pos c, if_pos c]
    dsimp only
    rw [if_pos rfl]
    obtain ⟨b, e⟩ := var_eq k l hk hl
    rw [e, Option.bind_some]
    by_cases d : 0 ≤ l ∧ l ≤ 2001
    · rw [if_pos d]
      dsimp only
      rw [if_pos rfl]
      by_cases f : l / 2 > szS a l1 l2
      · rw [if_pos f, if_pos (Or.inr f)]
      · have hok : coneOk a l1.length l2 = true := by
          unfold coneOk
          have hn' := hn
          unfold szS at hn'
          rw [Bool.and_eq_true, decide_eq_true_eq, List.all_eq_true]
          refine ⟨by omega, fun i hi => decide_eq_true ?_⟩
          exact good_gate hg i (List.mem_range.1 hi)
        rw [if_neg f, if_neg (show ¬ (l < 0 ∨ l / 2 > szS a l1 l2) by omega), if_pos ⟨hok, by omega, rfl⟩]
        rfl
    · rw [if_neg d]
      dsimp only
      rw [if_neg (by decide), if_pos (show l < 0 ∨ l / 2 > szS a l1 l2 by omega)]
  · rw [if_neg c, if_neg c]
    dsimp only
    rw [if_neg c]

theorem sortI_of (l m : List Int) (hl : l.Nodup) (hm : m.Pairwise (· < ·)) (h2 : (m.all fun x => l.contains x) = true) (h3 : (l.all fun x => m.contains x) = true) : sortI l = m := by
  have h1 : (sortI l).Pairwise (· < ·) := by
    have h4 := (sortI_inc l).and ((List.mergeSort_perm l _).nodup_iff.2 hl : (sortI l).Nodup)
    exact h4.imp fun h => by omega
  refine inc_ext _ _ h1 hm (fun x => ?_)
  rw [sortI_mem]
  exact ⟨fun hx => List.contains_iff_mem.1 (List.all_eq_true.1 h3 x hx), fun hx => List.contains_iff_mem.1 (List.all_eq_true.1 h2 x hx)⟩
def exL : List S53 := [(⟨10, 2⟩ : S53)]
def exG : List S50 := [(⟨4, 2⟩ : S50), (⟨8, 7⟩ : S50)]
theorem ex_small : Small exL exG [11] [] := ⟨by decide, by decide, by decide, by decide⟩
theorem ex_wf : Wf 2 exL exG [11] [] := ⟨by omega, by simp [exL], by simp [exG], by simp, by simp⟩
theorem ex_check : checkR 2 exL exG [11] [] = 0 := by decide +kernel
theorem ex_cone : coneR 2 exL exG [11] [] 10 = ([1, 2, 3, 4, 5], 0) := by
  unfold coneR
  rw [if_pos ex_check, if_neg (by decide +kernel)]
  unfold coneL
  have e : (visitV (1 + 2 + (exL.length : Int)) exG (((10 : Int) / 2).toNat + 1) ((10 : Int) / 2).toNat (List.replicate (allN 2 exL exG) false, [])).2 = [5, 4, 2, 1, 3] := by decide +kernel
  rw [e, sortI_of [5, 4, 2, 1, 3] [1, 2, 3, 4, 5] (by decide) (by decide) (by decide) (by decide)]
theorem ex_depth (k : Nat) (hk : 60 ≤ k) : gates_Depth.f k 2 exL exG [11] [] = some (2, 0) := by
  have al : gates_Depth.f 60 2 exL exG [11] [] = some (2, 0) := by decide +kernel
  obtain ⟨d, rfl⟩ := Nat.exists_eq_add_of_le hk
  induction d with
  | zero => exact al
  | succ d ih => exact gates_Depth.mono 2 exL exG [11] [] (60 + d) _ (ih (by omega))
theorem Rch_trans {first : Int} {gs : List S50} {N : Nat} (hD : Down first gs N) : ∀ (v z x : Nat), v < N → Rch first gs v z → Rch first gs z x → Rch first gs v x := by
  intro v
  induction v using Nat.strongRecOn with
  | _ v ih =>
    intro z x hN h1 h2
    rcases Rch_cases hD v z hN h1 with ⟨h0, rfl⟩ | ⟨h0, h | h⟩
    · exact h2
    · have ha := hD.a v h0 hN
      exact Rch_a hD v x h0 hN (ih _ ha z x (by omega) h h2)
    · have hb := hD.b v h0 hN
      exact Rch_b hD v x h0 hN (ih _ hb z x (by omega) h h2)
theorem coneR_of {a : Int} {l1 : List S53} {l2 : List S50} {l3 l4 : List Int} (c0 : checkR a l1 l2 l3 l4 = 0) (l : Int) (h0 : 0 ≤ l) (h1 : l / 2 ≤ szS a l1 l2) :
    coneR a l1 l2 l3 l4 l = (coneL (1 + a + l1.length) l2 (allN a l1 l2) (l / 2).toNat, 0) := by
  unfold coneR; rw [if_pos c0, if_neg (by omega)]
/-- What a cone of a valid circuit is. -/
structure IsCone (a : Int) (l1 : List S53) (l2 : List S50) (v : Nat) (C : List Int) : Prop where
  inc : C.Pairwise (· < ·)
  mem : ∀ y, y ∈ C ↔ ∃ x : Nat, y = (x : Int) ∧ Rch (1 + a + l1.length) l2 v x
  rng : ∀ y ∈ C, 1 ≤ y ∧ y ≤ v
  len : C.length ≤ 1000
theorem is_cone {a : Int} {l1 : List S53} {l2 : List S50} {l3 l4 : List Int} (hg : Good a l1 l2 l3 l4) (v : Nat) (hv : (v : Int) ≤ szS a l1 l2) : IsCone a l1 l2 v (coneL (1 + a + l1.length) l2 (allN a l1 l2) v) := by
  have ha := hg.a0
  have hn := hg.n
  have hvx : v < allN a l1 l2 := by unfold allN; omega
  obtain ⟨p1, p2⟩ := coneL_spec (good_down hg) v hvx
  have hrng : ∀ y ∈ coneL (1 + a + l1.length) l2 (allN a l1 l2) v, 1 ≤ y ∧ y ≤ v := fun y hy => by
    obtain ⟨z, rfl, hz⟩ := (p2 y).1 hy
    have := Rch_le (good_down hg) _ z hvx hz
    omega
  have := inc_len _ 1 1000 p1 (fun y hy => by have := hrng y hy; omega) (by omega)
  exact ⟨p1, p2, hrng, by omega⟩

-- depths
theorem rd_set (l : List Int) (v u : Nat) (x : Int) (h : v < l.length) : rd (l.set v x) (u : Int) = if u = v then x else rd l (u : Int) := by
  unfold rd
  rw [Int.toNat_natCast, List.getD_eq_getElem?_getD, List.getD_eq_getElem?_getD]
  by_cases c : u = v
  · subst c
    rw [if_pos rfl, List.getElem?_set_self h]
    rfl
  · rw [if_neg c, List.getElem?_set_ne (fun e => c e.symm)]
theorem rd_app (l m : List Int) (u : Nat) (h : u < l.length) : rd (l ++ m) (u : Int) = rd l (u : Int) := by
  unfold rd
  rw [Int.toNat_natCast, List.getD_eq_getElem?_getD, List.getD_eq_getElem?_getD, List.getElem?_append_left h]
theorem rd_last (l : List Int) (x : Int) : rd (l ++ [x]) (l.length : Int) = x := by
  unfold rd
  rw [Int.toNat_natCast, List.getD_eq_getElem?_getD, List.getElem?_append_right (by omega)]
  simp
/-- The gates are in order, behind so many variables. -/
structure Dn (F N : Nat) (gs : List S50) : Prop where
  len : N = F + gs.length
  big : N ≤ 100000
  g : ∀ i : Nat, i < gs.length → 0 ≤ (rd_T50 gs (i : Int)).f0 ∧ (rd_T50 gs (i : Int)).f0 / 2 < ((F + i : Nat) : Int) ∧ 0 ≤ (rd_T50 gs (i : Int)).f1 ∧ (rd_T50 gs (i : Int)).f1 / 2 < ((F + i : Nat) : Int)
/-- The bound of a depth. -/
def dep (F v : Nat) : Int := if F ≤ v then (v : Int) - F + 1 else 0
theorem step_lo (F : Nat) (gs : List S50) (ds : List Int) (v : Nat) (h : v < F) : depthStep (F : Int) gs ds v = ds := by
  unfold depthStep; rw [if_neg (by omega)]
theorem step_hi {F N : Nat} {gs : List S50} (hD : Dn F N gs) (ds : List Int) (i : Nat) (hi : i < gs.length) (hl : F + i < ds.length) (hb : ∀ u : Nat, u < F + i → 0 ≤ rd ds (u : Int) ∧ rd ds (u : Int) ≤ 200000) (hz : rd ds ((F + i : Nat) : Int) = 0) :
    ∃ p q : Nat, p < F + i ∧ q < F + i ∧ (p : Int) = (rd_T50 gs (i : Int)).f0 / 2 ∧ (q : Int) = (rd_T50 gs (i : Int)).f1 / 2 ∧ depthStep (F : Int) gs ds (F + i) = ds.set (F + i) (max (rd ds (p : Int) + 1) (rd ds (q : Int) + 1)) := by
  obtain ⟨h0, h1, h2, h3⟩ := hD.g i hi
  obtain ⟨p, hp⟩ : ∃ p : Nat, (rd_T50 gs (i : Int)).f0 / 2 = (p : Int) := ⟨((rd_T50 gs (i : Int)).f0 / 2).toNat, by omega⟩
  obtain ⟨q, hq⟩ : ∃ q : Nat, (rd_T50 gs (i : Int)).f1 / 2 = (q : Int) := ⟨((rd_T50 gs (i : Int)).f1 / 2).toNat, by omega⟩
  refine ⟨p, q, by omega, by omega, hp.symm, hq.symm, ?_⟩
  obtain ⟨p0, p1⟩ := hb p (by omega)
  obtain ⟨q0, q1⟩ := hb q (by omega)
  unfold depthStep
  rw [if_pos (by omega), show ((F + i : Nat) : Int) - (F : Int) = (i : Int) by omega]
  dsimp only
  rw [hp, hq, hz, w64 _ (by omega) (by omega), rd_set _ _ _ _ hl, if_pos rfl, rd_set _ _ _ _ hl, if_neg (by omega), w64 _ (by omega) (by omega), List.set_set]
  congr 1
  have e1 : gtr 0 (rd ds (p : Int) + 1) = rd ds (p : Int) + 1 := by unfold gtr; rw [if_pos (by omega)]
  rw [e1]
  unfold gtr
  split <;> omega
theorem depths_spec {F N : Nat} {gs : List S50} (hD : Dn F N gs) : ∀ n : Nat, n ≤ N → (depthsV (F : Int) gs N n).length = N ∧ ∀ v : Nat, v < N → 0 ≤ rd (depthsV (F : Int) gs N n) (v : Int) ∧ rd (depthsV (F : Int) gs N n) (v : Int) ≤ dep F v ∧ (n ≤ v → rd (depthsV (F : Int) gs N n) (v : Int) = 0) := by
  intro n
  have hlen := hD.len
  have hbig := hD.big
  induction n with
  | zero =>
    intro _
    refine ⟨by simp [depthsV], fun v hv => ?_⟩
    have : rd (depthsV (F : Int) gs N 0) (v : Int) = 0 := by
      rw [rd_at _ v (by simp [depthsV]; exact hv)]
      simp [depthsV]
    unfold dep
    rw [this]
    split <;> omega
  | succ n ih =>
    intro hn
    obtain ⟨i1, i2⟩ := ih (by omega)
    have e : depthsV (F : Int) gs N (n + 1) = depthStep (F : Int) gs (depthsV (F : Int) gs N n) n := rfl
    rw [e]
    generalize depthsV (F : Int) gs N n = ds at i1 i2
    by_cases c : n < F
    · rw [step_lo F gs ds n c]
      exact ⟨i1, fun v hv => ⟨(i2 v hv).1, (i2 v hv).2.1, fun h => (i2 v hv).2.2 (by omega)⟩⟩
    · obtain ⟨i, rfl⟩ := Nat.exists_eq_add_of_le (show F ≤ n by omega)
      obtain ⟨p, q, hp, hq, -, -, e⟩ := step_hi hD ds i (by omega) (by omega) (fun u hu => by
        have := i2 u (by omega)
        unfold dep at this
        split at this <;> omega) ((i2 _ (by omega)).2.2 (by omega))
      rw [e]
      refine ⟨by rw [List.length_set]; exact i1, fun v hv => ?_⟩
      rw [rd_set _ _ _ _ (by omega)]
      have hp' := i2 p (by omega)
      have hq' := i2 q (by omega)
      have hv' := i2 v hv
      by_cases c : v = F + i
      · rw [if_pos c]
        subst c
        unfold dep at hp' hq' ⊢
        split at hp' <;> split at hq' <;> split <;> omega
      · rw [if_neg c]
        exact ⟨hv'.1, hv'.2.1, fun h => hv'.2.2 (by omega)⟩
theorem depths_more {F N : Nat} {gs : List S50} (hD : Dn F N gs) (g : S50) : ∀ n : Nat, n ≤ N → depthsV (F : Int) (gs ++ [g]) (N + 1) n = depthsV (F : Int) gs N n ++ [0] := by
  intro n
  have hlen := hD.len
  induction n with
  | zero => intro _; simp [depthsV, List.replicate_succ']
  | succ n ih =>
    intro hn
    obtain ⟨i1, i2⟩ := depths_spec hD n (by omega)
    have e : depthsV (F : Int) gs N (n + 1) = depthStep (F : Int) gs (depthsV (F : Int) gs N n) n := rfl
    have e' : depthsV (F : Int) (gs ++ [g]) (N + 1) (n + 1) = depthStep (F : Int) (gs ++ [g]) (depthsV (F : Int) (gs ++ [g]) (N + 1) n) n := rfl
    rw [e, e', ih (by omega)]
    generalize depthsV (F : Int) gs N n = ds at i1 i2
    by_cases c : n < F
    · rw [step_lo F gs ds n c, step_lo F _ _ n c]
    · obtain ⟨i, rfl⟩ := Nat.exists_eq_add_of_le (show F ≤ n by omega)
      have hi : i < gs.length := by omega
      obtain ⟨h0, h1, h2, h3⟩ := hD.g i hi
      have er : rd_T50 (gs ++ [g]) (i : Int) = rd_T50 gs (i : Int) := by
        rw [rdA_at _ i (by simp; omega), rdA_at _ i hi, List.getElem_append_left hi]
      unfold depthStep
      rw [if_pos (by omega), if_pos (by omega), show ((F + i : Nat) : Int) - (F : Int) = (i : Int) by omega, er]
      obtain ⟨p, hp⟩ : ∃ p : Nat, (rd_T50 gs (i : Int)).f0 / 2 = (p : Int) := ⟨((rd_T50 gs (i : Int)).f0 / 2).toNat, by omega⟩
      obtain ⟨q, hq⟩ : ∃ q : Nat, (rd_T50 gs (i : Int)).f1 / 2 = (q : Int) := ⟨((rd_T50 gs (i : Int)).f1 / 2).toNat, by omega⟩
      dsimp only
      rw [hp, hq, rd_app ds [0] p (by omega), rd_app ds [0] (F + i) (by omega), List.set_append_left _ _ (by omega), rd_app _ [0] q (by rw [List.length_set]; omega), rd_app _ [0] (F + i) (by rw [List.length_set]; omega), List.set_append_left _ _ (by rw [List.length_set]; omega)]
/-- What the greatest number of a list is. -/
theorem max_l0 (l : List Int) (hl : l.length ≤ 200000) (d : Nat) : ∀ (k j : Nat) (m : Int), j + d = l.length → d < k → m ∈ l → (∀ i : Nat, i < j → (h : i < l.length) → l[i] ≤ m) → ∃ r, slices_Max_int_int.l0 k l m (j : Int) = some r ∧ r ∈ l ∧ ∀ x ∈ l, x ≤ r := by
  induction d with
  | zero =>
    intro k j m hj hk hm hb
    obtain ⟨k, rfl⟩ : ∃ m, k = m + 1 := ⟨k - 1, by omega⟩
    simp only [slices_Max_int_int.l0]
    rw [if_neg (by omega)]
    refine ⟨m, rfl, hm, fun x hx => ?_⟩
    obtain ⟨i, hi, rfl⟩ := List.getElem_of_mem hx
    exact hb i (by omega) hi
  | succ d ih =>
    intro k j m hj hk hm hb
    obtain ⟨k, rfl⟩ : ∃ m, k = m + 1 := ⟨k - 1, by omega⟩
    have h1 : j < l.length := by omega
    simp only [slices_Max_int_int.l0]
    rw [if_pos (by omega), if_pos (by omega), rd_at l j h1, w64 _ (by omega) (by omega), show ((j : Int) + 1) = ((j + 1 : Nat) : Int) by omega]
    have em : mx m l[j] = m ∨ mx m l[j] = l[j] := by unfold mx; split <;> simp
    have eg : m ≤ mx m l[j] ∧ l[j] ≤ mx m l[j] := by unfold mx; split <;> omega
    refine ih k (j + 1) _ (by omega) (by omega) ?_ (fun i hi h => ?_)
    · rcases em with e | e
      · rw [e]; exact hm
      · rw [e]; exact List.getElem_mem h1
    · by_cases c : i = j
      · subst c; exact eg.2
      · have := hb i (by omega) h; omega
theorem max_eq (k : Nat) (l : List Int) (hl : l.length ≤ 200000) (h0 : 0 < l.length) (hk : l.length < k) : ∃ r, slices_Max_int_int.f k l = some r ∧ r ∈ l ∧ ∀ x ∈ l, x ≤ r := by
  unfold slices_Max_int_int.f
  rw [if_neg (by omega), if_pos (by omega), show rd l 0 = l[0] from rd_at l 0 h0]
  exact max_l0 l hl (l.length - 1) k 1 l[0] (by omega) (by omega) (List.getElem_mem h0) (fun i hi h => by
    have : i = 0 := by omega
    subst this
    exact Int.le_refl _)
theorem good_dn {a : Int} {l1 : List S53} {l2 : List S50} {l3 l4 : List Int} (hg : Good a l1 l2 l3 l4) : Dn (1 + a.toNat + l1.length) (1 + a.toNat + l1.length + l2.length) l2 := by
  have ha := hg.a0
  have hn := hg.n
  unfold szS at hn
  refine ⟨rfl, by omega, fun i hi => ?_⟩
  have := good_gate hg i hi
  omega
/-- The depth of a circuit. -/
theorem gdepth_eq (k : Nat) (a : Int) (l1 : List S53) (l2 : List S50) (l3 l4 : List Int) (hs : Small l1 l2 l3 l4) (hw : Wf a l1 l2 l3 l4) (c0 : checkR a l1 l2 l3 l4 = 0) (hk : 2000 < k) :
    ∃ r, gates_Depth.f k a l1 l2 l3 l4 = some (r, 0) ∧ slices_Max_int_int.f k (depthsV ((1 + a.toNat + l1.length : Nat) : Int) l2 (1 + a.toNat + l1.length + l2.length) (1 + a.toNat + l1.length + l2.length)) = some r ∧
      r ∈ depthsV ((1 + a.toNat + l1.length : Nat) : Int) l2 (1 + a.toNat + l1.length + l2.length) (1 + a.toNat + l1.length + l2.length) ∧ ∀ x ∈ depthsV ((1 + a.toNat + l1.length : Nat) : Int) l2 (1 + a.toNat + l1.length + l2.length) (1 + a.toNat + l1.length + l2.length), x ≤ r := by
  have hg := good_of a l1 l2 l3 l4 c0
  have ha := hg.a0
  have hn := hg.n
  have hn' := hn
  unfold szS at hn'
  obtain ⟨e1, -⟩ := depths_spec (good_dn hg) (1 + a.toNat + l1.length + l2.length) (by omega)
  obtain ⟨r, h1, h2, h3⟩ := max_eq k (depthsV ((1 + a.toNat + l1.length : Nat) : Int) l2 (1 + a.toNat + l1.length + l2.length) (1 + a.toNat + l1.length + l2.length)) (by omega) (by omega) (by omega)
  refine ⟨r, ?_, h1, h2, h3⟩
  unfold gates_Depth.f
  rw [gvars_eq a l1 l2 l3 l4 hs hw, Option.bind_some, if_pos c0]
  dsimp only
  have hok : depthOk a l1.length l2 = true := by
    unfold depthOk
    rw [Bool.and_eq_true, decide_eq_true_eq, List.all_eq_true]
    refine ⟨by have := hs.h1; have := hs.h2; have := hg.a1; omega, fun i hi => decide_eq_true ?_⟩
    exact good_gate hg i (List.mem_range.1 hi)
  rw [if_pos rfl, if_pos ⟨hok, rfl⟩, show (szS a l1 l2 + 1).toNat = 1 + a.toNat + l1.length + l2.length by unfold szS; omega, show 1 + a + (l1.length : Int) = ((1 + a.toNat + l1.length : Nat) : Int) by omega, h1]
  rfl

-- the reference's cone
theorem Rch_self {first : Int} {gs : List S50} (v : Nat) (h : v ≠ 0) : Rch first gs v v := Or.inl ⟨h, rfl⟩
theorem rgate_eq (a : Int) (l1 : List S53) (l2 : List S50) (l3 l4 : List Int) (hs : Small l1 l2 l3 l4) (h0 : 0 ≤ a) (h1 : a ≤ 1000) (v : Int) (hv : 0 ≤ v) (hv2 : v ≤ 10000) : spiritlevelref02_Gate.f a l1 l2 l3 l4 v = some (v - (1 + a + l1.length)) := by
  have := hs.h1
  unfold spiritlevelref02_Gate.f
  rw [w64 (v - 1) (by omega) (by omega), w64 (v - 1 - a) (by omega) (by omega), w64 (v - 1 - a - l1.length) (by omega) (by omega)]
  congr 1
  omega
theorem rin_l0 (a : Int) (l1 : List S53) (l2 : List S50) (l3 l4 : List Int) (hs : Small l1 l2 l3 l4) (hg : Good a l1 l2 l3 l4) (v0 : Nat) (hv0 : v0 < allN a l1 l2) : ∀ (v k : Nat) (ls : List Bool), ls.length = allN a l1 l2 → v < allN a l1 l2 → v < k →
    (∀ x, 1 ≤ x → mk ls x → Rch (1 + a + l1.length) l2 v0 x) → (∀ x, v < x → mk ls x → Kids (1 + a + l1.length) l2 ls x) → mk ls v0 →
    ∃ R, spiritlevelref02_In.l0 k ls (v : Int) a l1 l2 l3 l4 = some R ∧ R.length = allN a l1 l2 ∧ ∀ x, 1 ≤ x → (mk R x ↔ Rch (1 + a + l1.length) l2 v0 x) := by
  have hD := good_down hg
  have ha := hg.a0
  have ha1 := hg.a1
  have hn := hg.n
  have hN : ((allN a l1 l2 : Nat) : Int) = 1 + a + l1.length + l2.length := hD.len
  have hN2 : allN a l1 l2 ≤ 1001 := by unfold szS at hn; omega
  intro v
  induction v with
  | zero =>
    intro k ls hl hv hk i1 i2 i3
    obtain ⟨k, rfl⟩ : ∃ m, k = m + 1 := ⟨k - 1, by omega⟩
    have e : ∀ x, 1 ≤ x → (mk (ls.set 0 false) x ↔ mk ls x) := fun x hx => by
      unfold mk rdOf
      rw [Int.toNat_natCast, List.getD_eq_getElem?_getD, List.getD_eq_getElem?_getD, List.getElem?_set_ne (by omega)]
    refine ⟨ls.set 0 false, ?_, by simp [hl], fun x hx => ?_⟩
    · simp only [spiritlevelref02_In.l0]
      rw [if_neg (by omega), if_pos (by omega)]
      rfl
    · rw [e x hx]
      refine ⟨i1 x hx, fun h => closed_reach hD ls (fun y hy => ?_) v0 x hv0 i3 h⟩
      rcases Nat.eq_zero_or_pos y with rfl | hp
      · intro hf
        have := hD.pos
        omega
      · exact i2 y hp hy
  | succ v ih =>
    intro k ls hl hv hk i1 i2 i3
    obtain ⟨k, rfl⟩ : ∃ m, k = m + 1 := ⟨k - 1, by omega⟩
    simp only [spiritlevelref02_In.l0]
    rw [if_pos (by omega), rgate_eq a l1 l2 l3 l4 hs ha ha1 _ (by omega) (by omega), Option.bind_some, if_pos (by omega), if_pos (by omega), w64 (((v + 1 : Nat) : Int) - 1) (by omega) (by omega), show ((v + 1 : Nat) : Int) - 1 = (v : Int) by omega]
    by_cases c : rdOf false ls ((v + 1 : Nat) : Int) = true
    · rw [if_pos c]
      by_cases d : ((v + 1 : Nat) : Int) - (1 + a + l1.length) ≥ 0
      · obtain ⟨i, hi⟩ : ∃ i : Nat, ((v + 1 : Nat) : Int) - (1 + a + l1.length) = (i : Int) := ⟨(((v + 1 : Nat) : Int) - (1 + a + l1.length)).toNat, by omega⟩
        have hil : i < l2.length := by omega
        have hq := good_gate hg i hil
        have hqa := hD.a (v + 1) (by omega) hv
        have hqb := hD.b (v + 1) (by omega) hv
        have ka : kidA (1 + a + l1.length) l2 (v + 1) = ((rd_T50 l2 (i : Int)).f0 / 2).toNat := by unfold kidA; rw [hi]
        have kb : kidB (1 + a + l1.length) l2 (v + 1) = ((rd_T50 l2 (i : Int)).f1 / 2).toNat := by unfold kidB; rw [hi]
        rw [if_pos d, if_pos d, hi, if_pos (by omega), Int.tdiv_eq_ediv_of_nonneg (by omega), Int.tdiv_eq_ediv_of_nonneg (by omega), w64 _ (by omega) (by omega), w64 ((rd_T50 l2 (i : Int)).f1 / 2) (by omega) (by omega), if_pos (by omega), if_pos (by omega), if_pos (by omega), if_pos (by omega), ← ka, ← kb]
        have rv := i1 (v + 1) (by omega) c
        have m2 : ∀ x, mk ((ls.set (kidA (1 + a + l1.length) l2 (v + 1)) true).set (kidB (1 + a + l1.length) l2 (v + 1)) true) x ↔ x = kidB (1 + a + l1.length) l2 (v + 1) ∨ x = kidA (1 + a + l1.length) l2 (v + 1) ∨ mk ls x := fun x => by
          rw [mk_set _ _ _ (by simp; omega), mk_set _ _ _ (by omega)]
        refine ih k _ (by simp [hl]) (by omega) (by omega) (fun x hx hm => ?_) (fun x hx hm => ?_) ((m2 v0).2 (Or.inr (Or.inr i3)))
        · rcases (m2 x).1 hm with rfl | rfl | h
          · exact Rch_trans hD v0 (v + 1) _ hv0 rv (Rch_b hD (v + 1) _ (by omega) hv (Rch_self _ (by omega)))
          · exact Rch_trans hD v0 (v + 1) _ hv0 rv (Rch_a hD (v + 1) _ (by omega) hv (Rch_self _ (by omega)))
          · exact i1 x hx h
        · rcases Nat.lt_or_ge (v + 1) x with h | h
          · rcases (m2 x).1 hm with e | e | h'
            · omega
            · omega
            · exact Kids_mono (fun y hy => (m2 y).2 (Or.inr (Or.inr hy))) (i2 x h h')
          · obtain rfl : x = v + 1 := by omega
            intro _
            exact ⟨Or.inr ((m2 _).2 (Or.inr (Or.inl rfl))), Or.inr ((m2 _).2 (Or.inl rfl))⟩
      · rw [if_neg d]
        refine ih k ls hl (by omega) (by omega) i1 (fun x hx hm => ?_) i3
        rcases Nat.lt_or_ge (v + 1) x with h | h
        · exact i2 x h hm
        · obtain rfl : x = v + 1 := by omega
          intro hf
          omega
    · rw [if_neg c]
      refine ih k ls hl (by omega) (by omega) i1 (fun x hx hm => ?_) i3
      rcases Nat.lt_or_ge (v + 1) x with h | h
      · exact i2 x h hm
      · obtain rfl : x = v + 1 := by omega
        exact absurd hm c
theorem rcone_l0 (R : List Bool) (hR : R.length ≤ 100000) (d : Nat) : ∀ (k j : Nat) (acc : List Int), j + d = R.length → d < k → acc.length ≤ j → acc.Pairwise (· < ·) → (∀ y ∈ acc, y < (j : Int)) →
    ∃ out, spiritlevelref02_Cone.l0 k R acc (j : Int) = some (out, 0) ∧ out.Pairwise (· < ·) ∧ ∀ y, y ∈ out ↔ y ∈ acc ∨ ∃ x : Nat, j ≤ x ∧ x < R.length ∧ y = (x : Int) ∧ mk R x := by
  induction d with
  | zero =>
    intro k j acc hj hk hl hp hb
    obtain ⟨k, rfl⟩ : ∃ m, k = m + 1 := ⟨k - 1, by omega⟩
    refine ⟨acc, ?_, hp, fun y => ⟨Or.inl, fun h => ?_⟩⟩
    · simp only [spiritlevelref02_Cone.l0]
      rw [if_neg (by omega)]
    · rcases h with h | ⟨x, h1, h2, _⟩
      · exact h
      · omega
  | succ d ih =>
    intro k j acc hj hk hl hp hb
    obtain ⟨k, rfl⟩ : ∃ m, k = m + 1 := ⟨k - 1, by omega⟩
    simp only [spiritlevelref02_Cone.l0]
    rw [if_pos (by omega), if_pos (by omega), w64 ((j : Int) + 1) (by omega) (by omega), show (j : Int) + 1 = ((j + 1 : Nat) : Int) by omega]
    by_cases c : rdOf false R (j : Int) = true
    · rw [if_pos c, if_pos (by omega)]
      obtain ⟨out, h1, h2, h3⟩ := ih k (j + 1) (acc ++ [(j : Int)]) (by omega) (by omega) (by simp; omega) (List.pairwise_append.2 ⟨hp, List.pairwise_singleton _ _, fun x hx y hy => by rw [List.mem_singleton.1 hy]; exact hb x hx⟩) (fun y hy => by
        rcases List.mem_append.1 hy with h | h
        · have := hb y h; omega
        · rw [List.mem_singleton.1 h]; omega)
      refine ⟨out, h1, h2, fun y => (h3 y).trans ⟨fun h => ?_, fun h => ?_⟩⟩
      · rcases h with h | ⟨x, g1, g2, g3⟩
        · rcases List.mem_append.1 h with h | h
          · exact Or.inl h
          · exact Or.inr ⟨j, Nat.le_refl _, by omega, List.mem_singleton.1 h, c⟩
        · exact Or.inr ⟨x, by omega, g2, g3⟩
      · rcases h with h | ⟨x, g1, g2, g3, g4⟩
        · exact Or.inl (List.mem_append_left _ h)
        · rcases Nat.eq_or_lt_of_le g1 with rfl | g
          · exact Or.inl (List.mem_append_right _ (by rw [g3]; exact List.mem_singleton_self _))
          · exact Or.inr ⟨x, g, g2, g3, g4⟩
    · rw [if_neg c]
      obtain ⟨out, h1, h2, h3⟩ := ih k (j + 1) acc (by omega) (by omega) (by omega) hp (fun y hy => by have := hb y hy; omega)
      refine ⟨out, h1, h2, fun y => (h3 y).trans ⟨fun h => ?_, fun h => ?_⟩⟩
      · rcases h with h | ⟨x, g1, g2, g3⟩
        · exact Or.inl h
        · exact Or.inr ⟨x, by omega, g2, g3⟩
      · rcases h with h | ⟨x, g1, g2, g3, g4⟩
        · exact Or.inl h
        · rcases Nat.eq_or_lt_of_le g1 with rfl | g
          · exact absurd g4 c
          · exact Or.inr ⟨x, g, g2, g3, g4⟩
theorem rcone_eq (k : Nat) (a : Int) (l1 : List S53) (l2 : List S50) (l3 l4 : List Int) (l : Int) (hs : Small l1 l2 l3 l4) (hw : Wf a l1 l2 l3 l4) (hk : 3000 < k) (hl : -9223372036854775808 ≤ l ∧ l ≤ 9223372036854775807) :
    spiritlevelref02_Cone.f k a l1 l2 l3 l4 l = some (coneR a l1 l2 l3 l4 l) := by
  unfold spiritlevelref02_Cone.f coneR
  rw [rcheck_eq k a l1 l2 l3 l4 hs hw (by omega), Option.bind_some]
  by_cases c0 : checkR a l1 l2 l3 l4 = 0
  · have hg := good_of a l1 l2 l3 l4 c0
    have ha := hg.a0
    have ha1 := hg.a1
    have hn := hg.n
    have hD := good_down hg
    have hN : ((allN a l1 l2 : Nat) : Int) = szS a l1 l2 + 1 := by unfold allN szS; omega
    have hz : 0 ≤ szS a l1 l2 := by unfold szS; omega
    obtain ⟨m, rfl⟩ : ∃ m, k = m + 1 := ⟨k - 1, by omega⟩
    rw [if_pos c0, if_pos c0]
    by_cases d : l < 0
    · rw [if_pos d, if_pos (Or.inl d)]
      simp only [spiritlevelref02_Cone.j0]
      rw [if_pos trivial]
    · rw [if_neg d, size_eq a l1 l2 l3 l4 hs ha ha1, Option.bind_some, Int.tdiv_eq_ediv_of_nonneg (by omega), w64 (l / 2) (by omega) (by omega)]
      by_cases e : l / 2 > szS a l1 l2
      · rw [decide_eq_true e, if_pos (Or.inr e)]
        simp only [spiritlevelref02_Cone.j0]
        rw [if_pos trivial]
      · rw [decide_eq_false e, if_neg (by omega)]
        simp only [spiritlevelref02_Cone.j0]
        obtain ⟨v0, hv0⟩ : ∃ v : Nat, l / 2 = (v : Int) := ⟨(l / 2).toNat, by omega⟩
        have hlt : v0 < allN a l1 l2 := by omega
        obtain ⟨R, r1, r2, r3⟩ := rin_l0 a l1 l2 l3 l4 hs hg v0 hlt (szS a l1 l2).toNat m ((List.replicate (allN a l1 l2) false).set v0 true) (by simp) (by omega) (by omega)
          (fun x hx hm => by
            rcases (mk_set _ _ _ (by simpa using hlt)).1 hm with rfl | h
            · exact Rch_self _ (by omega)
            · exact absurd h (mk_none _ _))
          (fun x hx hm => by
            rcases (mk_set _ _ _ (by simpa using hlt)).1 hm with rfl | h
            · omega
            · exact absurd h (mk_none _ _)) ((mk_set _ _ _ (by simpa using hlt)).2 (Or.inl rfl))
        have hin : spiritlevelref02_In.f m a l1 l2 l3 l4 l = some R := by
          unfold spiritlevelref02_In.f
          rw [size_eq a l1 l2 l3 l4 hs ha ha1, Option.bind_some, w64 (szS a l1 l2 + 1) (by omega) (by omega), if_pos (by omega), if_pos (by omega), Option.bind_some, Int.tdiv_eq_ediv_of_nonneg (by omega), w64 (l / 2) (by omega) (by omega), if_pos (by omega), List.length_replicate, if_pos (by omega), Option.bind_some, hv0, Int.toNat_natCast]
          rw [← hN, Int.toNat_natCast]
          rw [show (((szS a l1 l2).toNat : Nat) : Int) = szS a l1 l2 by omega] at r1
          exact r1
        rw [if_neg (by decide), hin, Option.bind_some]
        obtain ⟨out, o1, o2, o3⟩ := rcone_l0 R (by omega) (R.length - 1) m 1 [] (by omega) (by omega) (by simp) List.Pairwise.nil (by simp)
        rw [show ((1 : Nat) : Int) = 1 from rfl] at o1
        rw [o1, hv0, Int.toNat_natCast]
        obtain ⟨p1, p2⟩ := coneL_spec hD v0 hlt
        rw [inc_ext out _ o2 p1 (fun y => by
          rw [o3, p2]
          constructor
          · rintro (h | ⟨x, g1, g2, g3, g4⟩)
            · cases h
            · exact ⟨x, g3, (r3 x g1).1 g4⟩
          · rintro ⟨x, g1, g2⟩
            have hx := Rch_le hD v0 x hlt g2
            exact Or.inr ⟨x, hx.1, by omega, g1, (r3 x hx.1).2 g2⟩)]
  · rw [if_neg c0, if_neg c0]
    rw [Option.bind_some]

-- the reference's depth
theorem rdepth_l0 (a : Int) (l1 : List S53) (l2 : List S50) (l3 l4 : List Int) (hg : Good a l1 l2 l3 l4) (F N : Nat) (hF : F = 1 + a.toNat + l1.length) (hN : N = F + l2.length) (d : Nat) : ∀ (k i : Nat) (m : Int), i + d = l2.length → d < k → 0 ≤ m → m ≤ 200000 →
    (m = 0 ∨ ∃ u : Nat, u < F + i ∧ rd (depthsV (F : Int) l2 N (F + i)) (u : Int) = m) → (∀ u : Nat, u < N → rd (depthsV (F : Int) l2 N (F + i)) (u : Int) ≤ m) →
    ∃ r, spiritlevelref02_Depth.l0 k (depthsV (F : Int) l2 N (F + i)) m (i : Int) a l1 l2 l3 l4 = some (r, 0) ∧ 0 ≤ r ∧ (r = 0 ∨ ∃ u : Nat, u < N ∧ rd (depthsV (F : Int) l2 N N) (u : Int) = r) ∧ ∀ u : Nat, u < N → rd (depthsV (F : Int) l2 N N) (u : Int) ≤ r := by
  have hd := good_dn hg
  rw [← hF, ← hN] at hd
  have ha := hg.a0
  have hn := hg.n
  unfold szS at hn
  induction d with
  | zero =>
    intro k i m hi hk m0 m1 i1 i2
    obtain ⟨k, rfl⟩ : ∃ q, k = q + 1 := ⟨k - 1, by omega⟩
    have e : F + i = N := by omega
    rw [e] at i1 i2 ⊢
    refine ⟨m, ?_, m0, i1, i2⟩
    simp only [spiritlevelref02_Depth.l0]
    rw [if_neg (by omega)]
  | succ d ih =>
    intro k i m hi hk m0 m1 i1 i2
    obtain ⟨k, rfl⟩ : ∃ q, k = q + 1 := ⟨k - 1, by omega⟩
    have hil : i < l2.length := by omega
    obtain ⟨s1, s2⟩ := depths_spec hd (F + i) (by omega)
    have hb : ∀ u : Nat, u < F + i → 0 ≤ rd (depthsV (F : Int) l2 N (F + i)) (u : Int) ∧ rd (depthsV (F : Int) l2 N (F + i)) (u : Int) ≤ 200000 := fun u hu => by
      obtain ⟨q0, q1, -⟩ := s2 u (by omega)
      refine ⟨q0, Int.le_trans q1 ?_⟩
      unfold dep
      split <;> omega
    obtain ⟨p, q, hp, hq, ep, eqq, es⟩ := step_hi hd (depthsV (F : Int) l2 N (F + i)) i hil (by omega) hb ((s2 (F + i) (by omega)).2.2 (Nat.le_refl _))
    have hg0 := good_gate hg i hil
    have hdep : ∀ u : Nat, u < F + i → dep F u ≤ 1000 := fun u hu => by unfold dep; split <;> omega
    have bp : 0 ≤ rd (depthsV (F : Int) l2 N (F + i)) (p : Int) ∧ rd (depthsV (F : Int) l2 N (F + i)) (p : Int) ≤ 1000 := ⟨(hb p hp).1, Int.le_trans (s2 p (by omega)).2.1 (hdep p hp)⟩
    have bq : 0 ≤ rd (depthsV (F : Int) l2 N (F + i)) (q : Int) ∧ rd (depthsV (F : Int) l2 N (F + i)) (q : Int) ≤ 1000 := ⟨(hb q hq).1, Int.le_trans (s2 q (by omega)).2.1 (hdep q hq)⟩
    have estep : depthsV (F : Int) l2 N (F + (i + 1)) = (depthsV (F : Int) l2 N (F + i)).set (F + i) (max (rd (depthsV (F : Int) l2 N (F + i)) (p : Int) + 1) (rd (depthsV (F : Int) l2 N (F + i)) (q : Int) + 1)) := es
    simp only [spiritlevelref02_Depth.l0]
    rw [if_pos (by omega), if_pos (by omega), Int.tdiv_eq_ediv_of_nonneg (by omega), Int.tdiv_eq_ediv_of_nonneg (by omega), w64 ((rd_T50 l2 (i : Int)).f0 / 2) (by omega) (by omega), w64 ((rd_T50 l2 (i : Int)).f1 / 2) (by omega) (by omega), ← ep, ← eqq, if_pos (by omega), if_pos (by omega), if_pos (by omega), if_pos (by omega), w64 (a + l1.length) (by omega) (by omega), w64 (a + l1.length + 1) (by omega) (by omega), w64 (a + l1.length + 1 + i) (by omega) (by omega), if_pos (by omega), if_pos (by omega), w64 ((i : Int) + 1) (by omega) (by omega)]
    generalize rd (depthsV (F : Int) l2 N (F + i)) (p : Int) = x at bp estep
    generalize rd (depthsV (F : Int) l2 N (F + i)) (q : Int) = y at bq estep
    have emx : wrap64 (1 + mx x y) = max (x + 1) (y + 1) := by
      unfold mx
      split
      · rw [w64 _ (by omega) (by omega)]; omega
      · rw [w64 _ (by omega) (by omega)]; omega
    have eix : (a + (l1.length : Int) + 1 + (i : Int)).toNat = F + i := by
      clear emx estep es bp bq i1 i2 s2 hb hdep
      omega
    rw [emx, eix, ← estep, show (i : Int) + 1 = ((i + 1 : Nat) : Int) by omega]
    have hrd : ∀ u : Nat, rd (depthsV (F : Int) l2 N (F + (i + 1))) (u : Int) = if u = F + i then max (x + 1) (y + 1) else rd (depthsV (F : Int) l2 N (F + i)) (u : Int) := fun u => by rw [estep, rd_set _ _ _ _ (by rw [s1]; clear emx estep es bp bq i1 i2 s2 hb hdep; omega)]
    refine ih k (i + 1) _ (by omega) (by omega) ?_ ?_ ?_ ?_
    · unfold mx; split <;> omega
    · unfold mx; split <;> omega
    · unfold mx
      split
      · exact Or.inr ⟨F + i, by omega, by rw [hrd, if_pos rfl]⟩
      · rcases i1 with h | ⟨u, h1, h2⟩
        · exact Or.inl h
        · exact Or.inr ⟨u, by omega, by rw [hrd, if_neg (by omega)]; exact h2⟩
    · intro u hu
      rw [hrd]
      have := i2 u hu
      unfold mx
      split <;> split <;> omega
theorem depths_first {F N : Nat} {gs : List S50} : ∀ n : Nat, n ≤ F → depthsV (F : Int) gs N n = List.replicate N 0
  | 0, _ => rfl
  | n + 1, h => by
    show depthStep (F : Int) gs (depthsV (F : Int) gs N n) n = _
    rw [depths_first n (by omega), step_lo F gs _ n (by omega)]
theorem rdepth_eq (k : Nat) (a : Int) (l1 : List S53) (l2 : List S50) (l3 l4 : List Int) (hs : Small l1 l2 l3 l4) (hw : Wf a l1 l2 l3 l4) (hk : 2000 < k) : ∃ x, gates_Depth.f k a l1 l2 l3 l4 = some x ∧ spiritlevelref02_Depth.f k a l1 l2 l3 l4 = some x := by
  by_cases c0 : checkR a l1 l2 l3 l4 = 0
  · have hg := good_of a l1 l2 l3 l4 c0
    have ha := hg.a0
    have ha1 := hg.a1
    have hn := hg.n
    have hs2 := hs.h2
    obtain ⟨r, h1, -, h3, h4⟩ := gdepth_eq k a l1 l2 l3 l4 hs hw c0 hk
    refine ⟨(r, 0), h1, ?_⟩
    have hN : ((1 + a.toNat + l1.length + l2.length : Nat) : Int) = szS a l1 l2 + 1 := by unfold szS; omega
    generalize hFF : 1 + a.toNat + l1.length = F at h3 h4 hN
    have hd := good_dn hg
    rw [hFF] at hd
    obtain ⟨s1, s2⟩ := depths_spec hd (F + l2.length) (Nat.le_refl _)
    have hz : ∀ u : Nat, rd (depthsV (F : Int) l2 (F + l2.length) (F + 0)) (u : Int) = 0 := fun u => by
      rw [Nat.add_zero, depths_first F (Nat.le_refl _)]
      unfold rd
      rw [Int.toNat_natCast, List.getD_eq_getElem?_getD, List.getElem?_replicate]
      split <;> rfl
    obtain ⟨r', g1, g2, g3, g4⟩ := rdepth_l0 a l1 l2 l3 l4 hg F (F + l2.length) hFF.symm rfl l2.length k 0 0 (by omega) (by omega) (by omega) (by omega) (Or.inl rfl) (fun u _ => by rw [hz u]; omega)
    unfold spiritlevelref02_Depth.f
    rw [rcheck_eq k a l1 l2 l3 l4 hs hw (by omega), Option.bind_some, if_pos c0, size_eq a l1 l2 l3 l4 hs ha ha1, Option.bind_some, w64 (szS a l1 l2 + 1) (by omega) (by omega), if_pos (by omega), if_pos (by omega), ← hN, Int.toNat_natCast]
    rw [Nat.add_zero, depths_first F (Nat.le_refl _), show ((0 : Nat) : Int) = 0 from rfl] at g1
    rw [g1]
    have e : r' = r := by
      obtain ⟨j, hj, hr⟩ := List.getElem_of_mem h3
      rw [s1] at hj
      have q1 := g4 j hj
      rw [rd_at _ j (by omega), hr] at q1
      have q0 := (s2 j hj).1
      rw [rd_at _ j (by omega), hr] at q0
      rcases g3 with h | ⟨u, hu, hv⟩
      · omega
      · rw [rd_at _ u (by omega)] at hv
        have := h4 _ (List.getElem_mem (by omega : u < _))
        rw [hv] at this
        omega
    rw [e]
  · refine ⟨(0, checkR a l1 l2 l3 l4), ?_, ?_⟩
    · unfold gates_Depth.f
      rw [gvars_eq a l1 l2 l3 l4 hs hw, Option.bind_some, if_neg c0]
      dsimp only
      rw [if_neg c0]
    · unfold spiritlevelref02_Depth.f
      rw [rcheck_eq k a l1 l2 l3 l4 hs hw (by omega), Option.bind_some, if_neg c0, Option.bind_some]

theorem GatesCones : spiritlevellaw02_GatesCones.Pure := by
  intro a l1 l2 l3 l4 l h0 h1 h2 h3 h4 h5
  refine ⟨5000, ?_⟩
  obtain ⟨b, hb, hg⟩ := great_eq a l1 l2 l3 l4
  unfold spiritlevellaw02_GatesCones.f
  rw [hb]
  simp only [Option.bind_some]
  cases b with
  | true => rfl
  | false =>
    obtain ⟨hs, _⟩ := hg rfl
    have hw : Wf a l1 l2 l3 l4 := ⟨wf_i64 h0, fun x hx => ⟨wf_i64 (h1.2.2 x hx).1, wf_i64 (h1.2.2 x hx).2⟩, fun x hx => ⟨wf_i64 (h2.2.2 x hx).1, wf_i64 (h2.2.2 x hx).2⟩, fun x hx => wf_i64 (h3.2.2 x hx), fun x hx => wf_i64 (h4.2.2 x hx)⟩
    obtain ⟨x, e1, e2⟩ := rdepth_eq 5000 a l1 l2 l3 l4 hs hw (by omega)
    have hlen : (coneR a l1 l2 l3 l4 l).1.length ≤ 1000 := by
      by_cases c0 : checkR a l1 l2 l3 l4 = 0
      · have hg := good_of a l1 l2 l3 l4 c0
        have hn := hg.n
        by_cases c : l < 0 ∨ l / 2 > szS a l1 l2
        · unfold coneR
          rw [if_pos c0, if_pos c]
          simp
        · rw [coneR_of c0 l (by omega) (by omega)]
          exact (is_cone hg (l / 2).toNat (by omega)).len
      · unfold coneR
        rw [if_neg c0]
        simp
    rw [if_neg (by decide), gcone_eq 5000 a l1 l2 l3 l4 l hs hw (by omega) (wf_i64 h5), rcone_eq 5000 a l1 l2 l3 l4 l hs hw (by omega) (wf_i64 h5), e1, e2]
    simp only [Option.bind_some]
    rw [sameInts_eq 5000 _ (by omega) (by omega), Option.bind_some, if_pos rfl]
    simp


end Go.Proofs.Ytnllcdihmpdhhaa.Pure
