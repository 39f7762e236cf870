/- The limits and errors of clauses: eight rows that are no clauses, and the examples. -/
import Derived.Test.YtnicmgakboghpaaQClauseNamesH
namespace Go.Proofs.Ytnicmgakboghpaa.Pure
open Go.RowKit Go.Proofs.Ytnicmgakboghpaa.QClauseNames Go.Proofs.Ytnicmgakboghpaa.QClauseImplies Go.Proofs.YtnicmgakboghpaaW.PrintWords Go.Proofs.YtnicmgakboghpaaW.PrintLast
set_option linter.unusedSimpArgs false
set_option linter.unusedVariables false
theorem w64 (n : Int) (h : -9223372036854775808 ≤ n) (h2 : n ≤ 9223372036854775807) : wrap64 n = n := by unfold wrap64; omega
theorem rd_at (l : List Int) (j : Nat) (h : j < l.length) : rd l (j : Int) = l[j] := by simp [rd, List.getD, h]
theorem wf_i64 {x : Int} (h : (Lit.int .i64 x).wf = true) : -9223372036854775808 ≤ x ∧ x ≤ 9223372036854775807 := by
  simp [Lit.wf, IntKind.min, IntKind.max, IntKind.signed, IntKind.bits] at h
  omega
theorem wf_u8 {x : Int} (h : (Lit.int .u8 x).wf = true) : 0 ≤ x ∧ x ≤ 255 := by
  simp [Lit.wf, IntKind.min, IntKind.max, IntKind.signed, IntKind.bits] at h
  omega
theorem band1 (a : Int) (h0 : 0 ≤ a) (h1 : a < 9223372036854775807) : Go.bits .and .i64 a 1 = a % 2 := by
  have := bits_mask .i64 63 (by decide) (fun n h h' => by rw [IntKind.wrap_i64]; omega) 1 (by decide) a h0 (by omega)
  simpa using this

-- strictly increasing lists: Sort and Compact
theorem inc_ext : ∀ (a b : List Int), a.Pairwise (· < ·) → b.Pairwise (· < ·) → (∀ x, x ∈ a ↔ x ∈ b) → a = b
  | [], [], _, _, _ => rfl
  | [], y :: b, _, _, h => absurd ((h y).2 (by simp)) (by simp)
  | x :: a, [], _, _, h => absurd ((h x).1 (by simp)) (by simp)
  | x :: a, y :: b, ha, hb, h => by
    rw [List.pairwise_cons] at ha hb
    have e : x = y := by
      have h1 := (h x).1 (by simp)
      have h2 := (h y).2 (by simp)
      rcases List.mem_cons.1 h1 with e | h1
      · exact e
      rcases List.mem_cons.1 h2 with e | h2
      · exact e.symm
      have := hb.1 x h1
      have := ha.1 y h2
      omega
    subst e
    rw [inc_ext a b ha.2 hb.2]
    intro z
    constructor
    · intro hz
      rcases List.mem_cons.1 ((h z).1 (by simp [hz])) with e | h'
      · subst e; have := ha.1 z hz; omega
      · exact h'
    · intro hz
      rcases List.mem_cons.1 ((h z).2 (by simp [hz])) with e | h'
      · subst e; have := hb.1 z hz; omega
      · exact h'
/-- The numbers of a list, each once, in increasing order. -/
def setI (l : List Int) : List Int := Lib.compact (sortI l)
theorem sortI_inc (l : List Int) : (sortI l).Pairwise (· ≤ ·) := by
  have := List.pairwise_mergeSort (le := fun x y : Int => decide (x ≤ y)) (fun a b c h1 h2 => by simp at h1 h2 ⊢; omega) (fun a b => by simp; omega) l
  simpa [sortI] using this
theorem sortI_mem (l : List Int) (x : Int) : x ∈ sortI l ↔ x ∈ l := by unfold sortI; exact List.mem_mergeSort
theorem sortI_len (l : List Int) : (sortI l).length = l.length := by simp [sortI]
theorem get_toArray (l : List Int) (j : Nat) (h : j < l.length) : l.toArray[j]! = l[j] := by simp [getElem!_pos, h]
theorem compact_inc (l : List Int) (h : l.Pairwise (· ≤ ·)) : (Lib.compact l).Pairwise (· < ·) := by
  unfold Lib.compact Lib.compactUpTo
  rw [List.pairwise_map, List.pairwise_filter]
  have hr : (List.range l.length).Pairwise (fun a b => (a < b) ∧ a < l.length ∧ b < l.length) := by
    have h1 := List.pairwise_lt_range (n := l.length)
    rw [List.pairwise_iff_forall_sublist] at h1 ⊢
    intro a b hs
    have ha : a ∈ List.range l.length := hs.subset (by simp)
    have hb : b ∈ List.range l.length := hs.subset (by simp)
    exact ⟨h1 hs, List.mem_range.1 ha, List.mem_range.1 hb⟩
  refine hr.imp ?_
  rintro i j ⟨hij, hi, hj⟩ _ hk
  simp only [Lib.keeps, decide_eq_true_eq] at hk
  rw [get_toArray l i hi, get_toArray l j hj]
  rw [get_toArray l j hj, get_toArray l (j - 1) (by omega)] at hk
  have hle := List.pairwise_iff_getElem.1 h
  have h1 : l[j - 1]'(by omega) ≤ l[j] := hle (j - 1) j (by omega) hj (by omega)
  have h2 : l[i] ≤ l[j - 1]'(by omega) := by
    rcases Nat.lt_or_ge i (j - 1) with c | c
    · exact hle i (j - 1) hi (by omega) c
    · have : i = j - 1 := by omega
      subst this; exact Int.le_refl _
  have h3 : l[j] ≠ l[j - 1]'(by omega) := by
    rcases hk with hk | hk
    · omega
    · exact hk
  omega
theorem compact_mem (l : List Int) (x : Int) : x ∈ Lib.compact l ↔ x ∈ l := by
  unfold Lib.compact Lib.compactUpTo
  rw [List.mem_map]
  constructor
  · rintro ⟨j, hj, rfl⟩
    have := List.mem_range.1 (List.mem_filter.1 hj).1
    rw [get_toArray l j this]
    exact List.getElem_mem this
  · intro hx
    obtain ⟨j, hj, rfl⟩ := List.getElem_of_mem hx
    have key : ∀ (n j : Nat), j ≤ n → ∀ (hj : j < l.length), ∃ a, a ∈ (List.range l.length).filter (Lib.keeps l.toArray) ∧ l.toArray[a]! = l[j] := by
      intro n
      induction n with
      | zero =>
        intro j hn hj
        have : j = 0 := by omega
        subst this
        exact ⟨0, List.mem_filter.2 ⟨List.mem_range.2 hj, by simp [Lib.keeps]⟩, get_toArray l 0 hj⟩
      | succ n ih =>
        intro j hn hj
        by_cases c : Lib.keeps l.toArray j = true
        · exact ⟨j, List.mem_filter.2 ⟨List.mem_range.2 hj, c⟩, get_toArray l j hj⟩
        · have c0 : ¬ (j = 0 ∨ l.toArray[j]! ≠ l.toArray[j - 1]!) := by simpa [Lib.keeps] using c
          have c1 : j ≠ 0 := fun e => c0 (Or.inl e)
          have c2 : l.toArray[j]! = l.toArray[j - 1]! := Classical.byContradiction fun e => c0 (Or.inr e)
          rw [get_toArray l j hj, get_toArray l (j - 1) (by omega)] at c2
          obtain ⟨a, ha, e⟩ := ih (j - 1) (by omega) (by omega)
          exact ⟨a, ha, by rw [e, c2]⟩
    exact key j j (Nat.le_refl _) hj
theorem setI_inc (l : List Int) : (setI l).Pairwise (· < ·) := compact_inc _ (sortI_inc l)
theorem setI_mem (l : List Int) (x : Int) : x ∈ setI l ↔ x ∈ l := by unfold setI; rw [compact_mem, sortI_mem]
theorem setI_eq (l m : List Int) (h : m.Pairwise (· < ·)) (h2 : ∀ x, x ∈ m ↔ x ∈ l) : m = setI l := inc_ext _ _ h (setI_inc l) (fun x => by rw [h2, setI_mem])
theorem setI_len (l : List Int) : (setI l).length ≤ l.length := by
  have := Lib.compact_length_le (sortI l)
  rw [sortI_len] at this
  exact this
/-- The other literal of a variable. -/
def notI (x : Int) : Int := if x % 2 = 0 then x + 1 else x - 1
/-- A list has a literal and the other one. -/
def clash (l : List Int) : Bool := l.any fun x => l.contains (notI x)
/-- Two in line have one variable. -/
def adj : List Int → Bool
  | x :: y :: l => decide (x / 2 = y / 2) || adj (y :: l)
  | _ => false
theorem adj_of : ∀ (c : List Int) (m : Int), c.Pairwise (· < ·) → m % 2 = 0 → m ∈ c → m + 1 ∈ c → adj c = true
  | [], _, _, _, h, _ => absurd h (by simp)
  | [x], m, _, _, h, h2 => by
    have e1 := List.mem_singleton.1 h
    have e2 := List.mem_singleton.1 h2
    omega
  | x :: y :: l, m, hp, he, h, h2 => by
    rw [List.pairwise_cons] at hp
    have hy := hp.1 y (by simp)
    rw [adj, Bool.or_eq_true, decide_eq_true_eq]
    rcases List.mem_cons.1 h with e | h
    · rcases List.mem_cons.1 h2 with e2 | h2
      · omega
      rcases List.mem_cons.1 h2 with e2 | h2
      · left; omega
      · have := (List.pairwise_cons.1 hp.2).1 _ h2
        omega
    · rcases List.mem_cons.1 h2 with e2 | h2
      · have := hp.1 m h; omega
      · exact Or.inr (adj_of (y :: l) m hp.2 he h h2)
theorem adj_in : ∀ (c : List Int), c.Pairwise (· < ·) → adj c = true → ∃ m, m % 2 = 0 ∧ m ∈ c ∧ m + 1 ∈ c
  | [], _, h => absurd h (by simp [adj])
  | [x], _, h => absurd h (by simp [adj])
  | x :: y :: l, hp, h => by
    rw [List.pairwise_cons] at hp
    have hy := hp.1 y (by simp)
    rw [adj, Bool.or_eq_true, decide_eq_true_eq] at h
    rcases h with h | h
    · exact ⟨x, by omega, by simp, by rw [show x + 1 = y by omega]; simp⟩
    · obtain ⟨m, h1, h2, h3⟩ := adj_in (y :: l) hp.2 h
      exact ⟨m, h1, List.mem_cons_of_mem _ h2, List.mem_cons_of_mem _ h3⟩
theorem adj_clash (l : List Int) : adj (setI l) = clash l := by
  cases e : clash l with
  | true =>
    obtain ⟨x, hx, h⟩ := List.any_eq_true.1 e
    have h := List.contains_iff_mem.1 h
    unfold notI at h
    by_cases c : x % 2 = 0
    · rw [if_pos c] at h
      exact adj_of _ x (setI_inc l) c ((setI_mem l x).2 hx) ((setI_mem l _).2 h)
    · rw [if_neg c] at h
      exact adj_of _ (x - 1) (setI_inc l) (by omega) ((setI_mem l _).2 h) (by rw [show x - 1 + 1 = x by omega]; exact (setI_mem l x).2 hx)
  | false =>
    cases f : adj (setI l) with
    | false => rfl
    | true =>
      obtain ⟨m, h0, h1, h2⟩ := adj_in _ (setI_inc l) f
      have := List.any_eq_false.1 e m ((setI_mem l m).1 h1)
      exfalso
      apply this
      rw [List.contains_iff_mem]
      unfold notI
      rw [if_pos h0]
      exact (setI_mem l _).1 h2

-- clauses: what Check, True, Make and their references come to
def litOk (v x : Int) : Bool := decide (2 ≤ x) && decide (x ≤ 2 * v + 1)
/-- What follows p in a clause. -/
def goodP (v : Int) : Int → List Int → Bool
  | _, [] => true
  | p, y :: l => litOk v y && (decide (p < y) && (decide (p / 2 ≠ y / 2) && goodP v y l))
def goodC (v : Int) : List Int → Bool
  | [] => true
  | x :: l => litOk v x && goodP v x l
def okV (v : Int) : Bool := decide (0 ≤ v) && decide (v ≤ 4000)
def checkC (v : Int) (c : List Int) : Int := if okV v = true then (if goodC v c = true then 0 else 8) else 2
def litTrue (vals : List Bool) (x : Int) : Bool := rdOf false vals (x / 2 - 1) == decide (x % 2 = 0)
def I64 (l : List Int) : Prop := ∀ x ∈ l, -9223372036854775808 ≤ x ∧ x ≤ 9223372036854775807
theorem litOk_iff (v x : Int) : litOk v x = true ↔ 2 ≤ x ∧ x ≤ 2 * v + 1 := by simp [litOk]
theorem okV_iff (v : Int) : okV v = true ↔ 0 ≤ v ∧ v ≤ 4000 := by simp [okV]
theorem known_eq (v x : Int) (h0 : 0 ≤ v) (h1 : v ≤ 4000) (hx : x ≤ 9223372036854775807) : clause_known.f v x = some (litOk v x) := by
  unfold clause_known.f litOk
  by_cases c : x ≥ 2
  · rw [if_pos c, decide_eq_true (show 2 ≤ x from c), Bool.true_and, Int.tdiv_eq_ediv_of_nonneg (by omega), w64 (x / 2) (by omega) (by omega)]
    congr 1
    rw [decide_eq_decide]; omega
  · rw [if_neg c, decide_eq_false (show ¬ 2 ≤ x by omega)]; rfl
theorem rlit_eq (v x : Int) (h0 : 0 ≤ v) (h1 : v ≤ 4000) : spiritlevelref13_Lit.f v x = some (litOk v x) := by
  unfold spiritlevelref13_Lit.f litOk
  rw [w64 (2 * v) (by omega) (by omega), w64 (2 * v + 1) (by omega) (by omega)]
  by_cases c : x ≥ 2
  · rw [if_pos c, decide_eq_true (show 2 ≤ x from c), Bool.true_and]
  · rw [if_neg c, decide_eq_false (show ¬ 2 ≤ x by omega)]; rfl
theorem rvars13_eq (v : Int) : spiritlevelref13_Vars.f v = some (okV v) := by
  unfold spiritlevelref13_Vars.f okV
  by_cases c : v ≥ 0
  · rw [if_pos c, decide_eq_true (show 0 ≤ v from c), Bool.true_and]
  · rw [if_neg c, decide_eq_false (show ¬ 0 ≤ v by omega)]; rfl
theorem ccheck_l1 (v : Int) (c : List Int) (h0 : 0 ≤ v) (h1 : v ≤ 4000) (hc : I64 c) (hl : c.length ≤ 100000000000000) (d : Nat) : ∀ (k j : Nat) (hj : j + 1 + d = c.length), d < k → 2 ≤ c[j] → c[j] ≤ 2 * v + 1 →
    clause_Check.l0 k v c c (c.length : Int) ((j + 1 : Nat) : Int) = some (if goodP v c[j] (c.drop (j + 1)) = true then 0 else 8) := by
  induction d with
  | zero =>
    intro k j hj hk _ _
    obtain ⟨k, rfl⟩ : ∃ m, k = m + 1 := ⟨k - 1, by omega⟩
    simp only [clause_Check.l0]
    rw [if_neg (by omega), List.drop_of_length_le (by omega)]
    simp [goodP]
  | succ d ih =>
    intro k j hj hk p0 p1
    obtain ⟨k, rfl⟩ : ∃ m, k = m + 1 := ⟨k - 1, by omega⟩
    have h2 : j + 1 < c.length := by omega
    have h3 := hc c[j + 1] (List.getElem_mem h2)
    have e : ((j + 1 : Nat) : Int) - 1 = (j : Int) := by omega
    simp only [clause_Check.l0]
    rw [if_pos (by omega), if_pos (by omega), if_pos (by omega), rd_at c (j + 1) h2, known_eq v _ h0 h1 h3.2, Option.bind_some, List.drop_eq_getElem_cons h2, goodP]
    cases g : litOk v c[j + 1] with
    | false => rw [if_neg (by decide), Bool.false_and, if_neg (by decide)]
    | true =>
      rw [litOk_iff] at g
      rw [if_pos rfl, if_pos (by omega), w64 (((j + 1 : Nat) : Int) - 1) (by omega) (by omega), e, if_pos (by omega), if_pos (by omega), rd_at c j (by omega), Bool.true_and]
      by_cases c1 : c[j + 1] ≤ c[j]
      · rw [if_pos c1, decide_eq_false (show ¬ c[j] < c[j + 1] by omega), Bool.false_and, if_neg (by decide)]
      rw [if_neg c1, decide_eq_true (show c[j] < c[j + 1] by omega), Bool.true_and, Int.tdiv_eq_ediv_of_nonneg (by omega), Int.tdiv_eq_ediv_of_nonneg (by omega), w64 (c[j + 1] / 2) (by omega) (by omega), w64 (c[j] / 2) (by omega) (by omega)]
      by_cases c2 : c[j + 1] / 2 = c[j] / 2
      · rw [if_pos c2, decide_eq_false (by omega), Bool.false_and, if_neg (by decide)]
      · rw [if_neg c2, decide_eq_true (by omega), Bool.true_and, w64 (((j + 1 : Nat) : Int) + 1) (by omega) (by omega), show ((j + 1 : Nat) : Int) + 1 = ((j + 1 + 1 : Nat) : Int) by omega, ih k (j + 1) (by omega) (by omega) (by omega) (by omega)]
theorem ccheck_eq (k : Nat) (v : Int) (c : List Int) (hc : I64 c) (hl : c.length ≤ 100000000000000) (hk : c.length + 2 < k) : clause_Check.f k v c = some (checkC v c) := by
  obtain ⟨k, rfl⟩ : ∃ m, k = m + 1 := ⟨k - 1, by omega⟩
  unfold clause_Check.f checkC
  by_cases c0 : v < 0
  · rw [if_pos c0, show okV v = false by unfold okV; rw [decide_eq_false (by omega)]; rfl]
    simp only [clause_Check.j0]
    rw [if_pos trivial, if_neg (by decide)]
  rw [if_neg c0]
  by_cases c1 : v > 4000
  · rw [decide_eq_true c1, show okV v = false by unfold okV; rw [decide_eq_false (show ¬ v ≤ 4000 by omega), Bool.and_false]]
    simp only [clause_Check.j0]
    rw [if_pos trivial, if_neg (by decide)]
  rw [decide_eq_false c1, show okV v = true from (okV_iff v).2 (by omega), if_pos rfl]
  simp only [clause_Check.j0]
  rw [if_neg (by decide)]
  obtain ⟨k, rfl⟩ : ∃ m, k = m + 1 := ⟨k - 1, by omega⟩
  cases c with
  | nil => simp [clause_Check.l0, goodC]
  | cons x l =>
    have hx := hc x (by simp)
    simp only [clause_Check.l0]
    rw [if_pos (by simp), if_pos (by omega), if_pos (by simp), show rd (x :: l) 0 = x from rfl, known_eq v x (by omega) (by omega) hx.2, Option.bind_some, goodC]
    cases g : litOk v x with
    | false => rw [if_neg (by decide), Bool.false_and, if_neg (by decide)]
    | true =>
      rw [litOk_iff] at g
      have := ccheck_l1 v (x :: l) (by omega) (by omega) hc hl l.length k 0 (by simp; omega) (by simp at hk; omega) (by simpa using g.1) (by simpa using g.2)
      rw [if_pos rfl, if_neg (by omega), w64 (0 + 1) (by omega) (by omega), Bool.true_and]
      simpa using this
theorem rvalid_l1 (v : Int) (c : List Int) (h0 : 0 ≤ v) (h1 : v ≤ 4000) (hl : c.length ≤ 100000000000000) (d : Nat) : ∀ (k j : Nat) (hj : j + 1 + d = c.length), d < k → 2 ≤ c[j] → c[j] ≤ 2 * v + 1 →
    spiritlevelref13_Valid.l0 k v c ((j + 1 : Nat) : Int) = some (goodP v c[j] (c.drop (j + 1))) := by
  induction d with
  | zero =>
    intro k j hj hk _ _
    obtain ⟨k, rfl⟩ : ∃ m, k = m + 1 := ⟨k - 1, by omega⟩
    simp only [spiritlevelref13_Valid.l0]
    rw [if_neg (by omega), List.drop_of_length_le (by omega)]
    simp [goodP]
  | succ d ih =>
    intro k j hj hk p0 p1
    obtain ⟨k, rfl⟩ : ∃ m, k = m + 1 := ⟨k - 1, by omega⟩
    have h2 : j + 1 < c.length := by omega
    have e : ((j + 1 : Nat) : Int) - 1 = (j : Int) := by omega
    simp only [spiritlevelref13_Valid.l0]
    rw [if_pos (by omega), if_pos (by omega), rd_at c (j + 1) h2, rlit_eq v _ h0 h1, Option.bind_some, List.drop_eq_getElem_cons h2, goodP]
    cases g : litOk v c[j + 1] with
    | false => rw [if_neg (by decide), Bool.false_and]
    | true =>
      rw [litOk_iff] at g
      rw [if_pos rfl, if_pos (by omega), w64 (((j + 1 : Nat) : Int) - 1) (by omega) (by omega), e, if_pos (by omega), if_pos (by omega), rd_at c j (by omega), Bool.true_and, w64 (c[j + 1] - c[j]) (by omega) (by omega)]
      by_cases c1 : c[j + 1] - c[j] < 1
      · rw [if_pos c1, decide_eq_false (show ¬ c[j] < c[j + 1] by omega), Bool.false_and]
      rw [if_neg c1, decide_eq_true (show c[j] < c[j + 1] by omega), Bool.true_and, Int.tmod_eq_emod_of_nonneg (by omega), w64 (c[j] + 1) (by omega) (by omega), w64 (((j + 1 : Nat) : Int) + 1) (by omega) (by omega), show ((j + 1 : Nat) : Int) + 1 = ((j + 1 + 1 : Nat) : Int) by omega, ih k (j + 1) (by omega) (by omega) (by omega) (by omega)]
      by_cases c2 : c[j] % 2 = 0
      · rw [if_pos c2]
        by_cases c3 : c[j + 1] = c[j] + 1
        · rw [if_pos c3, decide_eq_false (by omega), Bool.false_and]
        · rw [if_neg c3, decide_eq_true (by omega), Bool.true_and]
      · rw [if_neg c2, decide_eq_true (by omega), Bool.true_and]
theorem rvalid_eq (k : Nat) (v : Int) (c : List Int) (h0 : 0 ≤ v) (h1 : v ≤ 4000) (hl : c.length ≤ 100000000000000) (hk : c.length + 1 < k) : spiritlevelref13_Valid.f k v c = some (goodC v c) := by
  obtain ⟨k, rfl⟩ : ∃ m, k = m + 1 := ⟨k - 1, by omega⟩
  unfold spiritlevelref13_Valid.f
  cases c with
  | nil => simp [spiritlevelref13_Valid.l0, goodC]
  | cons x l =>
    simp only [spiritlevelref13_Valid.l0]
    rw [if_pos (by simp), if_pos (by omega), show rd (x :: l) 0 = x from rfl, rlit_eq v x h0 h1, Option.bind_some, goodC]
    cases g : litOk v x with
    | false => rw [if_neg (by decide), Bool.false_and]
    | true =>
      rw [litOk_iff] at g
      have := rvalid_l1 v (x :: l) h0 h1 hl l.length k 0 (by simp; omega) (by simp at hk; omega) (by simpa using g.1) (by simpa using g.2)
      rw [if_pos rfl, if_neg (by omega), w64 (0 + 1) (by omega) (by omega), Bool.true_and]
      simpa using this
theorem rcheck13_eq (k : Nat) (v : Int) (c : List Int) (hl : c.length ≤ 100000000000000) (hk : c.length + 1 < k) : spiritlevelref13_Check.f k v c = some (checkC v c) := by
  unfold spiritlevelref13_Check.f checkC
  rw [rvars13_eq, Option.bind_some]
  cases g : okV v with
  | false => rw [if_neg (by decide), if_neg (by decide)]
  | true =>
    rw [okV_iff] at g
    rw [if_pos rfl, if_pos rfl, rvalid_eq k v c g.1 g.2 hl hk, Option.bind_some]
    cases goodC v c <;> rfl
theorem goodP_all (v : Int) : ∀ (l : List Int) (p : Int), goodP v p l = true → (∀ x ∈ l, litOk v x = true ∧ p < x) ∧ l.Pairwise (· < ·)
  | [], _, _ => ⟨by simp, List.Pairwise.nil⟩
  | y :: l, p, h => by
    simp only [goodP, Bool.and_eq_true, decide_eq_true_eq] at h
    obtain ⟨h1, h2⟩ := goodP_all v l y h.2.2.2
    refine ⟨fun x hx => ?_, List.pairwise_cons.2 ⟨fun z hz => (h1 z hz).2, h2⟩⟩
    rcases List.mem_cons.1 hx with rfl | hx
    · exact ⟨h.1, h.2.1⟩
    · exact ⟨(h1 x hx).1, by have := (h1 x hx).2; omega⟩
theorem goodC_all (v : Int) (c : List Int) (h : goodC v c = true) : (∀ x ∈ c, litOk v x = true) ∧ c.Pairwise (· < ·) := by
  cases c with
  | nil => exact ⟨by simp, List.Pairwise.nil⟩
  | cons x l =>
    simp only [goodC, Bool.and_eq_true] at h
    obtain ⟨h1, h2⟩ := goodP_all v l x h.2
    refine ⟨fun y hy => ?_, List.pairwise_cons.2 ⟨fun z hz => (h1 z hz).2, h2⟩⟩
    rcases List.mem_cons.1 hy with rfl | hy
    · exact h.1
    · exact (h1 y hy).1
theorem ctrue_l0 (vals : List Bool) (c : List Int) (hc : ∀ x ∈ c, litOk (vals.length : Int) x = true) (hv : vals.length ≤ 100000) (hl : c.length ≤ 100000000000000) (d : Nat) : ∀ (k j : Nat), j + d = c.length → d < k →
    clause_True.l0 k vals c (c.length : Int) (j : Int) = some ((c.drop j).any (litTrue vals), 0) := by
  induction d with
  | zero =>
    intro k j hj hk
    obtain ⟨k, rfl⟩ : ∃ m, k = m + 1 := ⟨k - 1, by omega⟩
    simp only [clause_True.l0]
    rw [if_neg (by omega), List.drop_of_length_le (by omega)]; rfl
  | succ d ih =>
    intro k j hj hk
    obtain ⟨k, rfl⟩ : ∃ m, k = m + 1 := ⟨k - 1, by omega⟩
    have h2 : j < c.length := by omega
    have h3 := (litOk_iff _ _).1 (hc c[j] (List.getElem_mem h2))
    simp only [clause_True.l0]
    rw [if_pos (by omega), if_pos (by omega), if_pos (by omega), rd_at c j h2, Int.tdiv_eq_ediv_of_nonneg (by omega), Int.tmod_eq_emod_of_nonneg (by omega), w64 (c[j] / 2) (by omega) (by omega), w64 (c[j] / 2 - 1) (by omega) (by omega), if_pos (by omega), if_pos (by omega), w64 ((j : Int) + 1) (by omega) (by omega), show (j : Int) + 1 = ((j + 1 : Nat) : Int) by omega, ih k (j + 1) (by omega) (by omega), List.drop_eq_getElem_cons h2, List.any_cons]
    have e : (rdOf false vals (c[j] / 2 - 1) == (c[j] % 2 == 0)) = litTrue vals c[j] := rfl
    rw [e]
    cases litTrue vals c[j] <;> rfl
theorem ctrue_eq (k : Nat) (c : List Int) (vals : List Bool) (hc : I64 c) (hv : vals.length ≤ 100000) (hl : c.length ≤ 100000000000000) (hk : c.length + 2 < k) :
    clause_True.f k c vals = some (if checkC (vals.length : Int) c = 0 then (c.any (litTrue vals), 0) else (false, checkC (vals.length : Int) c)) := by
  unfold clause_True.f
  rw [ccheck_eq k _ c hc hl hk, Option.bind_some]
  by_cases g : checkC (vals.length : Int) c = 0
  · rw [if_pos g, if_pos g]
    have h : goodC (vals.length : Int) c = true := by
      unfold checkC at g
      cases e : goodC (vals.length : Int) c with
      | true => rfl
      | false => rw [e] at g; split at g <;> simp at g
    exact ctrue_l0 vals c (goodC_all _ c h).1 hv hl c.length k 0 (by omega) (by omega)
  · rw [if_neg g, if_neg g]
theorem same13_l0 (a b : List Int) (hab : a.length = b.length) (hl : a.length ≤ 100000) (d : Nat) : ∀ (k j : Nat), j + d = a.length → d < k →
    spiritlevelref13_Same.l0 k a b (j : Int) = some (decide (a.drop j = b.drop j)) := by
  induction d with
  | zero =>
    intro k j hj hk
    obtain ⟨k, rfl⟩ : ∃ m, k = m + 1 := ⟨k - 1, by omega⟩
    simp only [spiritlevelref13_Same.l0]
    rw [if_neg (by omega), List.drop_of_length_le (by omega), List.drop_of_length_le (by omega)]; rfl
  | succ d ih =>
    intro k j hj hk
    obtain ⟨k, rfl⟩ : ∃ m, k = m + 1 := ⟨k - 1, by omega⟩
    have h1 : j < a.length := by omega
    have h2 : j < b.length := by omega
    simp only [spiritlevelref13_Same.l0]
    rw [if_pos (by omega), if_pos (by omega), if_pos (show (j : Int) < (b.length : Int) by omega), rd_at a j h1, rd_at b j h2, List.drop_eq_getElem_cons (l := a) h1, List.drop_eq_getElem_cons (l := b) h2, w64 ((j : Int) + 1) (by omega) (by omega), show ((j : Int) + 1) = ((j + 1 : Nat) : Int) by omega, ih k (j + 1) (by omega) (by omega)]
    by_cases c : a[j] = b[j]
    · rw [if_pos c, c]
      simp only [List.cons.injEq, true_and]
    · rw [if_neg c]
      have : ¬ (a[j] :: List.drop (j + 1) a = b[j] :: List.drop (j + 1) b) := fun h => c (List.cons.inj h).1
      rw [decide_eq_false this]
theorem same13_eq (k : Nat) (a b : List Int) (hl : a.length ≤ 100000) (hk : a.length < k) : spiritlevelref13_Same.f k a b = some (decide (a = b)) := by
  unfold spiritlevelref13_Same.f
  by_cases c : a.length = b.length
  · rw [if_pos (by omega)]
    have := same13_l0 a b c hl a.length k 0 (by omega) hk
    simpa using this
  · rw [if_neg (by omega)]
    have : a ≠ b := fun h => c (by rw [h])
    simp [this]
/-- What Make returns. -/
def makeC (v : Int) (l : List Int) : List Int × Bool × Int :=
  if okV v = true then (if l.all (litOk v) = true then (if clash l = true then ([], true, 0) else (setI l, false, 0)) else ([], false, 8)) else ([], false, 2)
theorem cmake_l1 (c : List Int) (hc : ∀ x ∈ c, 0 ≤ x ∧ x ≤ 100000) (hl : c.length ≤ 100000) (d : Nat) : ∀ (k j : Nat), j + 1 + d = c.length → d < k →
    clause_Make.l1 k c (c.length : Int) ((j + 1 : Nat) : Int) = some (if adj (c.drop j) = true then ([], true, 0) else (c, false, 0)) := by
  induction d with
  | zero =>
    intro k j hj hk
    obtain ⟨k, rfl⟩ : ∃ m, k = m + 1 := ⟨k - 1, by omega⟩
    have h1 : j < c.length := by omega
    simp only [clause_Make.l1]
    rw [if_neg (by omega), List.drop_eq_getElem_cons h1, List.drop_of_length_le (by omega)]
    simp [adj]
  | succ d ih =>
    intro k j hj hk
    obtain ⟨k, rfl⟩ : ∃ m, k = m + 1 := ⟨k - 1, by omega⟩
    have h1 : j < c.length := by omega
    have h2 : j + 1 < c.length := by omega
    have x1 := hc c[j] (List.getElem_mem h1)
    have x2 := hc c[j + 1] (List.getElem_mem h2)
    simp only [clause_Make.l1]
    rw [if_pos (by omega), if_pos (by omega), if_pos (by omega), if_pos (by omega), w64 (((j + 1 : Nat) : Int) - 1) (by omega) (by omega), show ((j + 1 : Nat) : Int) - 1 = (j : Int) by omega, if_pos (by omega), if_pos (by omega), rd_at c j h1, rd_at c (j + 1) h2, Int.tdiv_eq_ediv_of_nonneg (by omega), Int.tdiv_eq_ediv_of_nonneg (by omega), w64 (c[j] / 2) (by omega) (by omega), w64 (c[j + 1] / 2) (by omega) (by omega),
      w64 (((j + 1 : Nat) : Int) + 1) (by omega) (by omega), show ((j + 1 : Nat) : Int) + 1 = ((j + 1 + 1 : Nat) : Int) by omega, ih k (j + 1) (by omega) (by omega), List.drop_eq_getElem_cons h1, List.drop_eq_getElem_cons h2, adj]
    by_cases e : c[j + 1] / 2 = c[j] / 2
    · rw [if_pos e, decide_eq_true (by omega), Bool.true_or, if_pos rfl]
    · rw [if_neg e, decide_eq_false (by omega), Bool.false_or]
theorem cmake_l0 (v : Int) (l : List Int) (h0 : 0 ≤ v) (h1 : v ≤ 4000) (hc : I64 l) (hl : l.length ≤ 1000) (d : Nat) : ∀ (k j : Nat), j + d = l.length → d + 1100 < k → (∀ x ∈ l.take j, litOk v x = true) →
    clause_Make.l0 k v l l (l.length : Int) (j : Int) = some (if l.all (litOk v) = true then (if clash l = true then ([], true, 0) else (setI l, false, 0)) else ([], false, 8)) := by
  induction d with
  | zero =>
    intro k j hj hk hp
    obtain ⟨k, rfl⟩ : ∃ m, k = m + 1 := ⟨k - 1, by omega⟩
    rw [List.take_of_length_le (by omega)] at hp
    have ha : l.all (litOk v) = true := List.all_eq_true.2 hp
    have hsl := setI_len l
    have hss := sortI_len l
    simp only [clause_Make.l0]
    unfold slices_Clone_int_int.f slices_Sort_int_int.f slices_Compact_int_int.f
    rw [if_neg (by omega), if_pos (by omega), Option.bind_some, if_pos (by omega), Option.bind_some, if_pos (by omega), Option.bind_some, ha, if_pos rfl]
    show clause_Make.l1 k (setI l) ((setI l).length : Int) 0 = _
    rw [← adj_clash l]
    have hm : ∀ x ∈ setI l, 0 ≤ x ∧ x ≤ 100000 := fun x hx => by have := (litOk_iff v x).1 (hp x ((setI_mem l x).1 hx)); omega
    generalize setI l = c at hsl hm ⊢
    obtain ⟨k, rfl⟩ : ∃ m, k = m + 1 := ⟨k - 1, by omega⟩
    cases c with
    | nil => simp [clause_Make.l1, adj]
    | cons x c =>
      simp only [clause_Make.l1]
      rw [if_pos (by simp), if_neg (by omega), w64 (0 + 1) (by omega) (by omega)]
      have := cmake_l1 (x :: c) hm (by omega) c.length k 0 (by simp; omega) (by simp at hsl; omega)
      simpa using this
  | succ d ih =>
    intro k j hj hk hp
    obtain ⟨k, rfl⟩ : ∃ m, k = m + 1 := ⟨k - 1, by omega⟩
    have h2 : j < l.length := by omega
    simp only [clause_Make.l0]
    rw [if_pos (by omega), if_pos (by omega), if_pos (by omega), rd_at l j h2, known_eq v _ h0 h1 (hc _ (List.getElem_mem h2)).2, Option.bind_some]
    cases g : litOk v l[j] with
    | false =>
      have ha : ¬ l.all (litOk v) = true := fun h => by have := List.all_eq_true.1 h _ (List.getElem_mem h2); rw [g] at this; simp at this
      rw [if_neg (by decide), if_neg ha]
    | true =>
      rw [if_pos rfl, w64 ((j : Int) + 1) (by omega) (by omega), show ((j : Int) + 1) = ((j + 1 : Nat) : Int) by omega]
      refine ih k (j + 1) (by omega) (by omega) (fun x hx => ?_)
      rw [List.take_succ_eq_append_getElem h2] at hx
      rcases List.mem_append.1 hx with hx | hx
      · exact hp x hx
      · rw [List.mem_singleton.1 hx]; exact g
theorem cmake_eq (k : Nat) (v : Int) (l : List Int) (hc : I64 l) (hl : l.length ≤ 1000) (hk : 3000 < k) : clause_Make.f k v l = some (makeC v l) := by
  obtain ⟨k, rfl⟩ : ∃ m, k = m + 1 := ⟨k - 1, by omega⟩
  unfold clause_Make.f makeC
  by_cases c0 : v < 0
  · rw [if_pos c0, show okV v = false by unfold okV; rw [decide_eq_false (by omega)]; rfl]
    simp only [clause_Make.j0]
    rw [if_pos trivial, if_neg (by decide)]
  rw [if_neg c0]
  by_cases c1 : v > 4000
  · rw [decide_eq_true c1, show okV v = false by unfold okV; rw [decide_eq_false (show ¬ v ≤ 4000 by omega), Bool.and_false]]
    simp only [clause_Make.j0]
    rw [if_pos trivial, if_neg (by decide)]
  rw [decide_eq_false c1, show okV v = true from (okV_iff v).2 (by omega), if_pos rfl]
  simp only [clause_Make.j0]
  rw [if_neg (by decide)]
  exact cmake_l0 v l (by omega) (by omega) hc hl l.length k 0 (by omega) (by omega) (by simp)

theorem u64w (x : Int) (h0 : 0 ≤ x) (h1 : x < 18446744073709551616) : IntKind.u64.wrap x = x := by
  rw [IntKind.wrap_u64]; omega
theorem index13_l0 (l : List Int) (x : Int) (hl : l.length ≤ 100000) (d : Nat) : ∀ (k j : Nat), j + d = l.length → d < k →
    ∃ r, slices_Index_int_int.l0 k l x (l.length : Int) (j : Int) = some r ∧ decide (r ≥ 0) = (l.drop j).contains x := by
  induction d with
  | zero =>
    intro k j hj hk
    obtain ⟨k, rfl⟩ : ∃ m, k = m + 1 := ⟨k - 1, by omega⟩
    simp only [slices_Index_int_int.l0]
    exact ⟨-1, by rw [if_neg (by omega)], by rw [List.drop_of_length_le (by omega)]; rfl⟩
  | succ d ih =>
    intro k j hj hk
    obtain ⟨k, rfl⟩ : ∃ m, k = m + 1 := ⟨k - 1, by omega⟩
    have h1 : j < l.length := by omega
    simp only [slices_Index_int_int.l0]
    rw [if_pos (by omega), if_pos (by omega), if_pos (by omega), rd_at l j h1, List.drop_eq_getElem_cons h1, w64 ((j : Int) + 1) (by omega) (by omega), show ((j : Int) + 1) = ((j + 1 : Nat) : Int) by omega, List.contains_cons]
    by_cases c : x = l[j]
    · rw [if_pos c]
      exact ⟨_, rfl, by rw [decide_eq_true (show (j : Int) ≥ 0 by omega), c]; simp⟩
    · rw [if_neg c]
      obtain ⟨r, e, hr⟩ := ih k (j + 1) (by omega) (by omega)
      exact ⟨r, e, by rw [hr, show (x == l[j]) = false by simpa using c, Bool.false_or]⟩
theorem contains13_eq (k : Nat) (l : List Int) (x : Int) (hl : l.length ≤ 100000) (hk : l.length < k) : slices_Contains_int_int.f k l x = some (l.contains x) := by
  unfold slices_Contains_int_int.f slices_Index_int_int.f
  obtain ⟨r, e, hr⟩ := index13_l0 l x hl l.length k 0 (by omega) hk
  have e' : slices_Index_int_int.l0 k l x (l.length : Int) 0 = some r := by simpa using e
  rw [e', Option.bind_some, hr, List.drop_zero]
theorem both_eq (k : Nat) (v : Int) (a b : List Int) (ha : I64 a) (hb : I64 b) (hla : a.length ≤ 100000) (hlb : b.length ≤ 100000) (hka : a.length + 2 < k) (hkb : b.length + 2 < k) :
    clause_both.f k v a b = some (if checkC v a = 0 then checkC v b else checkC v a) := by
  unfold clause_both.f
  rw [ccheck_eq k v a ha (by omega) hka, Option.bind_some]
  by_cases c : checkC v a = 0
  · rw [if_pos c, if_pos c, ccheck_eq k v b hb (by omega) hkb]; rfl
  · rw [if_neg c, if_neg c]
theorem check0 {v : Int} {c : List Int} (h : checkC v c = 0) : okV v = true ∧ goodC v c = true := by
  unfold checkC at h
  cases e : okV v with
  | false => rw [e, if_neg (by decide)] at h; omega
  | true =>
    rw [e, if_pos rfl] at h
    cases f : goodC v c with
    | true => exact ⟨rfl, rfl⟩
    | false => rw [f, if_neg (by decide)] at h; omega
theorem less_eq (a b : Int) : cmp_Less_int.f a b = some (decide (a < b)) := by
  unfold cmp_Less_int.f cmp_isNaN_int.f
  rw [Option.bind_some, if_neg (by simp)]
theorem bsearch_l0 (l : List Int) (x : Int) (hl : l.length ≤ 100000) (hp : l.Pairwise (· < ·)) (n : Nat) : ∀ (k i j : Nat), j - i ≤ n → n < k → i ≤ j → j ≤ l.length → (∀ t (h : t < l.length), t < i → l[t] < x) → (∀ t (h : t < l.length), j ≤ t → x ≤ l[t]) →
    ∃ r, slices_BinarySearch_int_int.l0 k l x (l.length : Int) (i : Int) (j : Int) = some (r, l.contains x) := by
  have fin : ∀ (k i : Nat), i ≤ l.length → (∀ t (h : t < l.length), t < i → l[t] < x) → (∀ t (h : t < l.length), i ≤ t → x ≤ l[t]) → ∃ r, slices_BinarySearch_int_int.l0 (k + 1) l x (l.length : Int) (i : Int) (i : Int) = some (r, l.contains x) := by
    intro k i hi h1 h2
    simp only [slices_BinarySearch_int_int.l0]
    rw [if_neg (by omega)]
    have key : l.contains x = true → ∃ (h : i < l.length), l[i] = x := by
      intro hc
      obtain ⟨t, ht, e⟩ := List.getElem_of_mem (List.contains_iff_mem.1 hc)
      have hit : i ≤ t := by
        rcases Nat.lt_or_ge t i with c | c
        · have := h1 t ht c; omega
        · exact c
      have hi' : i < l.length := by omega
      have := h2 i hi' (Nat.le_refl _)
      refine ⟨hi', ?_⟩
      rcases Nat.lt_or_ge i t with c | c
      · have := List.pairwise_iff_getElem.1 hp i t hi' ht c; omega
      · have : i = t := by omega
        subst this; exact e
    by_cases c : i < l.length
    · rw [if_pos (by omega), if_pos (by omega), if_pos (by omega), rd_at l i c]
      by_cases d : l[i] = x
      · rw [if_pos d]
        exact ⟨_, by rw [show l.contains x = true from List.contains_iff_mem.2 (by rw [← d]; exact List.getElem_mem c)]⟩
      · rw [if_neg d]
        unfold slices_isNaN_int.f
        rw [Option.bind_some, if_neg (by simp)]
        refine ⟨(i : Int), ?_⟩
        cases e : l.contains x with
        | false => rfl
        | true => obtain ⟨_, e2⟩ := key e; exact absurd e2 d
    · rw [if_neg (by omega)]
      refine ⟨(i : Int), ?_⟩
      cases e : l.contains x with
      | false => rfl
      | true => obtain ⟨h, _⟩ := key e; exact absurd h c
  induction n with
  | zero =>
    intro k i j hd hk hij hj h1 h2
    obtain ⟨k, rfl⟩ : ∃ m, k = m + 1 := ⟨k - 1, by omega⟩
    have : i = j := by omega
    subst this
    exact fin k i hj h1 h2
  | succ n ih =>
    intro k i j hd hk hij hj h1 h2
    obtain ⟨k, rfl⟩ : ∃ m, k = m + 1 := ⟨k - 1, by omega⟩
    by_cases c : i < j
    · obtain ⟨m, hm⟩ : ∃ m : Nat, m = (i + j) / 2 := ⟨_, rfl⟩
      have hm1 : i ≤ m := by omega
      have hm2 : m < j := by omega
      have e : wrap64 ((IntKind.u64.wrap (wrap64 ((i : Int) + (j : Int)))) / 2) = (m : Int) := by
        rw [w64 ((i : Int) + j) (by omega) (by omega), u64w _ (by omega) (by omega), w64 _ (by omega) (by omega)]; omega
      have hmono : ∀ s t (hs : s < l.length) (ht : t < l.length), s ≤ t → l[s] ≤ l[t] := fun s t hs ht hst => by
        rcases Nat.lt_or_ge s t with c | c
        · have := List.pairwise_iff_getElem.1 hp s t hs ht c; omega
        · have : s = t := by omega
          subst this; exact Int.le_refl _
      have hml : m < l.length := by omega
      simp only [slices_BinarySearch_int_int.l0]
      rw [if_pos (by omega), e, if_pos (by omega), if_pos (by omega), rd_at l m hml, less_eq, Option.bind_some]
      by_cases d : l[m] < x
      · rw [if_pos (decide_eq_true d), w64 ((m : Int) + 1) (by omega) (by omega), show ((m : Int) + 1) = ((m + 1 : Nat) : Int) by omega]
        exact ih k (m + 1) j (by omega) (by omega) (by omega) hj (fun t ht h => by have := hmono t m ht hml (by omega); omega) h2
      · rw [if_neg (by simpa using d)]
        exact ih k i m (by omega) (by omega) hm1 (by omega) h1 (fun t ht h => by have := hmono m t hml ht h; omega)
    · have : i = j := by omega
      subst this
      exact fin k i hj h1 h2
theorem bsearch_eq (k : Nat) (l : List Int) (x : Int) (hl : l.length ≤ 100000) (hp : l.Pairwise (· < ·)) (hk : l.length < k) : ∃ r, slices_BinarySearch_int_int.f k l x = some (r, l.contains x) := by
  unfold slices_BinarySearch_int_int.f
  exact bsearch_l0 l x hl hp l.length k 0 l.length (by omega) hk (by omega) (Nat.le_refl _) (fun t h h0 => by omega) (fun t h h0 => by omega)
theorem implies_l0 (a b : List Int) (hp : b.Pairwise (· < ·)) (hla : a.length ≤ 100000) (hlb : b.length ≤ 100000) (d : Nat) : ∀ (k j : Nat), j + d = a.length → d + b.length + 1 < k →
    clause_Implies.l0 k b a (a.length : Int) (j : Int) = some ((a.drop j).all (fun x => b.contains x), 0) := by
  induction d with
  | zero =>
    intro k j hj hk
    obtain ⟨k, rfl⟩ : ∃ m, k = m + 1 := ⟨k - 1, by omega⟩
    simp only [clause_Implies.l0]
    rw [if_neg (by omega), List.drop_of_length_le (by omega)]; rfl
  | succ d ih =>
    intro k j hj hk
    obtain ⟨k, rfl⟩ : ∃ m, k = m + 1 := ⟨k - 1, by omega⟩
    have h1 : j < a.length := by omega
    simp only [clause_Implies.l0]
    obtain ⟨r, e⟩ := bsearch_eq k b a[j] hlb hp (by omega)
    rw [if_pos (by omega), if_pos (by omega), if_pos (by omega), rd_at a j h1, e, Option.bind_some, w64 ((j : Int) + 1) (by omega) (by omega), show ((j : Int) + 1) = ((j + 1 : Nat) : Int) by omega, ih k (j + 1) (by omega) (by omega), List.drop_eq_getElem_cons h1, List.all_cons]
    dsimp only
    cases b.contains a[j] <;> rfl
/-- What Implies returns. -/
def impliesC (v : Int) (a b : List Int) : Bool × Int := if checkC v a = 0 then (if checkC v b = 0 then (a.all (fun x => b.contains x), 0) else (false, checkC v b)) else (false, checkC v a)
theorem implies_eq (k : Nat) (v : Int) (a b : List Int) (ha : I64 a) (hb : I64 b) (hla : a.length ≤ 1000) (hlb : b.length ≤ 1000) (hk : 3000 < k) : clause_Implies.f k v a b = some (impliesC v a b) := by
  unfold clause_Implies.f impliesC
  rw [both_eq k v a b ha hb (by omega) (by omega) (by omega) (by omega), Option.bind_some]
  by_cases c : checkC v a = 0
  · rw [if_pos c, if_pos c]
    by_cases d : checkC v b = 0
    · rw [if_pos d, if_pos d]
      exact implies_l0 a b (goodC_all v b (check0 d).2).2 (by omega) (by omega) a.length k 0 (by omega) (by omega)
    · rw [if_neg d, if_neg d]
  · rw [if_neg c, if_neg c, if_neg c]
/-- What Resolve returns. -/
def resolveC (v : Int) (a b : List Int) (x : Int) : List Int × Bool × Int :=
  if checkC v a = 0 then (if checkC v b = 0 then (if x < 1 ∨ x > v then ([], false, 6) else
    if (a.contains (2 * x) && b.contains (2 * x + 1)) = true ∨ (a.contains (2 * x + 1) && b.contains (2 * x)) = true then makeC v ((a ++ b).filter fun y => !decide (y / 2 = x)) else ([], false, 6)) else ([], false, checkC v b)) else ([], false, checkC v a)
theorem side_eq (k : Nat) (a b : List Int) (x y : Int) (hla : a.length ≤ 100000) (hlb : b.length ≤ 100000) (hka : a.length < k) (hkb : b.length < k) : sideV k a b x y = some (a.contains x && b.contains y) := by
  unfold sideV
  rw [contains13_eq k a x hla hka, Option.bind_some, contains13_eq k b y hlb hkb]
  cases a.contains x <;> rfl
theorem resolve_eq (k : Nat) (v : Int) (a b : List Int) (x : Int) (ha : I64 a) (hb : I64 b) (hla : a.length ≤ 400) (hlb : b.length ≤ 400) (hk : 4000 < k) : clause_Resolve.f k v a b x = some (resolveC v a b x) := by
  unfold clause_Resolve.f resolveC
  rw [both_eq k v a b ha hb (by omega) (by omega) (by omega) (by omega), Option.bind_some]
  by_cases c : checkC v a = 0
  · rw [if_pos c, if_pos c]
    by_cases d : checkC v b = 0
    · rw [if_pos d, if_pos d]
      have hv := (okV_iff v).1 (check0 c).1
      by_cases e1 : x < 1
      · rw [if_pos e1, if_pos (Or.inl e1)]
      rw [if_neg e1]
      by_cases e2 : x > v
      · rw [if_pos e2, if_pos (Or.inr e2)]
      rw [if_neg e2, if_neg (show ¬ (x < 1 ∨ x > v) by omega), w64 (2 * x) (by omega) (by omega), w64 (2 * x + 1) (by omega) (by omega), side_eq k a b _ _ (by omega) (by omega) (by omega) (by omega), Option.bind_some, side_eq k a b _ _ (by omega) (by omega) (by omega) (by omega), Option.bind_some]
      have hgo : (a.contains (2 * x) && b.contains (2 * x + 1)) = true ∨ (a.contains (2 * x + 1) && b.contains (2 * x)) = true →
          (if 0 < (a ++ b).length then (if (a ++ b).length ≤ 1000000000 then clause_Make.f k v ((a ++ b).filter fun y => !decide (wrap64 (Int.tdiv y 2) = x)) else none) else none) = some (makeC v ((a ++ b).filter fun y => !decide (y / 2 = x))) := by
        intro h
        have hne : 0 < (a ++ b).length := by
          cases a with
          | nil => simp at h
          | cons _ _ => simp
        rw [if_pos hne, if_pos (by rw [List.length_append]; omega)]
        have hfe : ((a ++ b).filter fun y => !decide (wrap64 (Int.tdiv y 2) = x)) = ((a ++ b).filter fun y => !decide (y / 2 = x)) := by
          apply List.filter_congr
          intro y hy
          have hy2 : litOk v y = true := by
            rcases List.mem_append.1 hy with hy | hy
            · exact (goodC_all v a (check0 c).2).1 y hy
            · exact (goodC_all v b (check0 d).2).1 y hy
          rw [litOk_iff] at hy2
          rw [Int.tdiv_eq_ediv_of_nonneg (by omega), w64 (y / 2) (by omega) (by omega)]
        rw [hfe]
        refine cmake_eq k v _ (fun y hy => ?_) ?_ (by omega)
        · rcases List.mem_append.1 (List.mem_filter.1 hy).1 with hy | hy
          · exact ha y hy
          · exact hb y hy
        · have := List.length_filter_le (fun y => !decide (y / 2 = x)) (a ++ b)
          rw [List.length_append] at this
          omega
      cases s : (a.contains (2 * x) && b.contains (2 * x + 1)) with
      | true =>
        rw [if_neg (by decide), if_pos (Or.inl rfl)]
        exact hgo (Or.inl s)
      | false =>
        cases t : (a.contains (2 * x + 1) && b.contains (2 * x)) with
        | true =>
          rw [if_pos rfl, if_neg (by decide), if_pos (Or.inr rfl)]
          exact hgo (Or.inr t)
        | false => rw [if_pos rfl, if_pos rfl, if_neg (by decide)]
    · rw [if_neg d, if_neg d]
  · rw [if_neg c, if_neg c, if_neg c]

theorem setI_of (l m : List Int) (h : m.Pairwise (· < ·)) (h2 : (m.all fun x => l.contains x) = true) (h3 : (l.all fun x => m.contains x) = true) : setI l = m :=
  (setI_eq l m h (fun x => ⟨fun hx => List.contains_iff_mem.1 (List.all_eq_true.1 h2 x hx), fun hx => List.contains_iff_mem.1 (List.all_eq_true.1 h3 x hx)⟩)).symm
theorem makeC_ok (v : Int) (l m : List Int) (h0 : okV v = true) (h1 : l.all (litOk v) = true) (h2 : clash l = false) (h : m.Pairwise (· < ·)) (h3 : (m.all fun x => l.contains x) = true) (h4 : (l.all fun x => m.contains x) = true) : makeC v l = (m, false, 0) := by
  unfold makeC
  rw [if_pos h0, if_pos h1, h2, if_neg (by decide), setI_of l m h h3 h4]
theorem makeC_always (v : Int) (l : List Int) (h0 : okV v = true) (h1 : l.all (litOk v) = true) (h2 : clash l = true) : makeC v l = ([], true, 0) := by
  unfold makeC
  rw [if_pos h0, if_pos h1, if_pos h2]
theorem al13 (k : Nat) (hk : 5000 < k) : spiritlevellaw13_alive.f k = some true := by
  have w : ∀ l : List Int, (l.all fun x => decide (-9223372036854775808 ≤ x) && decide (x ≤ 9223372036854775807)) = true → I64 l := fun l h x hx => by
    have := List.all_eq_true.1 h x hx
    simpa using this
  have e1 : makeC 5 [7, 2, 7, 4] = ([2, 4, 7], false, 0) := makeC_ok _ _ _ (by decide) (by decide) (by decide) (by decide) (by decide) (by decide)
  have e2 : makeC 5 [5, 4] = ([], true, 0) := makeC_always _ _ (by decide) (by decide) (by decide)
  have e3 : resolveC 5 [2, 4] [3, 6] 1 = ([4, 6], false, 0) := by
    unfold resolveC
    rw [if_pos (by decide), if_pos (by decide), if_neg (by decide), if_pos (by decide), show (([2, 4] ++ [3, 6] : List Int).filter fun y => !decide (y / 2 = 1)) = [4, 6] by decide]
    exact makeC_ok _ _ _ (by decide) (by decide) (by decide) (by decide) (by decide) (by decide)
  have e4 : resolveC 5 [2, 4] [3, 5] 1 = ([], true, 0) := by
    unfold resolveC
    rw [if_pos (by decide), if_pos (by decide), if_neg (by decide), if_pos (by decide), show (([2, 4] ++ [3, 5] : List Int).filter fun y => !decide (y / 2 = 1)) = [4, 5] by decide]
    exact makeC_always _ _ (by decide) (by decide) (by decide)
  unfold spiritlevellaw13_alive.f spiritlevellaw13_alive_t.f
  rw [cmake_eq k 5 [7, 2, 7, 4] (w _ (by decide)) (by decide) (by omega), Option.bind_some, cmake_eq k 5 [5, 4] (w _ (by decide)) (by decide) (by omega), Option.bind_some, resolve_eq k 5 [2, 4] [3, 6] 1 (w _ (by decide)) (w _ (by decide)) (by decide) (by decide) (by omega), Option.bind_some, resolve_eq k 5 [2, 4] [3, 5] 1 (w _ (by decide)) (w _ (by decide)) (by decide) (by decide) (by omega), Option.bind_some, e1, e2, e3, e4]
  dsimp only
  rw [if_pos rfl, if_neg (by decide), same13_eq k [2, 4, 7] [2, 4, 7] (by decide) (by simp; omega), Option.bind_some, if_pos (decide_eq_true rfl), if_pos rfl, if_pos rfl, if_pos rfl, if_neg (by decide), same13_eq k [4, 6] [4, 6] (by decide) (by simp; omega), Option.bind_some, if_pos (decide_eq_true rfl), if_pos rfl, Option.bind_some, if_pos rfl]
theorem inc_len : ∀ (l : List Int) (lo hi : Int), l.Pairwise (· < ·) → (∀ x ∈ l, lo ≤ x ∧ x ≤ hi) → lo ≤ hi + 1 → (l.length : Int) ≤ hi - lo + 1
  | [], lo, hi, _, _, h => by simp; omega
  | x :: l, lo, hi, hp, hb, h => by
    rw [List.pairwise_cons] at hp
    have h1 := hb x (by simp)
    have := inc_len l (x + 1) hi hp.2 (fun y hy => ⟨by have := hp.1 y hy; omega, (hb y (by simp [hy])).2⟩) (by omega)
    simp only [List.length_cons]
    omega
theorem good_len {v : Int} {c : List Int} (h : goodC v c = true) (hv : 0 ≤ v) : (c.length : Int) ≤ 2 * v := by
  obtain ⟨h1, h2⟩ := goodC_all v c h
  have := inc_len c 2 (2 * v + 1) h2 (fun x hx => (litOk_iff v x).1 (h1 x hx)) (by omega)
  omega

theorem good_one {v : Int} {c : List Int} (h : goodC v c = true) (m : Int) (h0 : m ∈ c) (h1 : m + 1 ∈ c) (he : m % 2 = 0) : False := by
  have key : ∀ (l : List Int) (p : Int), goodP v p l = true → (m = p ∨ m ∈ l) → m + 1 ∈ l → False := by
    intro l
    induction l with
    | nil => intro p _ _ h; simp at h
    | cons y l ih =>
      intro p hg hm hm1
      have hall := goodP_all v (y :: l) p hg
      simp only [goodP, Bool.and_eq_true, decide_eq_true_eq] at hg
      have hys := (goodP_all v l y hg.2.2.2).1
      rcases hm with hm | hm
      · subst hm
        rcases List.mem_cons.1 hm1 with e | e
        · omega
        · have := (hys _ e).2
          omega
      · rcases List.mem_cons.1 hm1 with e | e
        · rcases List.mem_cons.1 hm with e2 | e2
          · omega
          · have := (hys _ e2).2; omega
        · exact ih y hg.2.2.2 (List.mem_cons.1 hm) e
  cases c with
  | nil => simp at h0
  | cons x l =>
    simp only [goodC, Bool.and_eq_true] at h
    have hys := (goodP_all v l x h.2).1
    rcases List.mem_cons.1 h1 with e | e
    · rcases List.mem_cons.1 h0 with e2 | e2
      · omega
      · have := (hys _ e2).2; omega
    · exact key l x h.2 (List.mem_cons.1 h0) e
theorem filter_side {v : Int} {c : List Int} (h : goodC v c = true) (x m : Int) (hm : m = 2 * x ∨ m = 2 * x + 1) (hc : m ∈ c) : c.filter (fun y => !decide (y / 2 = x)) = c.filter (fun y => !decide (y = m)) := by
  apply List.filter_congr
  intro y hy
  congr 1
  rw [decide_eq_decide]
  constructor
  · intro e
    have : y = 2 * x ∨ y = 2 * x + 1 := by omega
    rcases this with e1 | e1 <;> rcases hm with e2 | e2
    · omega
    · exact absurd (good_one h (2 * x) (by rw [← e1]; exact hy) (by rw [← e2]; exact hc) (by omega)) (by simp)
    · exact absurd (good_one h (2 * x) (by rw [← e2]; exact hc) (by rw [← e1]; exact hy) (by omega)) (by simp)
    · omega
  · intro e; omega
/-- The values with a number. -/
def valuesV : Nat → Int → List Bool
  | 0, _ => []
  | v + 1, n => valuesV v (n / 2) ++ [decide (n % 2 = 1)]
theorem valuesV_len : ∀ (v : Nat) (n : Int), (valuesV v n).length = v
  | 0, _ => rfl
  | v + 1, n => by rw [valuesV, List.length_append, valuesV_len v]; rfl
theorem values_l0 : ∀ (i k : Nat) (n : Int) (out : List Bool), i ≤ out.length → out.length ≤ 100000 → 0 ≤ n → n ≤ 100000 → i < k →
    spiritlevelref13_Values.l0 k n out ((i : Int) - 1) = some (valuesV i n ++ out.drop i)
  | 0, k, n, out, _, _, _, _, hk => by
    obtain ⟨k, rfl⟩ : ∃ m, k = m + 1 := ⟨k - 1, by omega⟩
    simp only [spiritlevelref13_Values.l0]
    rw [if_neg (by omega), valuesV, List.drop_zero]; rfl
  | i + 1, k, n, out, h, ho, h0, h1, hk => by
    obtain ⟨k, rfl⟩ : ∃ m, k = m + 1 := ⟨k - 1, by omega⟩
    have hi : i < out.length := by omega
    have e : ((i + 1 : Nat) : Int) - 1 = (i : Int) := by omega
    have hd : (out.set i (decide (n % 2 = 1))).drop i = decide (n % 2 = 1) :: out.drop (i + 1) := by
      rw [List.drop_eq_getElem_cons (by rw [List.length_set]; exact hi), List.getElem_set_self, List.drop_set_of_lt (by omega)]
    rw [e]
    simp only [spiritlevelref13_Values.l0]
    rw [if_pos (by omega), if_pos (by omega), if_pos (by omega), Int.tdiv_eq_ediv_of_nonneg h0, Int.tmod_eq_emod_of_nonneg h0, w64 (n / 2) (by omega) (by omega), w64 ((i : Int) - 1) (by omega) (by omega), Int.toNat_natCast]
    have := values_l0 i k (n / 2) (out.set i (n % 2 == 1)) (by rw [List.length_set]; omega) (by rw [List.length_set]; omega) (by omega) (by omega) (by omega)
    rw [this, valuesV, List.append_assoc, show (n % 2 == 1) = decide (n % 2 = 1) from rfl, hd]
    rfl
theorem values_eq (k : Nat) (v n : Int) (h0 : 0 ≤ v) (h1 : v ≤ 8) (hn : 0 ≤ n) (hn1 : n ≤ 100000) (hk : 10 < k) : spiritlevelref13_Values.f k v n = some (valuesV v.toNat n) := by
  unfold spiritlevelref13_Values.f
  rw [if_pos h0, if_pos (by omega), w64 (v - 1) (by omega) (by omega)]
  have := values_l0 v.toNat k n (List.replicate v.toNat false) (by simp) (by simp; omega) hn hn1 (by omega)
  rw [show ((v.toNat : Nat) : Int) - 1 = v - 1 by omega] at this
  rw [this]
  simp
theorem values_surj : ∀ (m : Nat) (vals : List Bool), vals.length = m → ∃ n : Nat, n < 2 ^ m ∧ valuesV m (n : Int) = vals
  | 0, vals, h => ⟨0, by simp, by rw [List.eq_nil_of_length_eq_zero h]; rfl⟩
  | m + 1, vals, h => by
    rcases List.eq_nil_or_concat vals with e | ⟨l, b, e⟩
    · subst e; simp at h
    rw [List.concat_eq_append] at e
    subst e
    have hl : l.length = m := by simpa using h
    obtain ⟨n, hn, e⟩ := values_surj m l hl
    refine ⟨2 * n + (if b = true then 1 else 0), ?_, ?_⟩
    · rw [Nat.pow_succ]; split <;> omega
    · rw [valuesV]
      have e1 : ((2 * n + (if b = true then 1 else 0) : Nat) : Int) / 2 = (n : Int) := by split <;> omega
      rw [e1, e]
      congr 2
      cases b <;> simp <;> omega
theorem shl_eq (v : Int) (h0 : 0 ≤ v) (h1 : v ≤ 8) : 0 ≤ IntKind.u64.wrap v ∧ shl .i64 1 (IntKind.u64.wrap v) = ((2 ^ v.toNat : Nat) : Int) := by
  rw [u64w v h0 (by omega)]
  refine ⟨h0, ?_⟩
  have : v = 0 ∨ v = 1 ∨ v = 2 ∨ v = 3 ∨ v = 4 ∨ v = 5 ∨ v = 6 ∨ v = 7 ∨ v = 8 := by omega
  rcases this with rfl | rfl | rfl | rfl | rfl | rfl | rfl | rfl | rfl <;> decide
theorem pow_le8 (v : Int) (h0 : 0 ≤ v) (h1 : v ≤ 8) : 2 ^ v.toNat ≤ 256 := by
  have : v = 0 ∨ v = 1 ∨ v = 2 ∨ v = 3 ∨ v = 4 ∨ v = 5 ∨ v = 6 ∨ v = 7 ∨ v = 8 := by omega
  rcases this with rfl | rfl | rfl | rfl | rfl | rfl | rfl | rfl | rfl <;> decide
theorem goodP_of (v : Int) : ∀ (l : List Int) (p : Int), (∀ x ∈ l, litOk v x = true) → (p :: l).Pairwise (· < ·) → adj (p :: l) = false → goodP v p l = true
  | [], _, _, _, _ => rfl
  | y :: l, p, h, hp, ha => by
    rw [List.pairwise_cons] at hp
    have hy := hp.1 y (by simp)
    rw [adj, Bool.or_eq_false_iff, decide_eq_false_iff_not] at ha
    rw [goodP, h y (by simp), decide_eq_true hy, decide_eq_true (show p / 2 ≠ y / 2 from ha.1), goodP_of v l y (fun x hx => h x (by simp [hx])) hp.2 ha.2]
    rfl
theorem goodC_of (v : Int) (c : List Int) (h : ∀ x ∈ c, litOk v x = true) (hp : c.Pairwise (· < ·)) (ha : adj c = false) : goodC v c = true := by
  cases c with
  | nil => rfl
  | cons x l => rw [goodC, h x (by simp), goodP_of v l x (fun y hy => h y (by simp [hy])) hp ha]; rfl
theorem any_mem {p : Int → Bool} {l m : List Int} (h : ∀ x, x ∈ l ↔ x ∈ m) : l.any p = m.any p := by
  rw [Bool.eq_iff_iff, List.any_eq_true, List.any_eq_true]
  exact ⟨fun ⟨x, hx, hp⟩ => ⟨x, (h x).1 hx, hp⟩, fun ⟨x, hx, hp⟩ => ⟨x, (h x).2 hx, hp⟩⟩
theorem setI_good (v : Int) (l : List Int) (h : l.all (litOk v) = true) (hc : clash l = false) : goodC v (setI l) = true :=
  goodC_of v _ (fun x hx => List.all_eq_true.1 h x ((setI_mem l x).1 hx)) (setI_inc l) (by rw [adj_clash, hc])
theorem lit_not (vals : List Bool) (x : Int) (h : 2 ≤ x) : litTrue vals (notI x) = !litTrue vals x := by
  have e : notI x / 2 = x / 2 := by unfold notI; split <;> omega
  unfold litTrue
  rw [e]
  have : decide (notI x % 2 = 0) = !decide (x % 2 = 0) := by
    unfold notI
    by_cases c : x % 2 = 0
    · rw [if_pos c, decide_eq_true c, decide_eq_false (by omega)]; rfl
    · rw [if_neg c, decide_eq_false c, decide_eq_true (by omega)]; rfl
  rw [this]
  cases rdOf false vals (x / 2 - 1) <;> cases decide (x % 2 = 0) <;> rfl
theorem w13 (l : List Int) (h : (l.all fun x => decide (-9223372036854775808 ≤ x) && decide (x ≤ 9223372036854775807)) = true) : I64 l := fun x hx => by
  have := List.all_eq_true.1 h x hx
  simpa using this
theorem bad_rows : ∀ c ∈ badRows, I64 c ∧ c.length ≤ 100 ∧ checkC 5 c = 8 := by
  intro c hc
  simp only [badRows, List.mem_cons, List.not_mem_nil, or_false] at hc
  rcases hc with rfl | rfl | rfl | rfl | rfl | rfl | rfl | rfl <;> exact ⟨w13 _ (by decide), by decide, by decide⟩
theorem clauseNames_all (w : World) : Calls Try.prog 8 #[] w fun e w' => e = .returned (.bool true) ∧ Below w.heap.size w w' := by
  have hn : I64 [] := w13 _ (by decide)
  have m0 : makeC 0 [] = ([], false, 0) := makeC_ok _ _ _ (by decide) (by decide) (by decide) (by decide) (by decide) (by decide)
  have m1 : makeC 4000 [8001, 2] = ([2, 8001], false, 0) := makeC_ok _ _ _ (by decide) (by decide) (by decide) (by decide) (by decide) (by decide)
  have m2 : makeC (-1) [0] = ([], false, 2) := by unfold makeC; rw [if_neg (by decide)]
  have m3 : makeC 4001 [] = ([], false, 2) := by unfold makeC; rw [if_neg (by decide)]
  have m4 : makeC 3 [8] = ([], false, 8) := by unfold makeC; rw [if_pos (by decide), if_neg (by decide)]
  have m5 : makeC 3 [1] = ([], false, 8) := by unfold makeC; rw [if_pos (by decide), if_neg (by decide)]
  have r1 : resolveC 5 [2, 4] [2, 5] 1 = ([], false, 6) := by unfold resolveC; rw [if_pos (by decide), if_pos (by decide), if_neg (by decide), if_neg (by decide)]
  have r2 : resolveC 5 [2] [3] 0 = ([], false, 6) := by unfold resolveC; rw [if_pos (by decide), if_pos (by decide), if_pos (by decide)]
  have r3 : resolveC 5 [2] [3] 6 = ([], false, 6) := by unfold resolveC; rw [if_pos (by decide), if_pos (by decide), if_pos (by decide)]
  have r4 : resolveC 5 [2] [3] 9223372036854775807 = ([], false, 6) := by unfold resolveC; rw [if_pos (by decide), if_pos (by decide), if_pos (by decide)]
  have r5 : resolveC 5 [3] [2] 1 = ([], false, 0) := by
    unfold resolveC
    rw [if_pos (by decide), if_pos (by decide), if_neg (by decide), if_pos (by decide), show (([3] ++ [2] : List Int).filter fun y => !decide (y / 2 = 1)) = [] by decide]
    exact makeC_ok _ _ _ (by decide) (by decide) (by decide) (by decide) (by decide) (by decide)
  have i1 : impliesC 4001 [] [] = (false, 2) := by unfold impliesC; rw [if_neg (by decide)]; rfl
  refine names_walk 7000 w ?_ ?_ ?_ ?_ ?_ ?_ ?_ ?_ ?_ ?_ ?_ ?_ ?_ ?_ ?_ ?_ ?_ ?_ (al13 7000 (by decide)) ?_ ?_ ?_
  · intro r hr
    obtain ⟨h1, h2, h3⟩ := bad_rows r hr
    rw [ctrue_eq 7000 r _ h1 (by simp) (by omega) (by omega), List.length_replicate, show ((5 : Nat) : Int) = 5 from rfl, h3, if_neg (by decide)]
  · intro r hr
    obtain ⟨h1, h2, h3⟩ := bad_rows r hr
    rw [implies_eq 7000 5 [] r hn h1 (by decide) (by omega) (by omega)]
    unfold impliesC; rw [if_pos (by decide), h3, if_neg (by decide)]
  · intro r hr
    obtain ⟨h1, h2, h3⟩ := bad_rows r hr
    rw [resolve_eq 7000 5 r [] 9 h1 hn (by omega) (by decide) (by omega)]
    unfold resolveC; rw [h3, if_neg (by decide)]
  · intro r hr
    obtain ⟨h1, h2, h3⟩ := bad_rows r hr
    rw [ccheck_eq 7000 5 r h1 (by omega) (by omega), h3]
  · rw [cmake_eq 7000 _ _ (w13 _ (by decide)) (by decide) (by omega), m2]
  · rw [cmake_eq 7000 _ _ (w13 _ (by decide)) (by decide) (by omega), m3]
  · rw [cmake_eq 7000 _ _ (w13 _ (by decide)) (by decide) (by omega), m4]
  · rw [cmake_eq 7000 _ _ (w13 _ (by decide)) (by decide) (by omega), m5]
  · rw [cmake_eq 7000 _ _ (w13 _ (by decide)) (by decide) (by omega), m0]
  · rw [cmake_eq 7000 _ _ (w13 _ (by decide)) (by decide) (by omega), m1]
  · have hr : (List.replicate 4001 false).length = 4001 := List.length_replicate
    rw [ctrue_eq 7000 [] _ (w13 _ (by decide)) (by omega) (by decide) (by simp), hr, if_neg (by decide)]; rfl
  · rw [ctrue_eq 7000 [] [] (w13 _ (by decide)) (by simp) (by decide) (by simp), if_pos (by decide)]; rfl
  · rw [resolve_eq 7000 _ _ _ _ (w13 _ (by decide)) (w13 _ (by decide)) (by decide) (by decide) (by omega), r1]
  · rw [resolve_eq 7000 _ _ _ _ (w13 _ (by decide)) (w13 _ (by decide)) (by decide) (by decide) (by omega), r2]
  · rw [resolve_eq 7000 _ _ _ _ (w13 _ (by decide)) (w13 _ (by decide)) (by decide) (by decide) (by omega), r3]
  · rw [resolve_eq 7000 _ _ _ _ (w13 _ (by decide)) (w13 _ (by decide)) (by decide) (by decide) (by omega), r5]
  · rw [implies_eq 7000 _ _ _ hn hn (by decide) (by decide) (by omega), i1]
  · rw [resolve_eq 7000 _ _ _ _ (w13 _ (by decide)) (w13 _ (by decide)) (by decide) (by decide) (by omega), r4]
  · rw [ccheck_eq 7000 _ _ hn (by decide) (by decide)]; rfl
  · rw [ccheck_eq 7000 _ _ (w13 _ (by decide)) (by decide) (by decide)]; rfl
  · rw [same13_eq 7000 _ _ (by decide) (by decide)]; rfl
end Go.Proofs.Ytnicmgakboghpaa.Pure
