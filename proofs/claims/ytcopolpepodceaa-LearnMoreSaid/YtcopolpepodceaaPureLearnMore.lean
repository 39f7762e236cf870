/- With more decisions, or more clauses, there still is a conflict; and with the learned clause as a clause more; for clauses that are not great and at most 50 decisions. -/
import Derived.Test.YtcopolpepodceaaQLearnMoreH
namespace Go.Proofs.Ytcopolpepodceaa.Pure
open Go.RowKit Go.Proofs.Ytcopolpepodceaa.QLearnMore Go.Proofs.Ytcopolpepodceaa.QLearnFollows Go.Proofs.YtcopolpepodceaaW.PrintWords Go.Proofs.YtcopolpepodceaaW.PrintLast
set_option linter.unusedSimpArgs false
set_option linter.unusedVariables false
theorem w64 (n : Int) (h : -9223372036854775808 ≤ n) (h2 : n ≤ 9223372036854775807) : wrap64 n = n := by unfold wrap64; omega
theorem rd_at (l : List Int) (j : Nat) (h : j < l.length) : rd l (j : Int) = l[j] := by simp [rd, List.getD, h]
theorem wf_i64 {x : Int} (h : (Lit.int .i64 x).wf = true) : -9223372036854775808 ≤ x ∧ x ≤ 9223372036854775807 := by
  simp [Lit.wf, IntKind.min, IntKind.max, IntKind.signed, IntKind.bits] at h
  omega
theorem wf_u8 {x : Int} (h : (Lit.int .u8 x).wf = true) : 0 ≤ x ∧ x ≤ 255 := by
  simp [Lit.wf, IntKind.min, IntKind.max, IntKind.signed, IntKind.bits] at h
  omega
theorem band1 (a : Int) (h0 : 0 ≤ a) (h1 : a < 9223372036854775807) : Go.bits .and .i64 a 1 = a % 2 := by
  have := bits_mask .i64 63 (by decide) (fun n h h' => by rw [IntKind.wrap_i64]; omega) 1 (by decide) a h0 (by omega)
  simpa using this

theorem xorNat (n : Nat) : n ^^^ 1 = if n % 2 = 0 then n + 1 else n - 1 := by
  have h1 : (n ^^^ 1) / 2 = n / 2 := by rw [Nat.xor_div_two]; simp
  have h2 : (n ^^^ 1) % 2 = (n + 1) % 2 := by
    have h := @Nat.xor_mod_two_eq_one n 1
    rcases Nat.mod_two_eq_zero_or_one n with e | e <;> rcases Nat.mod_two_eq_zero_or_one (n ^^^ 1) with e' | e' <;> simp [e, e'] at h <;> omega
  split <;> omega
theorem i64_nat (n : Nat) (h : n < 9223372036854775808) : IntKind.i64.wrap (n : Int) = n := by rw [IntKind.wrap_i64]; omega
theorem bxor1 (a : Int) (h0 : 0 ≤ a) (h1 : a < 9223372036854775807) : Go.bits .xor .i64 a 1 = if a % 2 = 0 then a + 1 else a - 1 := by
  obtain ⟨n, rfl⟩ := Int.eq_ofNat_of_zero_le h0
  have e : Go.bits .xor .i64 (n : Int) 1 = ((n ^^^ 1 : Nat) : Int) := by
    have hx : n ^^^ 1 < 9223372036854775808 := by rw [xorNat]; split <;> omega
    have hb : (1 : Int) = ((1 : Nat) : Int) := rfl
    rw [hb]
    have hc : ((BitVec.ofInt 64 (n : Int)) ^^^ (BitVec.ofInt 64 ((1 : Nat) : Int))).toNat = n ^^^ 1 := by
      rw [BitVec.ofInt_natCast, BitVec.ofInt_natCast, BitVec.toNat_xor, BitVec.toNat_ofNat, BitVec.toNat_ofNat, Nat.mod_eq_of_lt (by omega), Nat.mod_eq_of_lt (by omega)]
    have := i64_nat _ hx
    rw [← hc] at this ⊢
    exact this
  rw [e, xorNat]
  split <;> split <;> omega

-- strictly increasing lists: Sort and Compact
theorem inc_ext : ∀ (a b : List Int), a.Pairwise (· < ·) → b.Pairwise (· < ·) → (∀ x, x ∈ a ↔ x ∈ b) → a = b
  | [], [], _, _, _ => rfl
  | [], y :: b, _, _, h => absurd ((h y).2 (by simp)) (by simp)
  | x :: a, [], _, _, h => absurd ((h x).1 (by simp)) (by simp)
  | x :: a, y :: b, ha, hb, h => by
    rw [List.pairwise_cons] at ha hb
    have e : x = y := by
      have h1 := (h x).1 (by simp)
      have h2 := (h y).2 (by simp)
      rcases List.mem_cons.1 h1 with e | h1
      · exact e
      rcases List.mem_cons.1 h2 with e | h2
      · exact e.symm
      have := hb.1 x h1
      have := ha.1 y h2
      omega
    subst e
    rw [inc_ext a b ha.2 hb.2]
    intro z
    constructor
    · intro hz
      rcases List.mem_cons.1 ((h z).1 (by simp [hz])) with e | h'
      · subst e; have := ha.1 z hz; omega
      · exact h'
    · intro hz
      rcases List.mem_cons.1 ((h z).2 (by simp [hz])) with e | h'
      · subst e; have := hb.1 z hz; omega
      · exact h'
/-- The numbers of a list, each once, in increasing order. -/
def setI (l : List Int) : List Int := Lib.compact (sortI l)
theorem sortI_inc (l : List Int) : (sortI l).Pairwise (· ≤ ·) := by
  have := List.pairwise_mergeSort (le := fun x y : Int => decide (x ≤ y)) (fun a b c h1 h2 => by simp at h1 h2 ⊢; omega) (fun a b => by simp; omega) l
  simpa [sortI] using this
theorem sortI_mem (l : List Int) (x : Int) : x ∈ sortI l ↔ x ∈ l := by unfold sortI; exact List.mem_mergeSort
theorem sortI_len (l : List Int) : (sortI l).length = l.length := by simp [sortI]
theorem get_toArray (l : List Int) (j : Nat) (h : j < l.length) : l.toArray[j]! = l[j] := by simp [getElem!_pos, h]
theorem compact_inc (l : List Int) (h : l.Pairwise (· ≤ ·)) : (Lib.compact l).Pairwise (· < ·) := by
  unfold Lib.compact Lib.compactUpTo
  rw [List.pairwise_map, List.pairwise_filter]
  have hr : (List.range l.length).Pairwise (fun a b => (a < b) ∧ a < l.length ∧ b < l.length) := by
    have h1 := List.pairwise_lt_range (n := l.length)
    rw [List.pairwise_iff_forall_sublist] at h1 ⊢
    intro a b hs
    have ha : a ∈ List.range l.length := hs.subset (by simp)
    have hb : b ∈ List.range l.length := hs.subset (by simp)
    exact ⟨h1 hs, List.mem_range.1 ha, List.mem_range.1 hb⟩
  refine hr.imp ?_
  rintro i j ⟨hij, hi, hj⟩ _ hk
  simp only [Lib.keeps, decide_eq_true_eq] at hk
  rw [get_toArray l i hi, get_toArray l j hj]
  rw [get_toArray l j hj, get_toArray l (j - 1) (by omega)] at hk
  have hle := List.pairwise_iff_getElem.1 h
  have h1 : l[j - 1]'(by omega) ≤ l[j] := hle (j - 1) j (by omega) hj (by omega)
  have h2 : l[i] ≤ l[j - 1]'(by omega) := by
    rcases Nat.lt_or_ge i (j - 1) with c | c
    · exact hle i (j - 1) hi (by omega) c
    · have : i = j - 1 := by omega
      subst this; exact Int.le_refl _
  have h3 : l[j] ≠ l[j - 1]'(by omega) := by
    rcases hk with hk | hk
    · omega
    · exact hk
  omega
theorem compact_mem (l : List Int) (x : Int) : x ∈ Lib.compact l ↔ x ∈ l := by
  unfold Lib.compact Lib.compactUpTo
  rw [List.mem_map]
  constructor
  · rintro ⟨j, hj, rfl⟩
    have := List.mem_range.1 (List.mem_filter.1 hj).1
    rw [get_toArray l j this]
    exact List.getElem_mem this
  · intro hx
    obtain ⟨j, hj, rfl⟩ := List.getElem_of_mem hx
    have key : ∀ (n j : Nat), j ≤ n → ∀ (hj : j < l.length), ∃ a, a ∈ (List.range l.length).filter (Lib.keeps l.toArray) ∧ l.toArray[a]! = l[j] := by
      intro n
      induction n with
      | zero =>
        intro j hn hj
        have : j = 0 := by omega
        subst this
        exact ⟨0, List.mem_filter.2 ⟨List.mem_range.2 hj, by simp [Lib.keeps]⟩, get_toArray l 0 hj⟩
      | succ n ih =>
        intro j hn hj
        by_cases c : Lib.keeps l.toArray j = true
        · exact ⟨j, List.mem_filter.2 ⟨List.mem_range.2 hj, c⟩, get_toArray l j hj⟩
        · have c0 : ¬ (j = 0 ∨ l.toArray[j]! ≠ l.toArray[j - 1]!) := by simpa [Lib.keeps] using c
          have c1 : j ≠ 0 := fun e => c0 (Or.inl e)
          have c2 : l.toArray[j]! = l.toArray[j - 1]! := Classical.byContradiction fun e => c0 (Or.inr e)
          rw [get_toArray l j hj, get_toArray l (j - 1) (by omega)] at c2
          obtain ⟨a, ha, e⟩ := ih (j - 1) (by omega) (by omega)
          exact ⟨a, ha, by rw [e, c2]⟩
    exact key j j (Nat.le_refl _) hj
theorem setI_inc (l : List Int) : (setI l).Pairwise (· < ·) := compact_inc _ (sortI_inc l)
theorem setI_mem (l : List Int) (x : Int) : x ∈ setI l ↔ x ∈ l := by unfold setI; rw [compact_mem, sortI_mem]
theorem setI_eq (l m : List Int) (h : m.Pairwise (· < ·)) (h2 : ∀ x, x ∈ m ↔ x ∈ l) : m = setI l := inc_ext _ _ h (setI_inc l) (fun x => by rw [h2, setI_mem])
theorem setI_len (l : List Int) : (setI l).length ≤ l.length := by
  have := Lib.compact_length_le (sortI l)
  rw [sortI_len] at this
  exact this
/-- The other literal of a variable. -/
def notI (x : Int) : Int := if x % 2 = 0 then x + 1 else x - 1
/-- A list has a literal and the other one. -/
def clash (l : List Int) : Bool := l.any fun x => l.contains (notI x)
/-- Two in line have one variable. -/
def adj : List Int → Bool
  | x :: y :: l => decide (x / 2 = y / 2) || adj (y :: l)
  | _ => false
theorem adj_of : ∀ (c : List Int) (m : Int), c.Pairwise (· < ·) → m % 2 = 0 → m ∈ c → m + 1 ∈ c → adj c = true
  | [], _, _, _, h, _ => absurd h (by simp)
  | [x], m, _, _, h, h2 => by
    have e1 := List.mem_singleton.1 h
    have e2 := List.mem_singleton.1 h2
    omega
  | x :: y :: l, m, hp, he, h, h2 => by
    rw [List.pairwise_cons] at hp
    have hy := hp.1 y (by simp)
    rw [adj, Bool.or_eq_true, decide_eq_true_eq]
    rcases List.mem_cons.1 h with e | h
    · rcases List.mem_cons.1 h2 with e2 | h2
      · omega
      rcases List.mem_cons.1 h2 with e2 | h2
      · left; omega
      · have := (List.pairwise_cons.1 hp.2).1 _ h2
        omega
    · rcases List.mem_cons.1 h2 with e2 | h2
      · have := hp.1 m h; omega
      · exact Or.inr (adj_of (y :: l) m hp.2 he h h2)
theorem adj_in : ∀ (c : List Int), c.Pairwise (· < ·) → adj c = true → ∃ m, m % 2 = 0 ∧ m ∈ c ∧ m + 1 ∈ c
  | [], _, h => absurd h (by simp [adj])
  | [x], _, h => absurd h (by simp [adj])
  | x :: y :: l, hp, h => by
    rw [List.pairwise_cons] at hp
    have hy := hp.1 y (by simp)
    rw [adj, Bool.or_eq_true, decide_eq_true_eq] at h
    rcases h with h | h
    · exact ⟨x, by omega, by simp, by rw [show x + 1 = y by omega]; simp⟩
    · obtain ⟨m, h1, h2, h3⟩ := adj_in (y :: l) hp.2 h
      exact ⟨m, h1, List.mem_cons_of_mem _ h2, List.mem_cons_of_mem _ h3⟩
theorem adj_clash (l : List Int) : adj (setI l) = clash l := by
  cases e : clash l with
  | true =>
    obtain ⟨x, hx, h⟩ := List.any_eq_true.1 e
    have h := List.contains_iff_mem.1 h
    unfold notI at h
    by_cases c : x % 2 = 0
    · rw [if_pos c] at h
      exact adj_of _ x (setI_inc l) c ((setI_mem l x).2 hx) ((setI_mem l _).2 h)
    · rw [if_neg c] at h
      exact adj_of _ (x - 1) (setI_inc l) (by omega) ((setI_mem l _).2 h) (by rw [show x - 1 + 1 = x by omega]; exact (setI_mem l x).2 hx)
  | false =>
    cases f : adj (setI l) with
    | false => rfl
    | true =>
      obtain ⟨m, h0, h1, h2⟩ := adj_in _ (setI_inc l) f
      have := List.any_eq_false.1 e m ((setI_mem l m).1 h1)
      exfalso
      apply this
      rw [List.contains_iff_mem]
      unfold notI
      rw [if_pos h0]
      exact (setI_mem l _).1 h2

-- clauses: what Check, True, Make and their references come to
def litOk (v x : Int) : Bool := decide (2 ≤ x) && decide (x ≤ 2 * v + 1)
/-- What follows p in a clause. -/
def goodP (v : Int) : Int → List Int → Bool
  | _, [] => true
  | p, y :: l => litOk v y && (decide (p < y) && (decide (p / 2 ≠ y / 2) && goodP v y l))
def goodC (v : Int) : List Int → Bool
  | [] => true
  | x :: l => litOk v x && goodP v x l
def okV (v : Int) : Bool := decide (0 ≤ v) && decide (v ≤ 4000)
def checkC (v : Int) (c : List Int) : Int := if okV v = true then (if goodC v c = true then 0 else 8) else 2
def litTrue (vals : List Bool) (x : Int) : Bool := rdOf false vals (x / 2 - 1) == decide (x % 2 = 0)
def I64 (l : List Int) : Prop := ∀ x ∈ l, -9223372036854775808 ≤ x ∧ x ≤ 9223372036854775807
theorem litOk_iff (v x : Int) : litOk v x = true ↔ 2 ≤ x ∧ x ≤ 2 * v + 1 := by simp [litOk]
theorem okV_iff (v : Int) : okV v = true ↔ 0 ≤ v ∧ v ≤ 4000 := by simp [okV]
theorem known_eq (v x : Int) (h0 : 0 ≤ v) (h1 : v ≤ 4000) (hx : x ≤ 9223372036854775807) : clause_known.f v x = some (litOk v x) := by
  unfold clause_known.f litOk
  by_cases c : x ≥ 2
  · rw [if_pos c, decide_eq_true (show 2 ≤ x from c), Bool.true_and, Int.tdiv_eq_ediv_of_nonneg (by omega), w64 (x / 2) (by omega) (by omega)]
    congr 1
    rw [decide_eq_decide]; omega
  · rw [if_neg c, decide_eq_false (show ¬ 2 ≤ x by omega)]; rfl
theorem rlit_eq (v x : Int) (h0 : 0 ≤ v) (h1 : v ≤ 4000) : spiritlevelref13_Lit.f v x = some (litOk v x) := by
  unfold spiritlevelref13_Lit.f litOk
  rw [w64 (2 * v) (by omega) (by omega), w64 (2 * v + 1) (by omega) (by omega)]
  by_cases c : x ≥ 2
  · rw [if_pos c, decide_eq_true (show 2 ≤ x from c), Bool.true_and]
  · rw [if_neg c, decide_eq_false (show ¬ 2 ≤ x by omega)]; rfl
theorem rvars13_eq (v : Int) : spiritlevelref13_Vars.f v = some (okV v) := by
  unfold spiritlevelref13_Vars.f okV
  by_cases c : v ≥ 0
  · rw [if_pos c, decide_eq_true (show 0 ≤ v from c), Bool.true_and]
  · rw [if_neg c, decide_eq_false (show ¬ 0 ≤ v by omega)]; rfl
theorem ccheck_l1 (v : Int) (c : List Int) (h0 : 0 ≤ v) (h1 : v ≤ 4000) (hc : I64 c) (hl : c.length ≤ 100000000000000) (d : Nat) : ∀ (k j : Nat) (hj : j + 1 + d = c.length), d < k → 2 ≤ c[j] → c[j] ≤ 2 * v + 1 →
    clause_Check.l0 k v c c (c.length : Int) ((j + 1 : Nat) : Int) = some (if goodP v c[j] (c.drop (j + 1)) = true then 0 else 8) := by
  induction d with
  | zero =>
    intro k j hj hk _ _
    obtain ⟨k, rfl⟩ : ∃ m, k = m + 1 := ⟨k - 1, by omega⟩
    simp only [clause_Check.l0]
    rw [if_neg (by omega), List.drop_of_length_le (by omega)]
    simp [goodP]
  | succ d ih =>
    intro k j hj hk p0 p1
    obtain ⟨k, rfl⟩ : ∃ m, k = m + 1 := ⟨k - 1, by omega⟩
    have h2 : j + 1 < c.length := by omega
    have h3 := hc c[j + 1] (List.getElem_mem h2)
    have e : ((j + 1 : Nat) : Int) - 1 = (j : Int) := by omega
    simp only [clause_Check.l0]
    rw [if_pos (by omega), if_pos (by omega), if_pos (by omega), rd_at c (j + 1) h2, known_eq v _ h0 h1 h3.2, Option.bind_some, List.drop_eq_getElem_cons h2, goodP]
    cases g : litOk v c[j + 1] with
    | false => rw [if_neg (by decide), Bool.false_and, if_neg (by decide)]
    | true =>
      rw [litOk_iff] at g
      rw [if_pos rfl, if_pos (by omega), w64 (((j + 1 : Nat) : Int) - 1) (by omega) (by omega), e, if_pos (by omega), if_pos (by omega), rd_at c j (by omega), Bool.true_and]
      by_cases c1 : c[j + 1] ≤ c[j]
      · rw [if_pos c1, decide_eq_false (show ¬ c[j] < c[j + 1] by omega), Bool.false_and, if_neg (by decide)]
      rw [if_neg c1, decide_eq_true (show c[j] < c[j + 1] by omega), Bool.true_and, Int.tdiv_eq_ediv_of_nonneg (by omega), Int.tdiv_eq_ediv_of_nonneg (by omega), w64 (c[j + 1] / 2) (by omega) (by omega), w64 (c[j] / 2) (by omega) (by omega)]
      by_cases c2 : c[j + 1] / 2 = c[j] / 2
      · rw [if_pos c2, decide_eq_false (by omega), Bool.false_and, if_neg (by decide)]
      · rw [if_neg c2, decide_eq_true (by omega), Bool.true_and, w64 (((j + 1 : Nat) : Int) + 1) (by omega) (by omega), show ((j + 1 : Nat) : Int) + 1 = ((j + 1 + 1 : Nat) : Int) by omega, ih k (j + 1) (by omega) (by omega) (by omega) (by omega)]
theorem ccheck_eq (k : Nat) (v : Int) (c : List Int) (hc : I64 c) (hl : c.length ≤ 100000000000000) (hk : c.length + 2 < k) : clause_Check.f k v c = some (checkC v c) := by
  obtain ⟨k, rfl⟩ : ∃ m, k = m + 1 := ⟨k - 1, by omega⟩
  unfold clause_Check.f checkC
  by_cases c0 : v < 0
  · rw [if_pos c0, show okV v = false by unfold okV; rw [decide_eq_false (by omega)]; rfl]
    simp only [clause_Check.j0]
    rw [if_pos trivial, if_neg (by decide)]
  rw [if_neg c0]
  by_cases c1 : v > 4000
  · rw [decide_eq_true c1, show okV v = false by unfold okV; rw [decide_eq_false (show ¬ v ≤ 4000 by omega), Bool.and_false]]
    simp only [clause_Check.j0]
    rw [if_pos trivial, if_neg (by decide)]
  rw [decide_eq_false c1, show okV v = true from (okV_iff v).2 (by omega), if_pos rfl]
  simp only [clause_Check.j0]
  rw [if_neg (by decide)]
  obtain ⟨k, rfl⟩ : ∃ m, k = m + 1 := ⟨k - 1, by omega⟩
  cases c with
  | nil => simp [clause_Check.l0, goodC]
  | cons x l =>
    have hx := hc x (by simp)
    simp only [clause_Check.l0]
    rw [if_pos (by simp), if_pos (by omega), if_pos (by simp), show rd (x :: l) 0 = x from rfl, known_eq v x (by omega) (by omega) hx.2, Option.bind_some, goodC]
    cases g : litOk v x with
    | false => rw [if_neg (by decide), Bool.false_and, if_neg (by decide)]
    | true =>
      rw [litOk_iff] at g
      have := ccheck_l1 v (x :: l) (by omega) (by omega) hc hl l.length k 0 (by simp; omega) (by simp at hk; omega) (by simpa using g.1) (by simpa using g.2)
      rw [if_pos rfl, if_neg (by omega), w64 (0 + 1) (by omega) (by omega), Bool.true_and]
      simpa using this
theorem rvalid_l1 (v : Int) (c : List Int) (h0 : 0 ≤ v) (h1 : v ≤ 4000) (hl : c.length ≤ 100000000000000) (d : Nat) : ∀ (k j : Nat) (hj : j + 1 + d = c.length), d < k → 2 ≤ c[j] → c[j] ≤ 2 * v + 1 →
    spiritlevelref13_Valid.l0 k v c ((j + 1 : Nat) : Int) = some (goodP v c[j] (c.drop (j + 1))) := by
  induction d with
  | zero =>
    intro k j hj hk _ _
    obtain ⟨k, rfl⟩ : ∃ m, k = m + 1 := ⟨k - 1, by omega⟩
    simp only [spiritlevelref13_Valid.l0]
    rw [if_neg (by omega), List.drop_of_length_le (by omega)]
    simp [goodP]
  | succ d ih =>
    intro k j hj hk p0 p1
    obtain ⟨k, rfl⟩ : ∃ m, k = m + 1 := ⟨k - 1, by omega⟩
    have h2 : j + 1 < c.length := by omega
    have e : ((j + 1 : Nat) : Int) - 1 = (j : Int) := by omega
    simp only [spiritlevelref13_Valid.l0]
    rw [if_pos (by omega), if_pos (by omega), rd_at c (j + 1) h2, rlit_eq v _ h0 h1, Option.bind_some, List.drop_eq_getElem_cons h2, goodP]
    cases g : litOk v c[j + 1] with
    | false => rw [if_neg (by decide), Bool.false_and]
    | true =>
      rw [litOk_iff] at g
      rw [if_pos rfl, if_pos (by omega), w64 (((j + 1 : Nat) : Int) - 1) (by omega) (by omega), e, if_pos (by omega), if_pos (by omega), rd_at c j (by omega), Bool.true_and, w64 (c[j + 1] - c[j]) (by omega) (by omega)]
      by_cases c1 : c[j + 1] - c[j] < 1
      · rw [if_pos c1, decide_eq_false (show ¬ c[j] < c[j + 1] by omega), Bool.false_and]
      rw [if_neg c1, decide_eq_true (show c[j] < c[j + 1] by omega), Bool.true_and, Int.tmod_eq_emod_of_nonneg (by omega), w64 (c[j] + 1) (by omega) (by omega), w64 (((j + 1 : Nat) : Int) + 1) (by omega) (by omega), show ((j + 1 : Nat) : Int) + 1 = ((j + 1 + 1 : Nat) : Int) by omega, ih k (j + 1) (by omega) (by omega) (by omega) (by omega)]
      by_cases c2 : c[j] % 2 = 0
      · rw [if_pos c2]
        by_cases c3 : c[j + 1] = c[j] + 1
        · rw [if_pos c3, decide_eq_false (by omega), Bool.false_and]
        · rw [if_neg c3, decide_eq_true (by omega), Bool.true_and]
      · rw [if_neg c2, decide_eq_true (by omega), Bool.true_and]
theorem rvalid_eq (k : Nat) (v : Int) (c : List Int) (h0 : 0 ≤ v) (h1 : v ≤ 4000) (hl : c.length ≤ 100000000000000) (hk : c.length + 1 < k) : spiritlevelref13_Valid.f k v c = some (goodC v c) := by
  obtain ⟨k, rfl⟩ : ∃ m, k = m + 1 := ⟨k - 1, by omega⟩
  unfold spiritlevelref13_Valid.f
  cases c with
  | nil => simp [spiritlevelref13_Valid.l0, goodC]
  | cons x l =>
    simp only [spiritlevelref13_Valid.l0]
    rw [if_pos (by simp), if_pos (by omega), show rd (x :: l) 0 = x from rfl, rlit_eq v x h0 h1, Option.bind_some, goodC]
    cases g : litOk v x with
    | false => rw [if_neg (by decide), Bool.false_and]
    | true =>
      rw [litOk_iff] at g
      have := rvalid_l1 v (x :: l) h0 h1 hl l.length k 0 (by simp; omega) (by simp at hk; omega) (by simpa using g.1) (by simpa using g.2)
      rw [if_pos rfl, if_neg (by omega), w64 (0 + 1) (by omega) (by omega), Bool.true_and]
      simpa using this
theorem rcheck13_eq (k : Nat) (v : Int) (c : List Int) (hl : c.length ≤ 100000000000000) (hk : c.length + 1 < k) : spiritlevelref13_Check.f k v c = some (checkC v c) := by
  unfold spiritlevelref13_Check.f checkC
  rw [rvars13_eq, Option.bind_some]
  cases g : okV v with
  | false => rw [if_neg (by decide), if_neg (by decide)]
  | true =>
    rw [okV_iff] at g
    rw [if_pos rfl, if_pos rfl, rvalid_eq k v c g.1 g.2 hl hk, Option.bind_some]
    cases goodC v c <;> rfl
theorem goodP_all (v : Int) : ∀ (l : List Int) (p : Int), goodP v p l = true → (∀ x ∈ l, litOk v x = true ∧ p < x) ∧ l.Pairwise (· < ·)
  | [], _, _ => ⟨by simp, List.Pairwise.nil⟩
  | y :: l, p, h => by
    simp only [goodP, Bool.and_eq_true, decide_eq_true_eq] at h
    obtain ⟨h1, h2⟩ := goodP_all v l y h.2.2.2
    refine ⟨fun x hx => ?_, List.pairwise_cons.2 ⟨fun z hz => (h1 z hz).2, h2⟩⟩
    rcases List.mem_cons.1 hx with rfl | hx
    · exact ⟨h.1, h.2.1⟩
    · exact ⟨(h1 x hx).1, by have := (h1 x hx).2; omega⟩
theorem goodC_all (v : Int) (c : List Int) (h : goodC v c = true) : (∀ x ∈ c, litOk v x = true) ∧ c.Pairwise (· < ·) := by
  cases c with
  | nil => exact ⟨by simp, List.Pairwise.nil⟩
  | cons x l =>
    simp only [goodC, Bool.and_eq_true] at h
    obtain ⟨h1, h2⟩ := goodP_all v l x h.2
    refine ⟨fun y hy => ?_, List.pairwise_cons.2 ⟨fun z hz => (h1 z hz).2, h2⟩⟩
    rcases List.mem_cons.1 hy with rfl | hy
    · exact h.1
    · exact (h1 y hy).1

theorem same13_l0 (a b : List Int) (hab : a.length = b.length) (hl : a.length ≤ 100000) (d : Nat) : ∀ (k j : Nat), j + d = a.length → d < k →
    spiritlevelref13_Same.l0 k a b (j : Int) = some (decide (a.drop j = b.drop j)) := by
  induction d with
  | zero =>
    intro k j hj hk
    obtain ⟨k, rfl⟩ : ∃ m, k = m + 1 := ⟨k - 1, by omega⟩
    simp only [spiritlevelref13_Same.l0]
    rw [if_neg (by omega), List.drop_of_length_le (by omega), List.drop_of_length_le (by omega)]; rfl
  | succ d ih =>
    intro k j hj hk
    obtain ⟨k, rfl⟩ : ∃ m, k = m + 1 := ⟨k - 1, by omega⟩
    have h1 : j < a.length := by omega
    have h2 : j < b.length := by omega
    simp only [spiritlevelref13_Same.l0]
    rw [if_pos (by omega), if_pos (by omega), if_pos (show (j : Int) < (b.length : Int) by omega), rd_at a j h1, rd_at b j h2, List.drop_eq_getElem_cons (l := a) h1, List.drop_eq_getElem_cons (l := b) h2, w64 ((j : Int) + 1) (by omega) (by omega), show ((j : Int) + 1) = ((j + 1 : Nat) : Int) by omega, ih k (j + 1) (by omega) (by omega)]
    by_cases c : a[j] = b[j]
    · rw [if_pos c, c]
      simp only [List.cons.injEq, true_and]
    · rw [if_neg c]
      have : ¬ (a[j] :: List.drop (j + 1) a = b[j] :: List.drop (j + 1) b) := fun h => c (List.cons.inj h).1
      rw [decide_eq_false this]
theorem same13_eq (k : Nat) (a b : List Int) (hl : a.length ≤ 100000) (hk : a.length < k) : spiritlevelref13_Same.f k a b = some (decide (a = b)) := by
  unfold spiritlevelref13_Same.f
  by_cases c : a.length = b.length
  · rw [if_pos (by omega)]
    have := same13_l0 a b c hl a.length k 0 (by omega) hk
    simpa using this
  · rw [if_neg (by omega)]
    have : a ≠ b := fun h => c (by rw [h])
    simp [this]
theorem has13_l0 (l : List Int) (x : Int) (hl : l.length ≤ 100000) (d : Nat) : ∀ (k j : Nat), j + d = l.length → d < k →
    spiritlevelref13_Has.l0 k l x (j : Int) = some ((l.drop j).contains x) := by
  induction d with
  | zero =>
    intro k j hj hk
    obtain ⟨k, rfl⟩ : ∃ m, k = m + 1 := ⟨k - 1, by omega⟩
    simp only [spiritlevelref13_Has.l0]
    rw [if_neg (by omega), List.drop_of_length_le (by omega)]; rfl
  | succ d ih =>
    intro k j hj hk
    obtain ⟨k, rfl⟩ : ∃ m, k = m + 1 := ⟨k - 1, by omega⟩
    have h1 : j < l.length := by omega
    simp only [spiritlevelref13_Has.l0]
    rw [if_pos (by omega), if_pos (by omega), rd_at l j h1, List.drop_eq_getElem_cons h1, w64 ((j : Int) + 1) (by omega) (by omega), show ((j : Int) + 1) = ((j + 1 : Nat) : Int) by omega, ih k (j + 1) (by omega) (by omega), List.contains_cons]
    by_cases c : l[j] = x
    · rw [if_pos c, c]; simp
    · rw [if_neg c]
      have : (x == l[j]) = false := by simpa using fun h => c h.symm
      rw [this, Bool.false_or]
theorem has13_eq (k : Nat) (l : List Int) (x : Int) (hl : l.length ≤ 100000) (hk : l.length < k) : spiritlevelref13_Has.f k l x = some (l.contains x) := by
  unfold spiritlevelref13_Has.f
  exact has13_l0 l x hl l.length k 0 (by omega) hk


theorem not13_eq (x : Int) (h0 : 0 ≤ x) (h1 : x ≤ 100000) : spiritlevelref13_Not.f x = some (notI x) := by
  unfold spiritlevelref13_Not.f notI
  rw [Int.tmod_eq_emod_of_nonneg h0, w64 (x + 1) (by omega) (by omega), w64 (x - 1) (by omega) (by omega)]
  by_cases c : x % 2 = 0
  · rw [if_pos c, if_pos c]
  · rw [if_neg c, if_neg c]

theorem inc_len : ∀ (l : List Int) (lo hi : Int), l.Pairwise (· < ·) → (∀ x ∈ l, lo ≤ x ∧ x ≤ hi) → lo ≤ hi + 1 → (l.length : Int) ≤ hi - lo + 1
  | [], lo, hi, _, _, h => by simp; omega
  | x :: l, lo, hi, hp, hb, h => by
    rw [List.pairwise_cons] at hp
    have h1 := hb x (by simp)
    have := inc_len l (x + 1) hi hp.2 (fun y hy => ⟨by have := hp.1 y hy; omega, (hb y (by simp [hy])).2⟩) (by omega)
    simp only [List.length_cons]
    omega
def Closed (L : List (List Int)) (S : Int → Prop) : Prop := ∀ c ∈ L, ∀ x ∈ c, (∀ y ∈ c, y ≠ x → S (notI y)) → S x
/-- What becomes true with some literals. -/
def Der (L : List (List Int)) (D : List Int) (x : Int) : Prop := ∀ S : Int → Prop, (∀ y ∈ D, S y) → Closed L S → S x
/-- All literals of a clause become false. -/
def Conf (L : List (List Int)) (D : List Int) : Prop := ∃ c ∈ L, ∀ y ∈ c, Der L D (notI y)
theorem der_base {L : List (List Int)} {D : List Int} {x : Int} (h : x ∈ D) : Der L D x := fun _ hb _ => hb x h
theorem der_step {L : List (List Int)} {D : List Int} : Closed L (Der L D) := fun c hc x hx h S hb hs => hs c hc x hx fun y hy hn => h y hy hn S hb hs
theorem der_mono {L L' : List (List Int)} {D D' : List Int} (hL : ∀ c ∈ L, c ∈ L') (hD : ∀ y ∈ D, y ∈ D') {x : Int} (h : Der L D x) : Der L' D' x := fun S hb hs => h S (fun y hy => hb y (hD y hy)) fun c hc => hs c (hL c hc)
theorem conf_mono {L L' : List (List Int)} {D D' : List Int} (hL : ∀ c ∈ L, c ∈ L') (hD : ∀ y ∈ D, y ∈ D') (h : Conf L D) : Conf L' D' := by
  obtain ⟨c, hc, h⟩ := h
  exact ⟨c, hL c hc, fun y hy => der_mono hL hD (h y hy)⟩
theorem notI_notI (x : Int) : notI (notI x) = x := by unfold notI; split <;> split <;> omega
theorem notI_ne (x : Int) : notI x ≠ x := by unfold notI; split <;> omega
theorem notI_lit (v x : Int) (h : litOk v x = true) : litOk v (notI x) = true := by
  rw [litOk_iff] at h ⊢
  unfold notI
  split <;> omega
theorem notI_inj {x y : Int} (h : notI x = notI y) : x = y := by rw [← notI_notI x, h, notI_notI]
theorem notI_var (x y : Int) (h : x / 2 = y / 2) : y = x ∨ y = notI x := by unfold notI; split <;> omega
theorem var_notI (x : Int) : notI x / 2 = x / 2 := by unfold notI; split <;> omega
theorem bxorN (x : Int) (h0 : 0 ≤ x) (h1 : x < 9223372036854775807) : Go.bits .xor .i64 x 1 = notI x := by rw [bxor1 x h0 h1]; rfl
/-- Literals with one value each. -/
structure Lits (v : Int) (H : List Int) : Prop where
  ok : ∀ x ∈ H, litOk v x = true
  one : (H.map (· / 2)).Nodup
theorem Lits.inj {v : Int} {H : List Int} (h : Lits v H) {x y : Int} (hx : x ∈ H) (hy : y ∈ H) (e : x / 2 = y / 2) : x = y := by
  obtain ⟨i, hi, rfl⟩ := List.getElem_of_mem hx
  obtain ⟨j, hj, rfl⟩ := List.getElem_of_mem hy
  have hp := List.pairwise_iff_getElem.1 (List.pairwise_map.1 h.one)
  rcases Nat.lt_trichotomy i j with c | c | c
  · exact absurd e (hp i j hi hj c)
  · subst c; rfl
  · exact absurd e.symm (hp j i hj hi c)
theorem Lits.not {v : Int} {H : List Int} (h : Lits v H) {x : Int} (hx : x ∈ H) : notI x ∉ H := fun hn => notI_ne x (h.inj hn hx (var_notI x))
theorem Lits.nodup {v : Int} {H : List Int} (h : Lits v H) : H.Nodup := List.Pairwise.of_map (· / 2) (fun a b hab e => hab (by rw [e])) h.one
theorem Lits.add {v : Int} {H : List Int} (h : Lits v H) {x : Int} (hx : litOk v x = true) (h1 : x ∉ H) (h2 : notI x ∉ H) : Lits v (H ++ [x]) := by
  refine ⟨fun y hy => ?_, ?_⟩
  · rcases List.mem_append.1 hy with hy | hy
    · exact h.ok y hy
    · rw [List.mem_singleton.1 hy]; exact hx
  · rw [List.map_append, List.nodup_append]
    refine ⟨h.one, by simp, fun a ha b hb e => ?_⟩
    obtain ⟨y, hy, rfl⟩ := List.mem_map.1 ha
    rw [List.map_singleton, List.mem_singleton] at hb
    subst hb
    rcases notI_var x y e.symm with rfl | rfl
    · exact h1 hy
    · exact h2 hy
theorem Lits.sub {v : Int} {H G : List Int} (h : Lits v H) (hs : G.Sublist H) : Lits v G := ⟨fun x hx => h.ok x (hs.subset hx), h.one.sublist (hs.map _)⟩
theorem nodup_len (l : List Int) (lo hi : Int) (h : l.Nodup) (hb : ∀ x ∈ l, lo ≤ x ∧ x ≤ hi) (h0 : lo ≤ hi + 1) : (l.length : Int) ≤ hi - lo + 1 := by
  have h1 := (sortI_inc l).and ((List.mergeSort_perm l _).nodup_iff.2 h : (sortI l).Nodup)
  have := inc_len (sortI l) lo hi (h1.imp fun h => by omega) (fun x hx => hb x ((sortI_mem l x).1 hx)) h0
  rw [sortI_len] at this
  exact this
theorem Lits.len {v : Int} {H : List Int} (h : Lits v H) (h0 : 0 ≤ v) : (H.length : Int) ≤ v := by
  have := nodup_len (H.map (· / 2)) 1 v h.one (fun x hx => by
    obtain ⟨y, hy, rfl⟩ := List.mem_map.1 hx
    have := (litOk_iff v y).1 (h.ok y hy)
    show 1 ≤ y / 2 ∧ y / 2 ≤ v
    omega) (by omega)
  rw [List.length_map] at this
  omega
/-- A clause as it is behind a round. -/
theorem closed_conf {L : List (List Int)} {D H : List Int} {v : Int} (hH : Lits v H) (hD : ∀ y ∈ D, y ∈ H) (hDer : ∀ y ∈ H, Der L D y) (hs : ∀ c ∈ L, ¬ (∀ y ∈ c, notI y ∈ H) ∧ ∀ x ∈ c, (∀ y ∈ c, y ≠ x → notI y ∈ H) → x ∈ H) : ¬ Conf L D := by
  rintro ⟨c, hc, h⟩
  refine (hs c hc).1 fun y hy => ?_
  exact h y hy (· ∈ H) hD fun c hc x hx hh => (hs c hc).2 x hx hh

-- unit propagation: what Run and the reference come to
theorem rdLL_at (L : List (List Int)) (j : Nat) (h : j < L.length) : rd_L2 L (j : Int) = L[j] := by simp [rd_L2, List.getD, h]
theorem aknown_eq (v x : Int) (h0 : 0 ≤ v) (h1 : v ≤ 4000) (hx : x ≤ 9223372036854775807) : assign_known.f v x = some (litOk v x) := by
  unfold assign_known.f litOk
  by_cases c : x ≥ 2
  · rw [if_pos c, decide_eq_true (show 2 ≤ x from c), Bool.true_and, Int.tdiv_eq_ediv_of_nonneg (by omega), w64 (x / 2) (by omega) (by omega)]
    congr 1
    rw [decide_eq_decide]; omega
  · rw [if_neg c, decide_eq_false (show ¬ 2 ≤ x by omega)]; rfl
theorem rdB_set (l : List Bool) (u w : Nat) (h : u < l.length) : rdOf false (l.set u true) (w : Int) = true ↔ w = u ∨ rdOf false l (w : Int) = true := by
  unfold rdOf
  rw [Int.toNat_natCast, List.getD_eq_getElem?_getD, List.getD_eq_getElem?_getD]
  by_cases c : u = w
  · subst c
    rw [List.getElem?_set_self h]
    simp
  · rw [List.getElem?_set_ne c]
    constructor
    · exact Or.inr
    · rintro (e | e)
      · exact absurd e.symm c
      · exact e
theorem rdB_none (N w : Nat) : rdOf false (List.replicate N false) (w : Int) ≠ true := by
  unfold rdOf
  rw [List.getD_eq_getElem?_getD, List.getElem?_replicate]
  split <;> simp
theorem take_lits {v : Int} {D : List Int} {j : Nat} (h : j < D.length) (ht : Lits v (D.take j)) (hx : litOk v D[j] = true) (hn : ∀ y ∈ D.take j, y / 2 ≠ D[j] / 2) : Lits v (D.take (j + 1)) := by
  rw [List.take_succ_eq_append_getElem h]
  exact ht.add hx (fun h => hn _ h rfl) (fun h => hn _ h (var_notI _))
theorem acheck_l0 (v : Int) (D : List Int) (h0 : 0 ≤ v) (h1 : v ≤ 4000) (hi : I64 D) (hl : D.length ≤ 100000) (d : Nat) : ∀ (k j : Nat) (has : List Bool), j + d = D.length → d + 1 < k → (has.length : Int) = v + 1 → Lits v (D.take j) → (∀ u : Nat, rdOf false has (u : Int) = true ↔ ∃ x ∈ D.take j, x / 2 = (u : Int)) →
    ∃ e, assign_Check.l0 k has D (D.length : Int) (j : Int) v D [] = some e ∧ (e = 0 ∨ e = 8) ∧ (e = 0 ↔ Lits v D) := by
  induction d with
  | zero =>
    intro k j has hj hk hh hL hm
    obtain ⟨k, rfl⟩ : ∃ m, k = m + 1 + 1 := ⟨k - 2, by omega⟩
    rw [List.take_of_length_le (by omega)] at hL
    refine ⟨0, ?_, Or.inl rfl, by simp [hL]⟩
    simp only [assign_Check.l0, assign_Check.l1]
    rw [if_neg (by omega), if_neg (by simp)]
  | succ d ih =>
    intro k j has hj hk hh hL hm
    obtain ⟨k, rfl⟩ : ∃ m, k = m + 1 := ⟨k - 1, by omega⟩
    have hlt : j < D.length := by omega
    have hx := hi _ (List.getElem_mem hlt)
    simp only [assign_Check.l0]
    rw [if_pos (by omega), if_pos (by omega), if_pos (by omega), rd_at D j hlt, aknown_eq v _ h0 h1 hx.2, Option.bind_some]
    cases g : litOk v D[j] with
    | false =>
      refine ⟨8, by rw [if_neg (by decide)], Or.inr rfl, ?_⟩
      constructor
      · intro h; omega
      · intro h
        have := h.ok _ (List.getElem_mem hlt)
        rw [g] at this
        exact absurd this (by decide)
    | true =>
      have g2 := (litOk_iff v _).1 g
      obtain ⟨u, hu⟩ : ∃ u : Nat, D[j] / 2 = (u : Int) := ⟨(D[j] / 2).toNat, by omega⟩
      rw [if_pos rfl, Int.tdiv_eq_ediv_of_nonneg (by omega), hu, w64 _ (by omega) (by omega), if_pos (by omega), if_pos (by omega)]
      by_cases c : rdOf false has (u : Int) = true
      · obtain ⟨y, hy, hyu⟩ := (hm u).1 c
        refine ⟨8, by rw [if_pos c], Or.inr rfl, ?_⟩
        constructor
        · intro h; omega
        · intro h
          exfalso
          obtain ⟨i, hi', rfl⟩ := List.getElem_of_mem hy
          rw [List.length_take] at hi'
          rw [List.getElem_take] at hyu
          have hp := List.pairwise_iff_getElem.1 (List.pairwise_map.1 h.one) i j (by omega) hlt (by omega)
          exact hp (by rw [hyu, hu])
      · rw [if_neg c, w64 ((j : Int) + 1) (by omega) (by omega), show ((j : Int) + 1) = ((j + 1 : Nat) : Int) by omega, Int.toNat_natCast]
        have hn : ∀ y ∈ D.take j, y / 2 ≠ D[j] / 2 := fun y hy e => c ((hm u).2 ⟨y, hy, by rw [e, hu]⟩)
        refine ih k (j + 1) _ (by omega) (by omega) (by rw [List.length_set]; exact hh) (take_lits hlt hL g hn) (fun w => ?_)
        rw [rdB_set has u w (by omega), hm w, List.take_succ_eq_append_getElem hlt]
        constructor
        · rintro (rfl | ⟨y, hy, e⟩)
          · exact ⟨D[j], List.mem_append.2 (Or.inr (List.mem_singleton.2 rfl)), hu⟩
          · exact ⟨y, List.mem_append.2 (Or.inl hy), e⟩
        · rintro ⟨y, hy, e⟩
          rcases List.mem_append.1 hy with hy | hy
          · exact Or.inr ⟨y, hy, e⟩
          · rw [List.mem_singleton.1 hy, hu] at e
            exact Or.inl (by omega)
/-- The check of an assignment without levels. -/
theorem acheck_eq (k : Nat) (v : Int) (D : List Int) (hi : I64 D) (hl : D.length ≤ 100000) (hk : D.length + 5 < k) : ∃ e, assign_Check.f k v D [] = some e ∧ (e = 0 ∨ e = 8) ∧ (e = 0 ↔ okV v = true ∧ Lits v D) := by
  obtain ⟨k, rfl⟩ : ∃ m, k = m + 1 := ⟨k - 1, by omega⟩
  unfold assign_Check.f
  by_cases c : okV v = true
  · have c' := (okV_iff v).1 c
    rw [if_neg (by omega), decide_eq_false (by omega)]
    simp only [assign_Check.j0]
    rw [if_neg (by decide), w64 (v + 1) (by omega) (by omega), if_pos (by omega), if_pos (by omega)]
    obtain ⟨e, h1, h2, h3⟩ := acheck_l0 v D c'.1 c'.2 hi hl D.length k 0 (List.replicate (v + 1).toNat false) (by omega) (by omega) (by simp; omega) ⟨by simp, by simp⟩ (fun u => by
      constructor
      · intro h; exact absurd h (rdB_none _ u)
      · rintro ⟨x, hx, _⟩; simp at hx)
    exact ⟨e, h1, h2, by rw [h3]; simp [c]⟩
  · have c' : ¬ (0 ≤ v ∧ v ≤ 4000) := fun h => c ((okV_iff v).2 h)
    refine ⟨8, ?_, Or.inr rfl, by simp [c]⟩
    by_cases d : v < 0
    · rw [if_pos d]; simp only [assign_Check.j0]; rw [if_pos trivial]
    · rw [if_neg d, decide_eq_true (by omega)]; simp only [assign_Check.j0]; rw [if_pos trivial]
theorem is14_eq (v x : Int) (D : List Int) (hx : 0 ≤ x ∧ x ≤ 100000) (hl : D.length ≤ 100000) (d : Nat) : ∀ (k j : Nat), j + d = D.length → d < k →
    ∃ e, spiritlevelref14_Is.l0 k x (j : Int) v D [] = some e ∧ (e = 2 ↔ ∀ y ∈ D.drop j, y / 2 ≠ x / 2) := by
  induction d with
  | zero =>
    intro k j hj hk
    obtain ⟨k, rfl⟩ : ∃ m, k = m + 1 := ⟨k - 1, by omega⟩
    refine ⟨2, ?_, by rw [List.drop_of_length_le (by omega)]; simp⟩
    simp only [spiritlevelref14_Is.l0]
    rw [if_neg (by omega)]
  | succ d ih =>
    intro k j hj hk
    obtain ⟨k, rfl⟩ : ∃ m, k = m + 1 := ⟨k - 1, by omega⟩
    have hlt : j < D.length := by omega
    simp only [spiritlevelref14_Is.l0]
    rw [if_pos (by omega), if_pos (by omega), rd_at D j hlt, not13_eq x hx.1 hx.2, Option.bind_some, List.drop_eq_getElem_cons hlt]
    by_cases c : D[j] = x
    · refine ⟨1, by rw [if_pos c], ?_⟩
      constructor
      · intro h; omega
      · intro h; exact absurd (by rw [c]) (h D[j] List.mem_cons_self)
    · rw [if_neg c]
      by_cases e : D[j] = notI x
      · refine ⟨0, by rw [if_pos e], ?_⟩
        constructor
        · intro h; omega
        · intro h; exact absurd (by rw [e, var_notI]) (h D[j] List.mem_cons_self)
      · rw [if_neg e, w64 ((j : Int) + 1) (by omega) (by omega), show ((j : Int) + 1) = ((j + 1 : Nat) : Int) by omega]
        obtain ⟨r, h1, h2⟩ := ih k (j + 1) (by omega) (by omega)
        refine ⟨r, h1, ?_⟩
        rw [h2]
        constructor
        · intro h y hy
          rcases List.mem_cons.1 hy with rfl | hy
          · intro q
            rcases notI_var x _ q.symm with q | q
            · exact c q
            · exact e q
          · exact h y hy
        · intro h y hy; exact h y (List.mem_cons_of_mem _ hy)
theorem check14_l0 (v : Int) (D : List Int) (h0 : 0 ≤ v) (h1 : v ≤ 4000) (hl : D.length ≤ 100000) (d : Nat) : ∀ (k j : Nat), j + d = D.length → D.length + d + 3 < k → Lits v (D.take j) →
    ∃ e, spiritlevelref14_Check.l0 k (j : Int) v D [] = some e ∧ (e = 0 ∨ e = 8) ∧ (e = 0 ↔ Lits v D) := by
  induction d with
  | zero =>
    intro k j hj hk hL
    obtain ⟨k, rfl⟩ : ∃ m, k = m + 1 + 1 := ⟨k - 2, by omega⟩
    rw [List.take_of_length_le (by omega)] at hL
    refine ⟨0, ?_, Or.inl rfl, by simp [hL]⟩
    simp only [spiritlevelref14_Check.l0, spiritlevelref14_Check.l1]
    rw [if_neg (by omega), if_neg (by simp)]
  | succ d ih =>
    intro k j hj hk hL
    obtain ⟨k, rfl⟩ : ∃ m, k = m + 1 := ⟨k - 1, by omega⟩
    have hlt : j < D.length := by omega
    simp only [spiritlevelref14_Check.l0]
    rw [if_pos (by omega), if_pos (by omega), rd_at D j hlt, rlit_eq v _ h0 h1, Option.bind_some]
    cases g : litOk v D[j] with
    | false =>
      refine ⟨8, by rw [if_neg (by decide)], Or.inr rfl, ?_⟩
      constructor
      · intro h; omega
      · intro h
        have := h.ok _ (List.getElem_mem hlt)
        rw [g] at this
        exact absurd this (by decide)
    | true =>
      have g2 := (litOk_iff v _).1 g
      rw [if_pos rfl, if_pos (by omega), Int.toNat_natCast]
      unfold spiritlevelref14_Is.f
      obtain ⟨r, r1, r2⟩ := is14_eq 0 D[j] (D.take j) (by omega) (by rw [List.length_take]; omega) (D.take j).length k 0 (by omega) (by rw [List.length_take]; omega)
      rw [show spiritlevelref14_Is.l0 k D[j] 0 0 (D.take j) [] = some r from r1, Option.bind_some]
      rw [List.drop_zero] at r2
      by_cases c : r = 2
      · rw [if_pos c, w64 ((j : Int) + 1) (by omega) (by omega), show ((j : Int) + 1) = ((j + 1 : Nat) : Int) by omega]
        exact ih k (j + 1) (by omega) (by omega) (take_lits hlt hL g (r2.1 c))
      · refine ⟨8, by rw [if_neg c], Or.inr rfl, ?_⟩
        constructor
        · intro h; omega
        · intro h
          exfalso
          refine c (r2.2 fun y hy e => ?_)
          obtain ⟨i, hi', rfl⟩ := List.getElem_of_mem hy
          rw [List.length_take] at hi'
          rw [List.getElem_take] at e
          exact List.pairwise_iff_getElem.1 (List.pairwise_map.1 h.one) i j (by omega) hlt (by omega) e
theorem check14_eq (k : Nat) (v : Int) (D : List Int) (hl : D.length ≤ 100000) (hk : 2 * D.length + 5 < k) : ∃ e, spiritlevelref14_Check.f k v D [] = some e ∧ (e = 0 ∨ e = 8) ∧ (e = 0 ↔ okV v = true ∧ Lits v D) := by
  obtain ⟨k, rfl⟩ : ∃ m, k = m + 1 := ⟨k - 1, by omega⟩
  unfold spiritlevelref14_Check.f
  rw [rvars13_eq, Option.bind_some]
  by_cases c : okV v = true
  · have c' := (okV_iff v).1 c
    rw [if_pos c]
    by_cases d : (D.length : Int) > v
    · refine ⟨8, by rw [if_pos d]; simp only [spiritlevelref14_Check.j0]; rw [if_pos trivial], Or.inr rfl, ?_⟩
      constructor
      · intro h; omega
      · intro h
        have := h.2.len c'.1
        omega
    · rw [if_neg d, decide_eq_false (by simp)]
      simp only [spiritlevelref14_Check.j0]
      rw [if_neg (by decide)]
      obtain ⟨e, h1, h2, h3⟩ := check14_l0 v D c'.1 c'.2 hl D.length k 0 (by omega) (by omega) ⟨by simp, by simp⟩
      exact ⟨e, h1, h2, by rw [h3]; simp [c]⟩
  · rw [if_neg c]
    exact ⟨8, by simp only [spiritlevelref14_Check.j0]; rw [if_pos trivial], Or.inr rfl, by simp [c]⟩

/-- The values of literals. -/
structure Vals (v : Int) (H : List Int) (w : List Int) : Prop where
  len : (w.length : Int) = 2 * v + 2
  at1 : ∀ x, litOk v x = true → rd w x = if x ∈ H then 1 else if notI x ∈ H then 0 else 2
theorem rdI_set (l : List Int) (u : Nat) (a : Int) (x : Int) (h : u < l.length) (h0 : 0 ≤ x) : rd (l.set u a) x = if x = (u : Int) then a else rd l x := by
  obtain ⟨w, rfl⟩ := Int.eq_ofNat_of_zero_le h0
  unfold rd
  rw [Int.toNat_natCast, List.getD_eq_getElem?_getD, List.getD_eq_getElem?_getD]
  by_cases c : u = w
  · subst c
    rw [if_pos rfl, List.getElem?_set_self h]
    rfl
  · rw [if_neg (by omega), List.getElem?_set_ne c]
/-- A literal more becomes true. -/
theorem vals_add {v : Int} {H w : List Int} (h0 : 0 ≤ v) (h1 : v ≤ 4000) (hH : Lits v H) (hw : Vals v H w) {x : Int} (hx : litOk v x = true) (hn1 : x ∉ H) (hn2 : notI x ∉ H) : Vals v (H ++ [x]) ((w.set x.toNat 1).set (notI x).toNat 0) := by
  have hx1 := (litOk_iff v x).1 hx
  have hx2 := (litOk_iff v _).1 (notI_lit v x hx)
  have hlen := hw.len
  refine ⟨by rw [List.length_set, List.length_set]; exact hlen, fun y hy => ?_⟩
  have hy1 := (litOk_iff v y).1 hy
  rw [rdI_set _ _ _ _ (by rw [List.length_set]; omega) (by omega), rdI_set _ _ _ _ (by omega) (by omega), hw.at1 y hy, show (((notI x).toNat : Nat) : Int) = notI x by omega, show ((x.toNat : Nat) : Int) = x by omega]
  by_cases c : y = notI x
  · subst c
    have : notI x ∉ H ++ [x] := by
      rw [List.mem_append, List.mem_singleton]
      rintro (h | h)
      · exact hn2 h
      · exact notI_ne x h
    rw [if_pos rfl, if_neg this, if_pos (by rw [notI_notI]; simp)]
  · rw [if_neg c]
    by_cases d : y = x
    · subst d
      rw [if_pos rfl, if_pos (by simp)]
    · rw [if_neg d]
      have e1 : y ∈ H ++ [x] ↔ y ∈ H := by rw [List.mem_append, List.mem_singleton]; simp [d]
      have e2 : notI y ∈ H ++ [x] ↔ notI y ∈ H := by
        rw [List.mem_append, List.mem_singleton]
        constructor
        · rintro (h | h)
          · exact h
          · exact absurd (by rw [← h, notI_notI]) c
        · exact Or.inl
      simp only [e1, e2]
theorem values_l1 (v : Int) (D : List Int) (h0 : 0 ≤ v) (h1 : v ≤ 4000) (hD : Lits v D) (hl : D.length ≤ 100000) (d : Nat) : ∀ (k j : Nat) (w : List Int), j + d = D.length → d < k → Vals v (D.take j) w →
    ∃ w', unit_values.l1 k w D (D.length : Int) (j : Int) = some w' ∧ Vals v D w' := by
  induction d with
  | zero =>
    intro k j w hj hk hw
    obtain ⟨k, rfl⟩ : ∃ m, k = m + 1 := ⟨k - 1, by omega⟩
    rw [List.take_of_length_le (by omega)] at hw
    refine ⟨w, ?_, hw⟩
    simp only [unit_values.l1]
    rw [if_neg (by omega)]
  | succ d ih =>
    intro k j w hj hk hw
    obtain ⟨k, rfl⟩ : ∃ m, k = m + 1 := ⟨k - 1, by omega⟩
    have hlt : j < D.length := by omega
    have g := hD.ok _ (List.getElem_mem hlt)
    have g1 := (litOk_iff v _).1 g
    have g2 := (litOk_iff v _).1 (notI_lit v _ g)
    have hlen := hw.len
    simp only [unit_values.l1]
    rw [if_pos (by omega), if_pos (by omega), if_pos (by omega), rd_at D j hlt, bxorN _ (by omega) (by omega), if_pos (by omega), if_pos (by omega), if_pos (by omega), if_pos (by omega), w64 ((j : Int) + 1) (by omega) (by omega), show ((j : Int) + 1) = ((j + 1 : Nat) : Int) by omega]
    have hp : ∀ y ∈ D.take j, y / 2 ≠ D[j] / 2 := fun y hy e => by
      obtain ⟨i, hi', rfl⟩ := List.getElem_of_mem hy
      rw [List.length_take] at hi'
      rw [List.getElem_take] at e
      exact List.pairwise_iff_getElem.1 (List.pairwise_map.1 hD.one) i j (by omega) hlt (by omega) e
    refine ih k (j + 1) _ (by omega) (by omega) ?_
    rw [List.take_succ_eq_append_getElem hlt]
    exact vals_add h0 h1 (hD.sub (List.take_sublist j D)) hw g (fun h => hp _ h rfl) (fun h => hp _ h (var_notI _))
theorem values_l0 (v : Int) (D : List Int) (h0 : 0 ≤ v) (h1 : v ≤ 4000) (hD : Lits v D) (hl : D.length ≤ 100000) (N : Nat) (hN : (N : Int) = 2 * v + 2) (d : Nat) : ∀ (k j : Nat), j + d = N → d + D.length + 1 < k →
    ∃ w', unit_values.l0 k (List.replicate j 2 ++ List.replicate (N - j) 0) (N : Int) (j : Int) v D [] = some w' ∧ Vals v D w' := by
  induction d with
  | zero =>
    intro k j hj hk
    obtain ⟨k, rfl⟩ : ∃ m, k = m + 1 := ⟨k - 1, by omega⟩
    simp only [unit_values.l0]
    have hjN : j = N := by omega
    subst hjN
    rw [if_neg (by omega), Nat.sub_self, List.replicate_zero, List.append_nil]
    refine values_l1 v D h0 h1 hD hl D.length k 0 _ (by omega) (by omega) ⟨by simp [hN], fun x hx => ?_⟩
    have hx1 := (litOk_iff v x).1 hx
    obtain ⟨u, rfl⟩ := Int.eq_ofNat_of_zero_le (show 0 ≤ x by omega)
    rw [rd_at _ u (by simp; omega)]
    simp
  | succ d ih =>
    intro k j hj hk
    obtain ⟨k, rfl⟩ : ∃ m, k = m + 1 := ⟨k - 1, by omega⟩
    simp only [unit_values.l0]
    rw [if_pos (by omega), if_pos (by omega), if_pos (by simp; omega), w64 ((j : Int) + 1) (by omega) (by omega), show ((j : Int) + 1) = ((j + 1 : Nat) : Int) by omega, Int.toNat_natCast]
    have e : (List.replicate j (2 : Int) ++ List.replicate (N - j) 0).set j 2 = List.replicate (j + 1) 2 ++ List.replicate (N - (j + 1)) 0 := by
      rw [List.set_append_right _ _ (by simp), List.length_replicate, Nat.sub_self, show N - j = (N - (j + 1)) + 1 by omega, List.replicate_succ, List.set_cons_zero, List.replicate_succ', List.append_assoc]
      rfl
    rw [e]
    exact ih k (j + 1) (by omega) (by omega)
theorem values15_eq (k : Nat) (v : Int) (D : List Int) (h0 : 0 ≤ v) (h1 : v ≤ 4000) (hD : Lits v D) (hl : D.length ≤ 100000) (hk : 8010 + D.length < k) : ∃ w, unit_values.f k v D [] = some w ∧ Vals v D w := by
  unfold unit_values.f
  rw [w64 (2 * v) (by omega) (by omega), w64 (2 * v + 2) (by omega) (by omega), if_pos (by omega), if_pos (by omega), Option.bind_some, List.length_replicate]
  obtain ⟨N, hN⟩ := Int.eq_ofNat_of_zero_le (show 0 ≤ 2 * v + 2 by omega)
  rw [hN, Int.toNat_natCast]
  have := values_l0 v D h0 h1 hD hl N (by omega) N k 0 (by omega) (by omega)
  simpa using this
/-- The state of a clause. -/
def stateV (w c : List Int) : Int × Int := if c.any (fun y => decide (rd w y = 1)) = true then (1, 0) else
  match c.filter (fun y => decide (rd w y = 2)) with
  | [] => (0, 0)
  | [x] => (3, x)
  | _ => (2, 0)
theorem state_l0 (v : Int) (w c : List Int) (h0 : 0 ≤ v) (hw : (w.length : Int) = 2 * v + 2) (hc : ∀ x ∈ c, litOk v x = true) (hl : c.length ≤ 100000) (d : Nat) : ∀ (k j : Nat), j + d = c.length → d < k → (c.take j).any (fun y => decide (rd w y = 1)) = false →
    unit_state.l0 k w (((c.take j).filter (fun y => decide (rd w y = 2))).getLastD 0) (((c.take j).filter (fun y => decide (rd w y = 2))).length : Int) c (c.length : Int) (j : Int) = some (stateV w c) := by
  induction d with
  | zero =>
    intro k j hj hk ht
    obtain ⟨k, rfl⟩ : ∃ m, k = m + 1 := ⟨k - 1, by omega⟩
    rw [List.take_of_length_le (by omega)] at ht ⊢
    simp only [unit_state.l0]
    rw [if_neg (by omega)]
    unfold stateV
    rw [ht, if_neg (show ¬ (false = true) by decide)]
    generalize c.filter (fun y => decide (rd w y = 2)) = F
    match F with
    | [] => rfl
    | [x] => rfl
    | x :: y :: F =>
      rw [if_neg (by simp; omega), if_neg (by simp; omega)]
  | succ d ih =>
    intro k j hj hk ht
    obtain ⟨k, rfl⟩ : ∃ m, k = m + 1 := ⟨k - 1, by omega⟩
    have hlt : j < c.length := by omega
    have g := (litOk_iff v _).1 (hc _ (List.getElem_mem hlt))
    have hF : ((c.take j).filter (fun y => decide (rd w y = 2))).length ≤ c.length := Nat.le_trans (List.length_filter_le _ _) (by rw [List.length_take]; omega)
    have hi := ih k (j + 1) (by omega) (by omega)
    rw [List.take_succ_eq_append_getElem hlt, List.any_append, List.filter_append, ht, Bool.false_or] at hi
    simp only [List.any_cons, List.any_nil, Bool.or_false] at hi
    simp only [unit_state.l0]
    rw [if_pos (by omega), if_pos (by omega), if_pos (by omega), rd_at c j hlt, if_pos (by omega), if_pos (by omega), w64 ((j : Int) + 1) (by omega) (by omega), show ((j : Int) + 1) = ((j + 1 : Nat) : Int) by omega]
    by_cases e1 : rd w c[j] = 1
    · rw [if_pos e1]
      unfold stateV
      rw [if_pos (List.any_eq_true.2 ⟨c[j], List.getElem_mem hlt, decide_eq_true e1⟩)]
    · rw [if_neg e1]
      have hi := hi (decide_eq_false e1)
      by_cases e2 : rd w c[j] = 2
      · rw [if_pos e2, w64 _ (by omega) (by omega)]
        simp only [List.filter_cons, List.filter_nil, decide_eq_true e2, if_true, List.getLastD_concat, List.length_append, List.length_singleton] at hi
        simpa using hi
      · rw [if_neg e2]
        simp only [List.filter_cons, List.filter_nil, decide_eq_false e2] at hi
        simpa using hi
theorem state_eq (k : Nat) (v : Int) (w c : List Int) (h0 : 0 ≤ v) (hw : (w.length : Int) = 2 * v + 2) (hc : ∀ x ∈ c, litOk v x = true) (hl : c.length ≤ 100000) (hk : c.length < k) : unit_state.f k w c = some (stateV w c) := by
  have := state_l0 v w c h0 hw hc hl c.length k 0 (by omega) hk (by simp)
  simpa [unit_state.f] using this
theorem next_l0 (v : Int) (w : List Int) (L : List (List Int)) (h0 : 0 ≤ v) (hw : (w.length : Int) = 2 * v + 2) (hL : ∀ c ∈ L, ∀ x ∈ c, litOk v x = true) (hc : ∀ c ∈ L, c.length ≤ 1000) (hl : L.length ≤ 20000) (d : Nat) : ∀ (k j : Nat) (lit : Int), j + d = L.length → d + 1001 < k → (∀ c ∈ L.take j, (stateV w c).1 ≠ 0) → (lit = 0 → ∀ c ∈ L.take j, (stateV w c).1 ≠ 3) → (lit ≠ 0 → ∃ c ∈ L, stateV w c = (3, lit)) →
    ∃ at' lit', unit_next.l0 k w lit L (L.length : Int) (j : Int) = some (at', lit') ∧ ((0 ≤ at' ∧ lit' = 0 ∧ ∃ c ∈ L, (stateV w c).1 = 0) ∨ (at' = -1 ∧ (∀ c ∈ L, (stateV w c).1 ≠ 0) ∧ (lit' = 0 → ∀ c ∈ L, (stateV w c).1 ≠ 3) ∧ (lit' ≠ 0 → ∃ c ∈ L, stateV w c = (3, lit')))) := by
  induction d with
  | zero =>
    intro k j lit hj hk h1 h2 h3
    obtain ⟨k, rfl⟩ : ∃ m, k = m + 1 := ⟨k - 1, by omega⟩
    rw [List.take_of_length_le (by omega)] at h1 h2
    refine ⟨-1, lit, ?_, Or.inr ⟨rfl, h1, h2, h3⟩⟩
    simp only [unit_next.l0]
    rw [if_neg (by omega)]
  | succ d ih =>
    intro k j lit hj hk h1 h2 h3
    obtain ⟨k, rfl⟩ : ∃ m, k = m + 1 := ⟨k - 1, by omega⟩
    have hlt : j < L.length := by omega
    have hm := List.getElem_mem hlt
    simp only [unit_next.l0]
    rw [if_pos (by omega), if_pos (by omega), if_pos (by omega), rdLL_at L j hlt, state_eq k v w L[j] h0 hw (hL _ hm) (Nat.le_trans (hc _ hm) (by omega)) (by have := hc _ hm; omega), Option.bind_some, w64 ((j : Int) + 1) (by omega) (by omega), show ((j : Int) + 1) = ((j + 1 : Nat) : Int) by omega]
    by_cases e0 : (stateV w L[j]).1 = 0
    · rw [if_pos e0]
      exact ⟨_, _, rfl, Or.inl ⟨by omega, rfl, L[j], hm, e0⟩⟩
    · rw [if_neg e0]
      have t1 : ∀ c ∈ L.take (j + 1), (stateV w c).1 ≠ 0 := fun c hc' => by
        rw [List.take_succ_eq_append_getElem hlt] at hc'
        rcases List.mem_append.1 hc' with h | h
        · exact h1 c h
        · rw [List.mem_singleton.1 h]; exact e0
      by_cases e3 : (stateV w L[j]).1 = 3
      · rw [if_pos e3]
        have hx : stateV w L[j] = (3, (stateV w L[j]).2) := by rw [← e3]
        have hxl : (stateV w L[j]).2 ≠ 0 := by
          intro hz
          unfold stateV at e3 hz
          by_cases a : L[j].any (fun y => decide (rd w y = 1)) = true
          · rw [if_pos a] at e3; simp at e3
          · rw [if_neg a] at e3 hz
            generalize hF : L[j].filter (fun y => decide (rd w y = 2)) = F at e3 hz
            match F, hF with
            | [], _ => simp at e3
            | [x], hF =>
              have hxm : x ∈ L[j].filter (fun y => decide (rd w y = 2)) := by rw [hF]; simp
              have := (litOk_iff v x).1 (hL _ hm x (List.mem_filter.1 hxm).1)
              have hz' : x = 0 := hz
              omega
            | x :: y :: F, _ => simp at e3
        by_cases e : lit = 0
        · rw [if_pos e]
          exact ih k (j + 1) _ (by omega) (by omega) t1 (fun h => absurd h hxl) (fun _ => ⟨L[j], hm, hx⟩)
        · rw [if_neg e]
          exact ih k (j + 1) lit (by omega) (by omega) t1 (fun h => absurd h e) h3
      · rw [if_neg e3]
        refine ih k (j + 1) lit (by omega) (by omega) t1 (fun h c hc' => ?_) h3
        rw [List.take_succ_eq_append_getElem hlt] at hc'
        rcases List.mem_append.1 hc' with h' | h'
        · exact h2 h c h'
        · rw [List.mem_singleton.1 h']; exact e3
/-- What the states of clauses say. -/
theorem vals_cases {v : Int} {H w : List Int} (hH : Lits v H) (hw : Vals v H w) {y : Int} (hy : litOk v y = true) : (rd w y = 1 ↔ y ∈ H) ∧ (rd w y = 0 ↔ notI y ∈ H) ∧ (rd w y = 1 ∨ rd w y = 0 ∨ rd w y = 2) := by
  rw [hw.at1 y hy]
  by_cases a : y ∈ H
  · rw [if_pos a]
    have := hH.not a
    simp [a, this]
  · rw [if_neg a]
    by_cases b : notI y ∈ H
    · rw [if_pos b]; simp [a, b]
    · rw [if_neg b]; simp [a, b]
theorem state_0 {v : Int} {H w c : List Int} (hH : Lits v H) (hw : Vals v H w) (hc : ∀ x ∈ c, litOk v x = true) : (stateV w c).1 = 0 ↔ ∀ y ∈ c, notI y ∈ H := by
  unfold stateV
  constructor
  · intro h y hy
    by_cases a : c.any (fun y => decide (rd w y = 1)) = true
    · rw [if_pos a] at h; simp at h
    · rw [if_neg a] at h
      generalize hF : c.filter (fun y => decide (rd w y = 2)) = F at h
      match F, hF with
      | [], hF =>
        obtain ⟨v1, v2, v3⟩ := vals_cases hH hw (hc y hy)
        rcases v3 with e | e | e
        · exact absurd (List.any_eq_true.2 ⟨y, hy, decide_eq_true e⟩) a
        · exact v2.1 e
        · have : y ∈ c.filter (fun y => decide (rd w y = 2)) := List.mem_filter.2 ⟨hy, decide_eq_true e⟩
          rw [hF] at this
          simp at this
      | [x], _ => simp at h
      | x :: y :: F, _ => simp at h
  · intro h
    have h' : ∀ y ∈ c, rd w y = 0 := fun y hy => (vals_cases hH hw (hc y hy)).2.1.2 (h y hy)
    have e1 : c.any (fun y => decide (rd w y = 1)) = false := List.any_eq_false.2 fun y hy => by rw [h' y hy]; decide
    have e2 : c.filter (fun y => decide (rd w y = 2)) = [] := List.filter_eq_nil_iff.2 fun y hy => by rw [h' y hy]; decide
    rw [e1, e2, if_neg (show ¬ (false = true) by decide)]
theorem state_3 {v : Int} {H w c : List Int} (hH : Lits v H) (hw : Vals v H w) (hc : ∀ x ∈ c, litOk v x = true) {x : Int} (h : stateV w c = (3, x)) : x ∈ c ∧ x ∉ H ∧ notI x ∉ H ∧ ∀ y ∈ c, y ≠ x → notI y ∈ H := by
  unfold stateV at h
  by_cases a : c.any (fun y => decide (rd w y = 1)) = true
  · rw [if_pos a] at h; simp at h
  · rw [if_neg a] at h
    generalize hF : c.filter (fun y => decide (rd w y = 2)) = F at h
    match F, hF with
    | [], _ => simp at h
    | [z], hF =>
      have hz : z = x := by simpa using h
      subst hz
      have hm : z ∈ c.filter (fun y => decide (rd w y = 2)) := by rw [hF]; simp
      obtain ⟨hm1, hm2⟩ := List.mem_filter.1 hm
      have hm2 := of_decide_eq_true hm2
      obtain ⟨v1, v2, v3⟩ := vals_cases hH hw (hc z hm1)
      refine ⟨hm1, fun h => by have := v1.2 h; omega, fun h => by have := v2.2 h; omega, fun y hy hn => ?_⟩
      obtain ⟨u1, u2, u3⟩ := vals_cases hH hw (hc y hy)
      rcases u3 with e | e | e
      · exact absurd (List.any_eq_true.2 ⟨y, hy, decide_eq_true e⟩) a
      · exact u2.1 e
      · have : y ∈ c.filter (fun y => decide (rd w y = 2)) := List.mem_filter.2 ⟨hy, decide_eq_true e⟩
        rw [hF, List.mem_singleton] at this
        exact absurd this hn
    | x :: y :: F, _ => simp at h
theorem state_3' {v : Int} {H w c : List Int} (hH : Lits v H) (hw : Vals v H w) (hc : ∀ x ∈ c, litOk v x = true) (hn : c.Nodup) {x : Int} (hx : x ∈ c) (h1 : x ∉ H) (h2 : notI x ∉ H) (h3 : ∀ y ∈ c, y ≠ x → notI y ∈ H) : (stateV w c).1 = 3 := by
  obtain ⟨v1, v2, v3⟩ := vals_cases hH hw (hc x hx)
  have hx2 : rd w x = 2 := by
    rcases v3 with e | e | e
    · exact absurd (v1.1 e) h1
    · exact absurd (v2.1 e) h2
    · exact e
  have h' : ∀ y ∈ c, y ≠ x → rd w y = 0 := fun y hy hn => (vals_cases hH hw (hc y hy)).2.1.2 (h3 y hy hn)
  unfold stateV
  have e1 : c.any (fun y => decide (rd w y = 1)) = false := List.any_eq_false.2 fun y hy => by
    by_cases e : y = x
    · subst e; rw [hx2]; decide
    · rw [h' y hy e]; decide
  rw [e1, if_neg (show ¬ (false = true) by decide)]
  have hF : ∀ y ∈ c.filter (fun y => decide (rd w y = 2)), y = x := fun y hy => by
    obtain ⟨m1, m2⟩ := List.mem_filter.1 hy
    by_cases e : y = x
    · exact e
    · have := h' y m1 e
      have := of_decide_eq_true m2
      omega
  have hFn : (c.filter (fun y => decide (rd w y = 2))).Nodup := hn.filter _
  have hFx : x ∈ c.filter (fun y => decide (rd w y = 2)) := List.mem_filter.2 ⟨hx, decide_eq_true hx2⟩
  generalize c.filter (fun y => decide (rd w y = 2)) = F at hF hFn hFx
  match F with
  | [] => simp at hFx
  | [z] => rfl
  | y :: z :: F =>
    have a1 := hF y (by simp)
    have a2 := hF z (by simp)
    rw [a1, a2] at hFn
    simp at hFn
/-- Run's loop tells whether there is a conflict. -/
theorem run_l1 (v : Int) (L : List (List Int)) (D : List Int) (h0 : 0 ≤ v) (h1 : v ≤ 4000) (hL : ∀ c ∈ L, (∀ x ∈ c, litOk v x = true) ∧ c.Nodup ∧ c.length ≤ 1000) (hl : L.length ≤ 20000) (d : Nat) : ∀ (k : Nat) (H w : List Int), v.toNat - H.length ≤ d → d + 22000 < k → Lits v H → Vals v H w → (∀ y ∈ D, y ∈ H) → (∀ y ∈ H, Der L D y) →
    ∃ tr at', unit_Run.l1 k L w v H [] = some (v, tr, [], at', 0) ∧ (at' ≥ 0 ↔ Conf L D) := by
  induction d with
  | zero =>
    intro k H w hd hk hH hw hDH hHD
    obtain ⟨k, rfl⟩ : ∃ m, k = m + 1 := ⟨k - 1, by omega⟩
    have hlen := hH.len h0
    obtain ⟨at', lit, hn, hcase⟩ := next_l0 v w L h0 hw.len (fun c hc => (hL c hc).1) (fun c hc => (hL c hc).2.2) hl L.length k 0 0 (by omega) (by omega) (by simp) (by simp) (by simp)
    simp only [unit_Run.l1]
    unfold unit_next.f
    rw [show (0 : Int) = ((0 : Nat) : Int) from rfl] at hn
    rw [show unit_next.l0 k w 0 L (L.length : Int) 0 = some (at', lit) from hn, Option.bind_some]
    rcases hcase with ⟨a1, a2, c, hc, hc0⟩ | ⟨a1, a2, a3, a4⟩
    · rw [if_pos a1]
      exact ⟨_, _, rfl, by simp [a1]; exact ⟨c, hc, fun y hy => hHD _ ((state_0 hH hw (hL c hc).1).1 hc0 y hy)⟩⟩
    · rw [if_neg (by omega)]
      by_cases e : lit = 0
      · rw [if_pos e]
        refine ⟨_, _, rfl, ?_⟩
        constructor
        · intro h; omega
        · intro h
          exfalso
          refine closed_conf hH hDH hHD (fun c hc => ⟨fun h => a2 c hc ((state_0 hH hw (hL c hc).1).2 h), fun x hx hy => ?_⟩) h
          by_cases m1 : x ∈ H
          · exact m1
          · by_cases m2 : notI x ∈ H
            · exfalso
              refine a2 c hc ((state_0 hH hw (hL c hc).1).2 fun y hy' => ?_)
              by_cases q : y = x
              · rw [q]; exact m2
              · exact hy y hy' q
            · exact absurd (state_3' hH hw (hL c hc).1 (hL c hc).2.1 hx m1 m2 hy) (a3 e c hc)
      · obtain ⟨c, hc, hs⟩ := a4 e
        obtain ⟨s1, s2, s3, s4⟩ := state_3 hH hw (hL c hc).1 hs
        have := (hH.add ((hL c hc).1 _ s1) s2 s3).len h0
        rw [List.length_append, List.length_singleton] at this
        omega
  | succ d ih =>
    intro k H w hd hk hH hw hDH hHD
    obtain ⟨k, rfl⟩ : ∃ m, k = m + 1 := ⟨k - 1, by omega⟩
    have hlen := hH.len h0
    obtain ⟨at', lit, hn, hcase⟩ := next_l0 v w L h0 hw.len (fun c hc => (hL c hc).1) (fun c hc => (hL c hc).2.2) hl L.length k 0 0 (by omega) (by omega) (by simp) (by simp) (by simp)
    simp only [unit_Run.l1]
    unfold unit_next.f
    rw [show unit_next.l0 k w 0 L (L.length : Int) 0 = some (at', lit) from hn, Option.bind_some]
    rcases hcase with ⟨a1, a2, c, hc, hc0⟩ | ⟨a1, a2, a3, a4⟩
    · rw [if_pos a1]
      exact ⟨_, _, rfl, by simp [a1]; exact ⟨c, hc, fun y hy => hHD _ ((state_0 hH hw (hL c hc).1).1 hc0 y hy)⟩⟩
    · rw [if_neg (by omega)]
      by_cases e : lit = 0
      · rw [if_pos e]
        refine ⟨_, _, rfl, ?_⟩
        constructor
        · intro h; omega
        · intro h
          exfalso
          refine closed_conf hH hDH hHD (fun c hc => ⟨fun h => a2 c hc ((state_0 hH hw (hL c hc).1).2 h), fun x hx hy => ?_⟩) h
          by_cases m1 : x ∈ H
          · exact m1
          · by_cases m2 : notI x ∈ H
            · exfalso
              refine a2 c hc ((state_0 hH hw (hL c hc).1).2 fun y hy' => ?_)
              by_cases q : y = x
              · rw [q]; exact m2
              · exact hy y hy' q
            · exact absurd (state_3' hH hw (hL c hc).1 (hL c hc).2.1 hx m1 m2 hy) (a3 e c hc)
      · obtain ⟨c, hc, hs⟩ := a4 e
        obtain ⟨s1, s2, s3, s4⟩ := state_3 hH hw (hL c hc).1 hs
        have gl := (hL c hc).1 _ s1
        have g1 := (litOk_iff v _).1 gl
        have g2 := (litOk_iff v _).1 (notI_lit v _ gl)
        have hwl := hw.len
        have hH' := hH.add gl s2 s3
        have hlen' := hH'.len h0
        rw [List.length_append, List.length_singleton] at hlen'
        dsimp only
        rw [if_neg e, bxorN _ (by omega) (by omega), if_pos (by omega), if_pos (by omega), if_pos (by omega), if_pos (by omega), if_pos (by omega)]
        refine ih k _ _ (by rw [List.length_append, List.length_singleton]; omega) (by omega) hH' (vals_add h0 h1 hH hw gl s2 s3) (fun y hy => by simp [hDH y hy]) (fun y hy => ?_)
        rcases List.mem_append.1 hy with hy | hy
        · exact hHD y hy
        · rw [List.mem_singleton.1 hy]
          exact der_step c hc lit s1 fun z hz hn => hHD _ (s4 z hz hn)

-- learn: the checks, and whether there is a conflict
/-- What is valid and not great. -/
structure Fit (v : Int) (L : List (List Int)) (D : List Int) : Prop where
  v0 : 0 ≤ v
  v1 : v ≤ 40
  d : Lits v D
  l : ∀ c ∈ L, goodC v c = true ∧ c.length ≤ 50
  n : L.length ≤ 65
theorem Fit.c {v : Int} {L : List (List Int)} {D : List Int} (h : Fit v L D) : ∀ c ∈ L, (∀ x ∈ c, litOk v x = true) ∧ c.Nodup ∧ c.length ≤ 1000 := fun c hc => by
  obtain ⟨h1, h2⟩ := goodC_all v c (h.l c hc).1
  exact ⟨h1, h2.imp (fun h e => by omega), by have := (h.l c hc).2; omega⟩
theorem Fit.sub {v : Int} {L : List (List Int)} {D G : List Int} (h : Fit v L D) (hs : G.Sublist D) : Fit v L G := ⟨h.v0, h.v1, h.d.sub hs, h.l, h.n⟩
theorem lit_i64 {v : Int} {D : List Int} (h0 : 0 ≤ v) (h1 : v ≤ 4000) (h : ∀ x ∈ D, litOk v x = true) : I64 D := fun x hx => by
  have := (litOk_iff v x).1 (h x hx)
  omega
theorem lcheck_l0 (v : Int) (L : List (List Int)) (hv : okV v = true) (hi : ∀ c ∈ L, I64 c ∧ c.length ≤ 1000) (hl : L.length ≤ 20000) (d : Nat) : ∀ (k j : Nat), j + d = L.length → d + 1010 < k →
    learn_check.l0 k v L (L.length : Int) (j : Int) = some (if (L.drop j).all (goodC v) = true then 0 else 8) := by
  induction d with
  | zero =>
    intro k j hj hk
    obtain ⟨k, rfl⟩ : ∃ m, k = m + 1 := ⟨k - 1, by omega⟩
    simp only [learn_check.l0]
    rw [if_neg (by omega), List.drop_of_length_le (by omega)]; rfl
  | succ d ih =>
    intro k j hj hk
    obtain ⟨k, rfl⟩ : ∃ m, k = m + 1 := ⟨k - 1, by omega⟩
    have hlt : j < L.length := by omega
    obtain ⟨i1, i2⟩ := hi _ (List.getElem_mem hlt)
    simp only [learn_check.l0]
    rw [if_pos (by omega), if_pos (by omega), if_pos (by omega), rdLL_at L j hlt, ccheck_eq k v L[j] i1 (by omega) (by omega), Option.bind_some, w64 ((j : Int) + 1) (by omega) (by omega), show ((j : Int) + 1) = ((j + 1 : Nat) : Int) by omega, ih k (j + 1) (by omega) (by omega), List.drop_eq_getElem_cons hlt, List.all_cons]
    unfold checkC
    rw [if_pos hv]
    cases g : goodC v L[j] with
    | true => rw [if_pos rfl, if_pos rfl, Bool.true_and]
    | false => rfl
theorem lcheck_eq (k : Nat) (v : Int) (L : List (List Int)) (D : List Int) (hD : I64 D) (hd : D.length ≤ 1000) (hi : ∀ c ∈ L, I64 c ∧ c.length ≤ 1000) (hl : L.length ≤ 5000) (hk : 20000 < k) :
    ∃ e, learn_check.f k v L D = some e ∧ (okV v ≠ true → e = 2) ∧ (okV v = true → ¬ Lits v D → e = 8) ∧ (okV v = true → Lits v D → e = if L.all (goodC v) = true then 0 else 8) := by
  obtain ⟨k, rfl⟩ : ∃ m, k = m + 1 := ⟨k - 1, by omega⟩
  unfold learn_check.f
  by_cases c : okV v = true
  · have c' := (okV_iff v).1 c
    rw [if_neg (by omega), decide_eq_false (by omega)]
    simp only [learn_check.j0]
    obtain ⟨e, h1, h2, h3⟩ := acheck_eq k v D hD (by omega) (by omega)
    rw [if_neg (by decide), h1, Option.bind_some]
    by_cases z : e = 0
    · have hL := (h3.1 z).2
      rw [if_pos z, if_neg (by omega)]
      have := lcheck_l0 v L c hi (by omega) L.length k 0 (by omega) (by omega)
      rw [List.drop_zero] at this
      exact ⟨_, this, fun h => absurd c h, fun _ h => absurd hL h, fun _ _ => rfl⟩
    · rw [if_neg z]
      exact ⟨8, rfl, fun h => absurd c h, fun _ _ => rfl, fun _ h => absurd (h3.2 ⟨c, h⟩) z⟩
  · have c' : ¬ (0 ≤ v ∧ v ≤ 4000) := fun h => c ((okV_iff v).2 h)
    refine ⟨2, ?_, fun _ => rfl, fun h => absurd h c, fun h => absurd h c⟩
    by_cases d : v < 0
    · rw [if_pos d]; simp only [learn_check.j0]; rw [if_pos trivial]
    · rw [if_neg d, decide_eq_true (by omega)]; simp only [learn_check.j0]; rw [if_pos trivial]
theorem wrong_l0 (v : Int) (L : List (List Int)) (hv : okV v = true) (hi : ∀ c ∈ L, c.length ≤ 1000) (hl : L.length ≤ 20000) (d : Nat) : ∀ (k j : Nat), j + d = L.length → d + 1010 < k →
    spiritlevelref15_Wrong.l0 k v L (j : Int) = some (if (L.drop j).all (goodC v) = true then 0 else 8) := by
  induction d with
  | zero =>
    intro k j hj hk
    obtain ⟨k, rfl⟩ : ∃ m, k = m + 1 := ⟨k - 1, by omega⟩
    simp only [spiritlevelref15_Wrong.l0]
    rw [if_neg (by omega), List.drop_of_length_le (by omega)]; rfl
  | succ d ih =>
    intro k j hj hk
    obtain ⟨k, rfl⟩ : ∃ m, k = m + 1 := ⟨k - 1, by omega⟩
    have hlt : j < L.length := by omega
    have i2 := hi _ (List.getElem_mem hlt)
    simp only [spiritlevelref15_Wrong.l0]
    rw [if_pos (by omega), if_pos (by omega), rdLL_at L j hlt, rcheck13_eq k v L[j] (by omega) (by omega), Option.bind_some, w64 ((j : Int) + 1) (by omega) (by omega), show ((j : Int) + 1) = ((j + 1 : Nat) : Int) by omega, ih k (j + 1) (by omega) (by omega), List.drop_eq_getElem_cons hlt, List.all_cons]
    unfold checkC
    rw [if_pos hv]
    cases g : goodC v L[j] with
    | true => rw [if_pos rfl, if_pos rfl, Bool.true_and]
    | false => rfl
theorem asked_eq (k : Nat) (v : Int) (L : List (List Int)) (D : List Int) (hd : D.length ≤ 1000) (hi : ∀ c ∈ L, c.length ≤ 1000) (hl : L.length ≤ 5000) (hk : 20000 < k) :
    ∃ e, spiritlevelref17_Asked.f k v L D = some e ∧ (okV v ≠ true → e = 2) ∧ (okV v = true → ¬ Lits v D → e = 8) ∧ (okV v = true → Lits v D → e = if L.all (goodC v) = true then 0 else 8) := by
  unfold spiritlevelref17_Asked.f
  rw [rvars13_eq, Option.bind_some]
  by_cases c : okV v = true
  · rw [if_pos c]
    obtain ⟨e, h1, h2, h3⟩ := check14_eq k v D (by omega) (by omega)
    rw [h1, Option.bind_some]
    by_cases z : e = 0
    · have hL := (h3.1 z).2
      rw [if_pos z]
      unfold spiritlevelref15_Wrong.f
      have := wrong_l0 v L c hi (by omega) L.length k 0 (by omega) (by omega)
      rw [List.drop_zero] at this
      rw [if_neg (by omega), show spiritlevelref15_Wrong.l0 k v L 0 = _ from this, Option.bind_some]
      exact ⟨_, rfl, fun h => absurd c h, fun _ h => absurd hL h, fun _ _ => rfl⟩
    · rw [if_neg z]
      exact ⟨8, rfl, fun h => absurd c h, fun _ _ => rfl, fun _ h => absurd (h3.2 ⟨c, h⟩) z⟩
  · rw [if_neg c]
    exact ⟨2, rfl, fun _ => rfl, fun h => absurd h c, fun h => absurd h c⟩
theorem run_l0 (v : Int) (L : List (List Int)) (D : List Int) (hF : Fit v L D) (d : Nat) : ∀ (k j : Nat), j + d = L.length → d + 30000 < k →
    ∃ tr at', unit_Run.l0 k L L (L.length : Int) (j : Int) v D [] = some (v, tr, [], at', 0) ∧ (at' ≥ 0 ↔ Conf L D) := by
  have h0 := hF.v0
  have h1 := hF.v1
  have hn := hF.n
  have hdl := hF.d.len h0
  induction d with
  | zero =>
    intro k j hj hk
    obtain ⟨k, rfl⟩ : ∃ m, k = m + 1 := ⟨k - 1, by omega⟩
    obtain ⟨w, w1, w2⟩ := values15_eq k v D h0 (by omega) hF.d (by omega) (by omega)
    simp only [unit_Run.l0]
    unfold slices_Clone_int_int.f
    rw [if_neg (by omega), if_pos (by omega), Option.bind_some, if_pos (by simp), Option.bind_some, w1, Option.bind_some]
    exact run_l1 v L D h0 (by omega) hF.c (by omega) 40 k D w (by omega) (by omega) hF.d w2 (fun y hy => hy) (fun y hy => der_base hy)
  | succ d ih =>
    intro k j hj hk
    obtain ⟨k, rfl⟩ : ∃ m, k = m + 1 := ⟨k - 1, by omega⟩
    have hlt : j < L.length := by omega
    obtain ⟨g1, g2⟩ := hF.l _ (List.getElem_mem hlt)
    simp only [unit_Run.l0]
    rw [if_pos (by omega), if_pos (by omega), if_pos (by omega), rdLL_at L j hlt, ccheck_eq k v L[j] (lit_i64 h0 (by omega) (hF.c _ (List.getElem_mem hlt)).1) (by omega) (by omega), Option.bind_some, w64 ((j : Int) + 1) (by omega) (by omega), show ((j : Int) + 1) = ((j + 1 : Nat) : Int) by omega]
    unfold checkC
    rw [if_pos ((okV_iff v).2 (by omega)), if_pos g1, if_pos rfl]
    exact ih k (j + 1) (by omega) (by omega)
/-- Whether there is a conflict. -/
theorem lconf_eq (k : Nat) (v : Int) (L : List (List Int)) (D : List Int) (hF : Fit v L D) (hk : 31000 < k) : ∃ b, learn_conflict.f k v L D = some b ∧ (b = true ↔ Conf L D) := by
  have h0 := hF.v0
  have h1 := hF.v1
  have hn := hF.n
  have hdl := hF.d.len h0
  obtain ⟨e, e1, e2, e3⟩ := acheck_eq k v D (lit_i64 h0 (by omega) hF.d.ok) (by omega) (by omega)
  obtain ⟨tr, at', r1, r2⟩ := run_l0 v L D hF L.length k 0 (by omega) (by omega)
  unfold learn_conflict.f unit_Run.f
  rw [e1, Option.bind_some, if_pos (e3.2 ⟨(okV_iff v).2 (by omega), hF.d⟩), if_neg (by omega), show unit_Run.l0 k L L (L.length : Int) 0 v D [] = _ from r1, Option.bind_some]
  dsimp only
  rw [if_pos rfl]
  exact ⟨_, rfl, by rw [decide_eq_true_eq]; exact r2⟩

theorem goodP_of (v : Int) : ∀ (l : List Int) (p : Int), (∀ x ∈ l, litOk v x = true) → (p :: l).Pairwise (· < ·) → adj (p :: l) = false → goodP v p l = true
  | [], _, _, _, _ => rfl
  | y :: l, p, h, hp, ha => by
    rw [List.pairwise_cons] at hp
    have hy := hp.1 y (by simp)
    rw [adj, Bool.or_eq_false_iff, decide_eq_false_iff_not] at ha
    rw [goodP, h y (by simp), decide_eq_true hy, decide_eq_true (show p / 2 ≠ y / 2 from ha.1), goodP_of v l y (fun x hx => h x (by simp [hx])) hp.2 ha.2]
    rfl
theorem goodC_of (v : Int) (c : List Int) (h : ∀ x ∈ c, litOk v x = true) (hp : c.Pairwise (· < ·)) (ha : adj c = false) : goodC v c = true := by
  cases c with
  | nil => rfl
  | cons x l => rw [goodC, h x (by simp), goodP_of v l x (fun y hy => h y (by simp [hy])) hp ha]; rfl
theorem any_mem {p : Int → Bool} {l m : List Int} (h : ∀ x, x ∈ l ↔ x ∈ m) : l.any p = m.any p := by
  rw [Bool.eq_iff_iff, List.any_eq_true, List.any_eq_true]
  exact ⟨fun ⟨x, hx, hp⟩ => ⟨x, (h x).1 hx, hp⟩, fun ⟨x, hx, hp⟩ => ⟨x, (h x).2 hx, hp⟩⟩
theorem setI_good (v : Int) (l : List Int) (h : l.all (litOk v) = true) (hc : clash l = false) : goodC v (setI l) = true :=
  goodC_of v _ (fun x hx => List.all_eq_true.1 h x ((setI_mem l x).1 hx)) (setI_inc l) (by rw [adj_clash, hc])

theorem without_l0 (l : List Int) (x : Int) (hl : l.length ≤ 100000) (d : Nat) : ∀ (k j : Nat) (out : List Int), j + d = l.length → d < k → out.length ≤ j →
    spiritlevelref13_Without.l0 k l x out (j : Int) = some (out ++ (l.drop j).filter (fun y => !decide (y = x))) := by
  induction d with
  | zero =>
    intro k j out hj hk _
    obtain ⟨k, rfl⟩ : ∃ m, k = m + 1 := ⟨k - 1, by omega⟩
    simp only [spiritlevelref13_Without.l0]
    rw [if_neg (by omega), List.drop_of_length_le (by omega), List.filter_nil, List.append_nil]
  | succ d ih =>
    intro k j out hj hk ho
    obtain ⟨k, rfl⟩ : ∃ m, k = m + 1 := ⟨k - 1, by omega⟩
    have h1 : j < l.length := by omega
    have hal : out.length < 17592186044416 := by omega
    simp only [spiritlevelref13_Without.l0]
    rw [if_pos (by omega), if_pos (by omega), rd_at l j h1, List.drop_eq_getElem_cons h1, w64 ((j : Int) + 1) (by omega) (by omega), show ((j : Int) + 1) = ((j + 1 : Nat) : Int) by omega]
    by_cases c : l[j] = x
    · rw [if_pos c, ih k (j + 1) out (by omega) (by omega) (by omega), List.filter_cons_of_neg (by simpa using c)]
    · rw [if_neg c, if_pos hal, ih k (j + 1) _ (by omega) (by omega) (by simp; omega), List.filter_cons_of_pos (by simpa using c), List.append_assoc]
      rfl
theorem without_eq (k : Nat) (l : List Int) (x : Int) (hl : l.length ≤ 100000) (hk : l.length < k) : spiritlevelref13_Without.f k l x = some (l.filter (fun y => !decide (y = x))) := by
  unfold spiritlevelref13_Without.f
  exact without_l0 l x hl l.length k 0 [] (by omega) hk (by simp)

theorem part_l0 (a b : List Int) (hla : a.length ≤ 100000) (hlb : b.length ≤ 100000) (d : Nat) : ∀ (k j : Nat), j + d = a.length → d + b.length + 1 < k →
    spiritlevelref13_Part.l0 k a b (j : Int) = some ((a.drop j).all (fun x => b.contains x)) := by
  induction d with
  | zero =>
    intro k j hj hk
    obtain ⟨k, rfl⟩ : ∃ m, k = m + 1 := ⟨k - 1, by omega⟩
    simp only [spiritlevelref13_Part.l0]
    rw [if_neg (by omega), List.drop_of_length_le (by omega)]; rfl
  | succ d ih =>
    intro k j hj hk
    obtain ⟨k, rfl⟩ : ∃ m, k = m + 1 := ⟨k - 1, by omega⟩
    have h1 : j < a.length := by omega
    simp only [spiritlevelref13_Part.l0]
    rw [if_pos (by omega), if_pos (by omega), rd_at a j h1, has13_eq k b _ hlb (by omega), Option.bind_some, w64 ((j : Int) + 1) (by omega) (by omega), show ((j : Int) + 1) = ((j + 1 : Nat) : Int) by omega, ih k (j + 1) (by omega) (by omega), List.drop_eq_getElem_cons h1, List.all_cons]
    cases b.contains a[j] <;> rfl
theorem part_eq (k : Nat) (a b : List Int) (hla : a.length ≤ 100000) (hlb : b.length ≤ 100000) (hk : a.length + b.length + 1 < k) : spiritlevelref13_Part.f k a b = some (a.all (fun x => b.contains x)) := by
  unfold spiritlevelref13_Part.f
  exact part_l0 a b hla hlb a.length k 0 (by omega) hk

-- which decisions stay
def StayR (L : List (List Int)) : List Int → List Int → List Int → Prop
  | out, [], S => S = out
  | out, x :: t, S => (Conf L (out ++ t) ∧ StayR L out t S) ∨ (¬ Conf L (out ++ t) ∧ StayR L (out ++ [x]) t S)
theorem stayR_one (L : List (List Int)) : ∀ (t out S S' : List Int), StayR L out t S → StayR L out t S' → S = S'
  | [], out, S, S', h, h' => h.trans h'.symm
  | x :: t, out, S, S', h, h' => by
    rcases h with ⟨a, h⟩ | ⟨a, h⟩ <;> rcases h' with ⟨b, h'⟩ | ⟨b, h'⟩
    · exact stayR_one L t out S S' h h'
    · exact absurd a b
    · exact absurd b a
    · exact stayR_one L t (out ++ [x]) S S' h h'
theorem stayR_sub (L : List (List Int)) : ∀ (t out S : List Int), StayR L out t S → S.Sublist (out ++ t) ∧ out.Sublist S
  | [], out, S, h => by
    have h : S = out := h
    subst h
    rw [List.append_nil]
    exact ⟨List.Sublist.refl _, List.Sublist.refl _⟩
  | x :: t, out, S, h => by
    rcases h with ⟨a, h⟩ | ⟨a, h⟩
    · obtain ⟨h1, h2⟩ := stayR_sub L t out S h
      exact ⟨h1.trans ((List.Sublist.refl out).append (List.sublist_cons_self x t)), h2⟩
    · obtain ⟨h1, h2⟩ := stayR_sub L t (out ++ [x]) S h
      rw [List.append_assoc] at h1
      exact ⟨h1, (List.sublist_append_left out [x]).trans h2⟩
theorem stayR_conf (L : List (List Int)) : ∀ (t out S : List Int), StayR L out t S → Conf L (out ++ t) → Conf L S
  | [], out, S, h, hc => by
    have h : S = out := h
    subst h
    rwa [List.append_nil] at hc
  | x :: t, out, S, h, hc => by
    rcases h with ⟨a, h⟩ | ⟨a, h⟩
    · exact stayR_conf L t out S h a
    · exact stayR_conf L t (out ++ [x]) S h (by rw [List.append_assoc]; exact hc)
/-- None can be left out. -/
theorem stayR_min (L : List (List Int)) : ∀ (t out S : List Int), StayR L out t S → (out ++ t).Nodup → ∀ x ∈ S, x ∈ out ∨ ¬ Conf L (S.filter (fun y => y != x))
  | [], out, S, h, _, x, hx => by
    have h : S = out := h
    subst h
    exact Or.inl hx
  | z :: t, out, S, h, hn, x, hx => by
    rcases h with ⟨a, h⟩ | ⟨a, h⟩
    · exact stayR_min L t out S h (hn.sublist ((List.Sublist.refl out).append (List.sublist_cons_self z t))) x hx
    · have hs := (stayR_sub L t (out ++ [z]) S h).1
      rcases stayR_min L t (out ++ [z]) S h (by rw [List.append_assoc]; exact hn) x hx with h' | h'
      · rcases List.mem_append.1 h' with h' | h'
        · exact Or.inl h'
        · rw [List.mem_singleton.1 h']
          refine Or.inr fun hc => a (conf_mono (fun _ h => h) (fun y hy => ?_) hc)
          obtain ⟨y1, y2⟩ := List.mem_filter.1 hy
          have y2 : y ≠ z := by simpa using y2
          have := hs.subset y1
          rw [List.append_assoc] at this
          rcases List.mem_append.1 this with q | q
          · exact List.mem_append.2 (Or.inl q)
          · rcases List.mem_cons.1 q with q | q
            · exact absurd q y2
            · exact List.mem_append.2 (Or.inr q)
      · exact Or.inr h'
theorem index_l0 (out t : List Int) (x : Int) (hx : x ∉ out) (hl : (out ++ x :: t).length ≤ 100000) (d : Nat) : ∀ (k j : Nat), j + d = out.length → d < k →
    slices_Index_int_int.l0 k (out ++ x :: t) x ((out ++ x :: t).length : Int) (j : Int) = some (out.length : Int) := by
  have hll : (out ++ x :: t).length = out.length + t.length + 1 := by simp; omega
  induction d with
  | zero =>
    intro k j hj hk
    obtain ⟨k, rfl⟩ : ∃ m, k = m + 1 := ⟨k - 1, by omega⟩
    have hj : j = out.length := by omega
    subst hj
    simp only [slices_Index_int_int.l0]
    rw [if_pos (by omega), if_pos (by omega), if_pos (by omega), rd_at _ out.length (by omega), List.getElem_append_right (Nat.le_refl _)]
    simp
  | succ d ih =>
    intro k j hj hk
    obtain ⟨k, rfl⟩ : ∃ m, k = m + 1 := ⟨k - 1, by omega⟩
    have hlt : j < out.length := by omega
    simp only [slices_Index_int_int.l0]
    rw [if_pos (by omega), if_pos (by omega), if_pos (by omega), rd_at _ j (by omega), List.getElem_append_left hlt, if_neg (fun h => hx (by rw [h]; exact List.getElem_mem hlt)), w64 ((j : Int) + 1) (by omega) (by omega), show ((j : Int) + 1) = ((j + 1 : Nat) : Int) by omega]
    exact ih k (j + 1) (by omega) (by omega)
theorem index_eq (k : Nat) (out t : List Int) (x : Int) (hx : x ∉ out) (hl : (out ++ x :: t).length ≤ 100000) (hk : out.length < k) : slices_Index_int_int.f k (out ++ x :: t) x = some (out.length : Int) := index_l0 out t x hx hl out.length k 0 (by omega) hk
theorem delete_eq (out t : List Int) (x : Int) (hl : (out ++ x :: t).length ≤ 100000) : slices_Delete_int_int.f (out ++ x :: t) (out.length : Int) ((out.length : Int) + 1) = some (out ++ t) := by
  have hll : (out ++ x :: t).length = out.length + t.length + 1 := by simp; omega
  unfold slices_Delete_int_int.f
  rw [if_pos ⟨by omega, by omega, by omega, by omega, by omega⟩, Int.toNat_natCast, show ((out.length : Int) + 1).toNat = out.length + 1 by omega, List.take_left, show out ++ x :: t = (out ++ [x]) ++ t by simp, List.drop_left' (by simp)]
theorem stay_l0 (v : Int) (L : List (List Int)) (D : List Int) (hD : D.length ≤ 1000) (d : Nat) : ∀ (k j : Nat) (out : List Int), j + d = D.length → 32000 < k → Fit v L (out ++ D.drop j) → out.length ≤ 1000 →
    ∃ S, StayR L out (D.drop j) S ∧ learn_Clause.l0 (k + d + 1) v L (out ++ D.drop j) D (D.length : Int) (j : Int) = learn_Clause.l1 k [] S (S.length : Int) 0 := by
  induction d with
  | zero =>
    intro k j out hj hk hF ho
    rw [List.drop_of_length_le (by omega), List.append_nil]
    refine ⟨out, rfl, ?_⟩
    simp only [learn_Clause.l0, Nat.add_zero]
    rw [if_neg (by omega)]
  | succ d ih =>
    intro k j out hj hk hF ho
    have hlt : j < D.length := by omega
    rw [List.drop_eq_getElem_cons hlt] at hF ⊢
    have hdl : (D.drop (j + 1)).length ≤ D.length := by rw [List.length_drop]; omega
    have hll : (out ++ D[j] :: D.drop (j + 1)).length ≤ 100000 := by simp only [List.length_append, List.length_cons]; omega
    have hx : D[j] ∉ out := by
      have h1 := hF.d.nodup
      rw [List.nodup_append] at h1
      exact fun h => h1.2.2 _ h _ List.mem_cons_self rfl
    have hF' : Fit v L (out ++ D.drop (j + 1)) := hF.sub ((List.Sublist.refl out).append (List.sublist_cons_self _ _))
    obtain ⟨b, b1, b2⟩ := lconf_eq (k + d + 1) v L _ hF' (by omega)
    obtain ⟨m, hm⟩ : ∃ m, m = k + d + 1 := ⟨_, rfl⟩
    rw [show k + (d + 1) + 1 = m + 1 by omega]
    rw [← hm] at b1
    simp only [learn_Clause.l0]
    unfold slices_Clone_int_int.f
    rw [if_pos (by omega), if_pos (by omega), if_pos (by omega), rd_at D j hlt, index_eq _ out _ D[j] hx hll (by omega), Option.bind_some, if_pos (by omega), Option.bind_some, w64 ((out.length : Int) + 1) (by omega) (by omega), delete_eq out _ D[j] hll, Option.bind_some, b1, Option.bind_some, w64 ((j : Int) + 1) (by omega) (by omega), show ((j : Int) + 1) = ((j + 1 : Nat) : Int) by omega]
    cases b with
    | true =>
      rw [if_pos rfl]
      obtain ⟨S, s1, s2⟩ := ih k (j + 1) out (by omega) hk hF' ho
      rw [← hm] at s2
      exact ⟨S, Or.inl ⟨b2.1 rfl, s1⟩, s2⟩
    | false =>
      rw [if_neg (by decide)]
      have e : out ++ D[j] :: D.drop (j + 1) = (out ++ [D[j]]) ++ D.drop (j + 1) := by simp
      have hol : (out ++ [D[j]]).length ≤ 1000 := by
        have h3 := hF.d.len hF.v0
        have h4 := hF.v1
        rw [List.length_append, List.length_cons] at h3
        rw [List.length_append, List.length_singleton]
        omega
      rw [e] at hF ⊢
      obtain ⟨S, s1, s2⟩ := ih k (j + 1) (out ++ [D[j]]) (by omega) hk hF hol
      rw [← hm] at s2
      exact ⟨S, Or.inr ⟨fun h => absurd (b2.2 h) (by decide), s1⟩, s2⟩
theorem clause_l1 (S : List Int) (hS : ∀ x ∈ S, 0 ≤ x ∧ x ≤ 100000) (hl : S.length ≤ 10000) (d : Nat) : ∀ (k j : Nat) (acc : List Int), j + d = S.length → d < k → acc.length + d ≤ 100000 →
    learn_Clause.l1 k acc S (S.length : Int) (j : Int) = some (sortI (acc ++ (S.drop j).map notI), 0) := by
  induction d with
  | zero =>
    intro k j acc hj hk ha
    obtain ⟨k, rfl⟩ : ∃ m, k = m + 1 := ⟨k - 1, by omega⟩
    simp only [learn_Clause.l1]
    unfold slices_Sort_int_int.f
    rw [if_neg (by omega), List.drop_of_length_le (by omega), List.map_nil, List.append_nil, if_pos (by omega), Option.bind_some]
  | succ d ih =>
    intro k j acc hj hk ha
    obtain ⟨k, rfl⟩ : ∃ m, k = m + 1 := ⟨k - 1, by omega⟩
    have hlt : j < S.length := by omega
    have hx := hS _ (List.getElem_mem hlt)
    simp only [learn_Clause.l1]
    rw [if_pos (by omega), if_pos (by omega), if_pos (by omega), if_pos (by omega), rd_at S j hlt, bxorN _ (by omega) (by omega), w64 ((j : Int) + 1) (by omega) (by omega), show ((j : Int) + 1) = ((j + 1 : Nat) : Int) by omega, ih k (j + 1) _ (by omega) (by omega) (by rw [List.length_append, List.length_singleton]; omega), List.drop_eq_getElem_cons hlt, List.map_cons, List.append_assoc]
    rfl
theorem sort_set (l : List Int) (h : l.Nodup) : sortI l = setI l := by
  refine setI_eq l (sortI l) ?_ (fun x => sortI_mem l x)
  have h1 := (sortI_inc l).and ((List.mergeSort_perm l _).nodup_iff.2 h : (sortI l).Nodup)
  exact h1.imp fun h => by omega
theorem map_not_nodup {l : List Int} (h : l.Nodup) : (l.map notI).Nodup := by
  refine List.pairwise_map.2 (h.imp fun hab e => hab (notI_inj e))
/-- The learned clause. -/
theorem lclause_eq (k : Nat) (v : Int) (L : List (List Int)) (D : List Int) (hF : Fit v L D) (hk : 40000 < k) :
    (Conf L D ∧ ∃ S, StayR L [] D S ∧ learn_Clause.f k v L D = some (setI (S.map notI), 0)) ∨ (¬ Conf L D ∧ learn_Clause.f k v L D = some ([], 6)) := by
  have h0 := hF.v0
  have h1 := hF.v1
  have hdl := hF.d.len h0
  have hn := hF.n
  obtain ⟨e, e1, -, -, e4⟩ := lcheck_eq k v L D (lit_i64 h0 (by omega) hF.d.ok) (by omega) (fun c hc => ⟨lit_i64 h0 (by omega) (hF.c c hc).1, (hF.c c hc).2.2⟩) (by omega) (by omega)
  have e5 := e4 ((okV_iff v).2 (by omega)) hF.d
  rw [if_pos (List.all_eq_true.2 fun c hc => (hF.l c hc).1)] at e5
  obtain ⟨b, b1, b2⟩ := lconf_eq k v L D hF (by omega)
  unfold learn_Clause.f
  rw [e1, Option.bind_some, if_pos e5, b1, Option.bind_some]
  cases b with
  | false =>
    rw [if_neg (by decide)]
    exact Or.inr ⟨fun h => absurd (b2.2 h) (by decide), rfl⟩
  | true =>
    obtain ⟨k', hk'⟩ : ∃ k', k = k' + D.length + 1 := ⟨k - D.length - 1, by omega⟩
    obtain ⟨S, s1, s2⟩ := stay_l0 v L D (by omega) D.length k' 0 [] (by omega) (by omega) (by rw [List.drop_zero, List.nil_append]; exact hF) (by simp)
    rw [List.drop_zero] at s1 s2
    rw [List.nil_append] at s2
    have hs := (stayR_sub L D [] S s1).1
    rw [List.nil_append] at hs
    have hSl := hs.length_le
    unfold slices_Clone_int_int.f
    rw [if_pos rfl, if_pos (by omega), Option.bind_some, hk', show learn_Clause.l0 (k' + D.length + 1) v L D D (D.length : Int) 0 = _ from s2]
    have := clause_l1 S (fun x hx => by
      have := (litOk_iff v x).1 (hF.d.ok x (hs.subset hx))
      omega) (by omega) S.length k' 0 [] (by omega) (by omega) (by simp; omega)
    rw [show learn_Clause.l1 k' [] S (S.length : Int) 0 = _ from this, List.drop_zero, List.nil_append, sort_set _ (map_not_nodup (hF.d.sub hs).nodup)]
    exact Or.inl ⟨b2.1 rfl, S, s1, rfl⟩
theorem lconflict_eq (k : Nat) (v : Int) (L : List (List Int)) (D : List Int) (hF : Fit v L D) (hk : 40000 < k) : ∃ b, learn_Conflict.f k v L D = some (b, 0) ∧ (b = true ↔ Conf L D) := by
  have h0 := hF.v0
  have h1 := hF.v1
  have hdl := hF.d.len h0
  have hn := hF.n
  obtain ⟨e, e1, -, -, e4⟩ := lcheck_eq k v L D (lit_i64 h0 (by omega) hF.d.ok) (by omega) (fun c hc => ⟨lit_i64 h0 (by omega) (hF.c c hc).1, (hF.c c hc).2.2⟩) (by omega) (by omega)
  have e5 := e4 ((okV_iff v).2 (by omega)) hF.d
  rw [if_pos (List.all_eq_true.2 fun c hc => (hF.l c hc).1)] at e5
  obtain ⟨b, b1, b2⟩ := lconf_eq k v L D hF (by omega)
  unfold learn_Conflict.f
  rw [e1, Option.bind_some, if_pos e5, b1, Option.bind_some]
  exact ⟨b, rfl, b2⟩
/-- What is not great. -/
theorem great15_l0 (v : Int) (L : List (List Int)) (hl : L.length ≤ 9223372036854775807) (d : Nat) : ∀ (k j : Nat), j + d = min L.length 61 → 2 * d + 2 < k → (∀ c ∈ L.take j, c.length ≤ 40) →
    ∃ b, spiritlevelref15_Great.l0 k v L (j : Int) = some b ∧ (b = false → L.length ≤ 60 ∧ (v ≤ 40 ∨ v = 4001) ∧ ∀ c ∈ L, c.length ≤ 40) := by
  induction d with
  | zero =>
    intro k j hj hk hm
    obtain ⟨k, rfl⟩ : ∃ m, k = m + 1 + 1 := ⟨k - 2, by omega⟩
    have hx : spiritlevelref15_Great.l0 (k + 1 + 1) v L (j : Int) = (if (L.length : Int) > 60 then some true else if v > 40 then some (v != 4001) else some false) := by
      simp only [spiritlevelref15_Great.l0, spiritlevelref15_Great.j1]
      by_cases c : (j : Int) < (L.length : Int)
      · rw [if_pos c, decide_eq_false (by omega), if_neg (by decide)]
      · rw [if_neg c, if_neg (by decide)]
    rw [hx]
    by_cases c : (L.length : Int) > 60
    · rw [if_pos c]; exact ⟨true, rfl, by simp⟩
    · rw [if_neg c]
      rw [List.take_of_length_le (by omega)] at hm
      by_cases e : v > 40
      · rw [if_pos e]
        refine ⟨_, rfl, fun h => ⟨by omega, Or.inr ?_, hm⟩⟩
        simpa using h
      · rw [if_neg e]; exact ⟨false, rfl, fun _ => ⟨by omega, Or.inl (by omega), hm⟩⟩
  | succ d ih =>
    intro k j hj hk hm
    obtain ⟨k, rfl⟩ : ∃ m, k = m + 1 + 1 := ⟨k - 2, by omega⟩
    have hlt : j < L.length := by omega
    simp only [spiritlevelref15_Great.l0, spiritlevelref15_Great.j1]
    rw [if_pos (by omega), decide_eq_true (by omega), if_pos rfl, if_pos (by omega), if_pos (by omega), rdLL_at L j hlt]
    by_cases c : ((L[j]).length : Int) > 40
    · rw [if_pos c]; exact ⟨true, rfl, by simp⟩
    · rw [if_neg c, w64 ((j : Int) + 1) (by omega) (by omega), show ((j : Int) + 1) = ((j + 1 : Nat) : Int) by omega]
      refine ih k (j + 1) (by omega) (by omega) (fun c' hc => ?_)
      rw [List.take_succ_eq_append_getElem hlt] at hc
      rcases List.mem_append.1 hc with hc | hc
      · exact hm c' hc
      · rw [List.mem_singleton.1 hc]; omega
theorem great17_eq (k : Nat) (v : Int) (L : List (List Int)) (D : List Int) (hl : L.length ≤ 9223372036854775807) (hk : 200 < k) : ∃ b, spiritlevellaw17_great.f k v L D = some b ∧ (b = false → L.length ≤ 60 ∧ (v ≤ 40 ∨ v = 4001) ∧ (∀ c ∈ L, c.length ≤ 40) ∧ D.length ≤ 50) := by
  obtain ⟨b, h1, h2⟩ := great15_l0 v L hl (min L.length 61) k 0 (by omega) (by omega) (by simp)
  unfold spiritlevellaw17_great.f spiritlevelref15_Great.f
  rw [show spiritlevelref15_Great.l0 k v L 0 = _ from h1, Option.bind_some]
  cases b with
  | true => rw [if_pos rfl]; exact ⟨true, rfl, by simp⟩
  | false =>
    rw [if_neg (by decide)]
    obtain ⟨a1, a2, a3⟩ := h2 rfl
    refine ⟨_, rfl, fun h => ⟨a1, a2, a3, ?_⟩⟩
    have := of_decide_eq_false h
    omega

-- the examples, and what fits
theorem conf_of {v : Int} {L : List (List Int)} {D : List Int} (hF : Fit v L D) {b : Bool} (h : learn_conflict.f 60 v L D = some b) : b = true ↔ Conf L D := by
  have up : ∀ d, learn_conflict.f (60 + d) v L D = some b := fun d => by
    induction d with
    | zero => exact h
    | succ d ih => exact learn_conflict.mono v L D (60 + d) _ ih
  obtain ⟨c, c1, c2⟩ := lconf_eq (60 + 31000) v L D hF (by omega)
  have := c1.symm.trans (up 31000)
  rw [← Option.some.inj this]
  exact c2
theorem clash_lits {v : Int} {S : List Int} (h : Lits v S) : clash (S.map notI) = false := by
  refine List.any_eq_false.2 fun x hx => ?_
  rw [List.contains_iff_mem]
  intro hn
  obtain ⟨y, hy, rfl⟩ := List.mem_map.1 hx
  obtain ⟨z, hz, e⟩ := List.mem_map.1 hn
  have := notI_inj e
  subst this
  exact h.not hy hz
theorem learned_good {v : Int} {S : List Int} (h : Lits v S) : goodC v (setI (S.map notI)) = true := by
  refine setI_good v _ (List.all_eq_true.2 fun x hx => ?_) (clash_lits h)
  obtain ⟨y, hy, rfl⟩ := List.mem_map.1 hx
  exact notI_lit v y (h.ok y hy)
theorem learns_eq (k : Nat) (L : List (List Int)) (D S want : List Int) (hF : Fit 4 L D) (hc : Conf L D) (hs : StayR L [] D S) (hw : want.Pairwise (· < ·)) (he : ∀ x, x ∈ want ↔ x ∈ S.map notI) (hk : 40000 < k) (hl : want.length ≤ 1000) : spiritlevellaw17_learns.f k L D want = some true := by
  unfold spiritlevellaw17_learns.f
  rcases lclause_eq k 4 L D hF hk with ⟨-, S', s1, s2⟩ | ⟨c, -⟩
  · have := stayR_one L D [] S S' hs s1
    subst this
    rw [s2, Option.bind_some, ← setI_eq (S.map notI) want hw he]
    dsimp only
    rw [if_pos rfl, same13_eq k _ _ (by omega) (by omega), Option.bind_some, decide_eq_true rfl]
  · exact absurd hc c
theorem fit4 (L : List (List Int)) (D : List Int) (h1 : L.all (fun c => goodC 4 c && decide (c.length ≤ 50)) = true) (h2 : L.length ≤ 65) (h3 : D.all (litOk 4) = true) (h4 : (D.map (· / 2)).Nodup) : Fit 4 L D :=
  ⟨by omega, by omega, ⟨List.all_eq_true.1 h3, h4⟩, fun c hc => by
    have := List.all_eq_true.1 h1 c hc
    rw [Bool.and_eq_true, decide_eq_true_eq] at this
    exact this, h2⟩
theorem al17 (k : Nat) (hk : 41000 < k) : spiritlevellaw17_alive.f k = some true := by
  unfold spiritlevellaw17_alive.f spiritlevellaw17_alive_t.f
  have e1 : spiritlevellaw17_learns.f k [[3, 4], [5, 6], [3, 7]] [8, 2] [3] = some true := by
    have f1 : Fit 4 [[3, 4], [5, 6], [3, 7]] [8, 2] := fit4 _ _ (by decide) (by decide) (by decide) (by decide)
    have f2 : Fit 4 [[3, 4], [5, 6], [3, 7]] [2] := fit4 _ _ (by decide) (by decide) (by decide) (by decide)
    have f3 : Fit 4 [[3, 4], [5, 6], [3, 7]] [] := fit4 _ _ (by decide) (by decide) (by decide) (by decide)
    have c1 := (conf_of f1 (b := true) (by decide +kernel)).1 rfl
    have c2 := (conf_of f2 (b := true) (by decide +kernel)).1 rfl
    have c3 : ¬ Conf [[3, 4], [5, 6], [3, 7]] [] := fun h => absurd ((conf_of f3 (b := false) (by decide +kernel)).2 h) (by decide)
    exact learns_eq k _ _ [2] [3] f1 c1 (Or.inl ⟨c2, Or.inr ⟨c3, rfl⟩⟩) (by decide) (fun x => Iff.rfl) (by omega) (by decide)
  have e2 : spiritlevellaw17_learns.f k [[3, 5], [3, 4, 7]] [2, 6] [3, 7] = some true := by
    have f1 : Fit 4 [[3, 5], [3, 4, 7]] [2, 6] := fit4 _ _ (by decide) (by decide) (by decide) (by decide)
    have f2 : Fit 4 [[3, 5], [3, 4, 7]] [6] := fit4 _ _ (by decide) (by decide) (by decide) (by decide)
    have f3 : Fit 4 [[3, 5], [3, 4, 7]] [2] := fit4 _ _ (by decide) (by decide) (by decide) (by decide)
    have c1 := (conf_of f1 (b := true) (by decide +kernel)).1 rfl
    have c2 : ¬ Conf [[3, 5], [3, 4, 7]] [6] := fun h => absurd ((conf_of f2 (b := false) (by decide +kernel)).2 h) (by decide)
    have c3 : ¬ Conf [[3, 5], [3, 4, 7]] [2] := fun h => absurd ((conf_of f3 (b := false) (by decide +kernel)).2 h) (by decide)
    exact learns_eq k _ _ [2, 6] [3, 7] f1 c1 (Or.inr ⟨c2, Or.inr ⟨c3, rfl⟩⟩) (by decide) (fun x => Iff.rfl) (by omega) (by decide)
  rw [e1, Option.bind_some, if_pos rfl, e2]
  rfl
theorem fit17_eq (k : Nat) (v : Int) (L : List (List Int)) (D : List Int) (hl : L.length ≤ 9223372036854775807) (hk : 21000 < k) : ∃ b, spiritlevellaw17_fit.f k v L D = some b ∧ (b = true → Fit v L D ∧ L.length ≤ 60 ∧ (∀ c ∈ L, c.length ≤ 40) ∧ D.length ≤ 50) := by
  unfold spiritlevellaw17_fit.f
  obtain ⟨b, b1, b2⟩ := great17_eq k v L D hl (by omega)
  rw [b1, Option.bind_some]
  cases b with
  | true => rw [if_pos rfl]; exact ⟨false, rfl, by simp⟩
  | false =>
    obtain ⟨g1, g2, g3, g4⟩ := b2 rfl
    obtain ⟨f, f1, f2, f3, f4⟩ := asked_eq k v L D (by omega) (fun c hc => by have := g3 c hc; omega) (by omega) (by omega)
    rw [if_neg (by decide), f1, Option.bind_some]
    refine ⟨_, rfl, fun h => ?_⟩
    have z : f = 0 := by simpa using h
    have hok : okV v = true := by
      by_cases c : okV v = true
      · exact c
      · have := f2 c; omega
    have hok' := (okV_iff v).1 hok
    have hlit : Lits v D := by
      by_cases c : Lits v D
      · exact c
      · have := f3 hok c; omega
    have hall : L.all (goodC v) = true := by
      by_cases c : L.all (goodC v) = true
      · exact c
      · have := f4 hok hlit
        rw [if_neg c] at this
        omega
    exact ⟨⟨hok'.1, by omega, hlit, fun c hc => ⟨List.all_eq_true.1 hall c hc, by have := g3 c hc; omega⟩, by omega⟩, g1, g3, g4⟩

theorem lits_of {v : Int} {S G : List Int} (h : Lits v S) (hn : G.Nodup) (hG : ∀ x ∈ G, x ∈ S) : Lits v G := by
  refine ⟨fun x hx => h.ok x (hG x hx), List.pairwise_map.2 ?_⟩
  refine List.pairwise_iff_getElem.2 fun i j hi hj hij e => ?_
  have e' := h.inj (hG _ (List.getElem_mem hi)) (hG _ (List.getElem_mem hj)) e
  exact List.pairwise_iff_getElem.1 hn i j hi hj hij e'
theorem fit_more {v : Int} {L : List (List Int)} {D : List Int} (h : Fit v L D) (c : List Int) (hc : goodC v c = true) (hl : c.length ≤ 50) (hn : L.length ≤ 58) : Fit v (L ++ [c]) D :=
  ⟨h.v0, h.v1, h.d, fun x hx => by
    rcases List.mem_append.1 hx with hx | hx
    · exact h.l x hx
    · rw [List.mem_singleton.1 hx]; exact ⟨hc, hl⟩, by rw [List.length_append, List.length_singleton]; omega⟩
theorem conf_more {v : Int} {L : List (List Int)} {D : List Int} (h : Fit v L D) (c : List Int) (hc : goodC v c = true) (hl : c.length ≤ 50) (hn : L.length ≤ 58) (hC : Conf L D) : learn_Conflict.f 50000 v (L ++ [c]) D = some (true, 0) := by
  obtain ⟨p, p1, p2⟩ := lconflict_eq 50000 v _ _ (fit_more h c hc hl hn) (by omega)
  have := p2.2 (conf_mono (fun x hx => List.mem_append.2 (Or.inl hx)) (fun _ hx => hx) hC)
  subst this
  exact p1
theorem longer_eq {v : Int} {L : List (List Int)} {D : List Int} (h : Fit v L D) (x : Int) (hx : (Lit.int .i64 x).wf = true) (hd : D.length ≤ 50) (hC : Conf L D) : ∃ (q : Bool) (f : Int), learn_Conflict.f 50000 v L (D ++ [x]) = some (q, f) ∧ (f = 0 ∧ q = true ∨ f = 8) := by
  have h0 := h.v0
  have h1 := h.v1
  have hn := h.n
  have hv := (okV_iff v).2 ⟨h0, by omega⟩
  by_cases hL : Lits v (D ++ [x])
  · obtain ⟨p, p1, p2⟩ := lconflict_eq 50000 v L (D ++ [x]) ⟨h.v0, h.v1, hL, h.l, h.n⟩ (by omega)
    have := p2.2 (conf_mono (fun _ hx => hx) (fun y hy => List.mem_append.2 (Or.inl hy)) hC)
    exact ⟨p, 0, p1, Or.inl ⟨rfl, this⟩⟩
  · have hi : I64 (D ++ [x]) := fun y hy => by
      rcases List.mem_append.1 hy with hy | hy
      · exact lit_i64 h0 (by omega) h.d.ok y hy
      · rw [List.mem_singleton.1 hy]; exact wf_i64 hx
    obtain ⟨e, e1, -, e3, -⟩ := lcheck_eq 50000 v L (D ++ [x]) hi (by rw [List.length_append, List.length_singleton]; omega) (fun c hc => ⟨lit_i64 h0 (by omega) (h.c c hc).1, (h.c c hc).2.2⟩) (by omega) (by omega)
    have e4 := e3 hv hL
    subst e4
    refine ⟨false, 8, ?_, Or.inr rfl⟩
    unfold learn_Conflict.f
    rw [e1, Option.bind_some, if_neg (by decide)]
theorem more_pure (v : Int) (L : List (List Int)) (D : List Int) (x : Int) (m : List Int) (hl : L.length ≤ 9223372036854775807) (hx : (Lit.int .i64 x).wf = true) : ∃ (k : Nat) (b q : Bool) (e f ce : Int) (cl : List Int), spiritlevellaw17_alive.f k = some true ∧ spiritlevellaw17_fit.f k v L D = some b ∧ (b = true → L.length ≤ 60 ∧ D.length ≤ 50) ∧
    (b = true → L.length ≤ 58 → learn_Clause.f k v L D = some (cl, e) ∧ (e = 6 ∨ e = 0 ∧ learn_Conflict.f k v (L ++ [cl]) D = some (true, 0) ∧ learn_Conflict.f k v L (D ++ [x]) = some (q, f) ∧ (f = 0 ∧ q = true ∨ f = 8) ∧ (m.length ≤ 40 → spiritlevelref13_Check.f k v m = some ce ∧ (ce = 0 → learn_Conflict.f k v (L ++ [m]) D = some (true, 0))))) := by
  obtain ⟨b, b1, b2⟩ := fit17_eq 50000 v L D hl (by omega)
  cases b with
  | false => exact ⟨50000, false, false, 0, 0, 0, [], al17 _ (by omega), b1, fun h => absurd h (by decide), fun h => absurd h (by decide)⟩
  | true =>
    obtain ⟨hF, n1, -, n2⟩ := b2 rfl
    have h0 := hF.v0
    have h1 := hF.v1
    rcases lclause_eq 50000 v L D hF (by omega) with ⟨c1, S, s1, s2⟩ | ⟨c1, s2⟩
    · have hs := (stayR_sub L D [] S s1).1
      rw [List.nil_append] at hs
      have hSl := hs.length_le
      have hsl := setI_len (S.map notI)
      rw [List.length_map] at hsl
      have hgd := learned_good (hF.d.sub hs)
      obtain ⟨q, f, hq, hf⟩ := longer_eq hF x hx n2 c1
      refine ⟨50000, true, q, 0, f, checkC v m, setI (S.map notI), al17 _ (by omega), b1, fun _ => ⟨n1, n2⟩, fun _ h58 => ⟨s2, Or.inr ⟨rfl, conf_more hF _ hgd (by omega) h58 c1, hq, hf, fun h40 => ⟨rcheck13_eq 50000 v m (by omega) (by omega), fun hce => ?_⟩⟩⟩⟩
      have hm : goodC v m = true := by
        unfold checkC at hce
        rw [if_pos ((okV_iff v).2 ⟨h0, by omega⟩)] at hce
        by_cases g : goodC v m = true
        · exact g
        · rw [if_neg g] at hce; exact absurd hce (by decide)
      exact conf_more hF m hm (by omega) h58 c1
    · exact ⟨50000, true, false, 6, 0, 0, [], al17 _ (by omega), b1, fun _ => ⟨n1, n2⟩, fun _ _ => ⟨s2, Or.inl rfl⟩⟩
theorem learnMore_all (a0 : Int) (A1 : Option Addr) (c1 : Nat) (l1 : List (List Int)) (A2 : Option Addr) (c2 : Nat) (l2 : List Int) (a3 : Int) (A4 : Option Addr) (c4 : Nat) (l4 : List Int) (w : World) (hr1 : Kd.C (Kd.slice 3 (Kd.int .i64)) w A1 l1.length l1) (hc1 : l1.length ≤ c1) (hr2 : Kd.C (Kd.int .i64) w A2 l2.length l2) (hc2 : l2.length ≤ c2) (hr4 : Kd.C (Kd.int .i64) w A4 l4.length l4) (hc4 : l4.length ≤ c4) (ok0 : (Lit.int .i64 a0).wf = true) (ok1 : l1.length ≤ 9223372036854775807 ∧ l1.length * 24 ≤ 140737488351232 ∧ ∀ x0_ ∈ l1, x0_.length ≤ 9223372036854775807 ∧ x0_.length * 8 ≤ 140737488351232 ∧ ∀ x1_ ∈ x0_, (Lit.int .i64 x1_).wf = true) (ok2 : l2.length ≤ 9223372036854775807 ∧ l2.length * 8 ≤ 140737488351232 ∧ ∀ x0_ ∈ l2, (Lit.int .i64 x0_).wf = true) (ok3 : (Lit.int .i64 a3).wf = true) (ok4 : l4.length ≤ 9223372036854775807 ∧ l4.length * 8 ≤ 140737488351232 ∧ ∀ x0_ ∈ l4, (Lit.int .i64 x0_).wf = true) :
    Calls Try.prog 5 #[.int .i64 a0, .slice A1 l1.length c1, .slice A2 l2.length c2, .int .i64 a3, .slice A4 l4.length c4] w fun e w' => e = .returned (.bool true) ∧ Below w.heap.size w w' := by
  obtain ⟨k, b, q, e, f, ce, cl, h0, h1, h2, h3⟩ := more_pure a0 l1 l2 a3 l4 ok1.1 ok3
  exact more_walk k b q a0 e f ce cl A1 c1 l1 A2 c2 l2 a3 A4 c4 l4 w hr1 hc1 hr2 hc2 hr4 hc4 h0 h1 h2 h3
end Go.Proofs.Ytcopolpepodceaa.Pure
