/- No ternary state is there twice, each one is the next one of the one before, and the next one of the last one is one of them; for every circuit that is not great. -/
import Derived.Test.YtmcdanpecajklaaQTernsimOncex13
namespace Go.Proofs.Ytmcdanpecajklaa.Pure
open Go.RowKit Go.Proofs.Ytmcdanpecajklaa.QTernsimOnce Go.Proofs.YtmcdanpecajklaaW.PrintWords Go.Proofs.YtmcdanpecajklaaW.PrintLast
set_option linter.unusedSimpArgs false
set_option linter.unusedVariables false
theorem w64 (n : Int) (h : -9223372036854775808 ≤ n) (h2 : n ≤ 9223372036854775807) : wrap64 n = n := by unfold wrap64; omega
theorem rd_at (l : List Int) (j : Nat) (h : j < l.length) : rd l (j : Int) = l[j] := by simp [rd, List.getD, h]
theorem wf_i64 {x : Int} (h : (Lit.int .i64 x).wf = true) : -9223372036854775808 ≤ x ∧ x ≤ 9223372036854775807 := by
  simp [Lit.wf, IntKind.min, IntKind.max, IntKind.signed, IntKind.bits] at h
  omega
theorem wf_u8 {x : Int} (h : (Lit.int .u8 x).wf = true) : 0 ≤ x ∧ x ≤ 255 := by
  simp [Lit.wf, IntKind.min, IntKind.max, IntKind.signed, IntKind.bits] at h
  omega
theorem band1 (a : Int) (h0 : 0 ≤ a) (h1 : a < 9223372036854775807) : Go.bits .and .i64 a 1 = a % 2 := by
  have := bits_mask .i64 63 (by decide) (fun n h h' => by rw [IntKind.wrap_i64]; omega) 1 (by decide) a h0 (by omega)
  simpa using this

-- for a print without the reference's Both and Other
def bothS (a b : Int) : Int := if a = 0 ∨ b = 0 then 0 else if a = 2 ∨ b = 2 then 2 else 1
def otherS (a : Int) : Int := if a = 2 then 2 else 1 - a

-- ref02: what the reference of layer 2 and gates.Check come to, for circuits that are not great
def litOut (n l : Int) : Bool := decide (l < 0) || decide (l / 2 > n)
def latBad (n : Int) (x : S36) : Bool := litOut n x.f0 || decide (x.f1 < 0) || decide (x.f1 > 2)
def gBad (m : Int) (i : Nat) (g : S69) : Bool := decide (g.f1 < 0) || decide (g.f0 < g.f1) || decide (g.f0 / 2 > m + i)
def gsBad (m : Int) (l : List S69) : Bool := (List.range l.length).any fun i => gBad m i (rd_T69 l i)
def szS (a : Int) (l1 : List S36) (l2 : List S69) : Int := a + l1.length + l2.length
def checkR (a : Int) (l1 : List S36) (l2 : List S69) (l3 l4 : List Int) : Int :=
  if a < 0 then 8 else if a > 1000 ∨ szS a l1 l2 > 1000 ∨ l3.length > 100 ∨ l4.length > 100 then 4
  else if l3.any (litOut (szS a l1 l2)) = true ∨ l4.any (litOut (szS a l1 l2)) = true ∨ l1.any (latBad (szS a l1 l2)) = true ∨ gsBad (a + l1.length) l2 = true then 8 else 0
/-- The lengths of a circuit that is not great. -/
structure Small (l1 : List S36) (l2 : List S69) (l3 l4 : List Int) : Prop where
  h1 : l1.length ≤ 60
  h2 : l2.length ≤ 130
  h3 : l3.length ≤ 110
  h4 : l4.length ≤ 110
/-- All numbers of a circuit are int64. -/
structure Wf (a : Int) (l1 : List S36) (l2 : List S69) (l3 l4 : List Int) : Prop where
  w0 : -9223372036854775808 ≤ a ∧ a ≤ 9223372036854775807
  w1 : ∀ x ∈ l1, (-9223372036854775808 ≤ x.f0 ∧ x.f0 ≤ 9223372036854775807) ∧ (-9223372036854775808 ≤ x.f1 ∧ x.f1 ≤ 9223372036854775807)
  w2 : ∀ x ∈ l2, (-9223372036854775808 ≤ x.f0 ∧ x.f0 ≤ 9223372036854775807) ∧ (-9223372036854775808 ≤ x.f1 ∧ x.f1 ≤ 9223372036854775807)
  w3 : ∀ x ∈ l3, -9223372036854775808 ≤ x ∧ x ≤ 9223372036854775807
  w4 : ∀ x ∈ l4, -9223372036854775808 ≤ x ∧ x ≤ 9223372036854775807
theorem great_eq (a : Int) (l1 : List S36) (l2 : List S69) (l3 l4 : List Int) :
    ∃ b, spiritlevelref02_Great.f a l1 l2 l3 l4 = some b ∧ (b = false → Small l1 l2 l3 l4 ∧ (a ≤ 40 ∨ 996 ≤ a)) := by
  unfold spiritlevelref02_Great.f
  by_cases c1 : (l1.length : Int) > 60
  · exact ⟨true, by rw [if_pos c1], by simp⟩
  by_cases c2 : (l2.length : Int) > 120
  · exact ⟨true, by rw [if_neg c1, if_pos c2], by simp⟩
  by_cases c3 : (l3.length : Int) > 110
  · exact ⟨true, by rw [if_neg c1, if_neg c2, if_pos c3], by simp⟩
  by_cases c4 : (l4.length : Int) > 110
  · exact ⟨true, by rw [if_neg c1, if_neg c2, if_neg c3, if_pos c4], by simp⟩
  by_cases c5 : a > 40
  · exact ⟨decide (a < 996), by rw [if_neg c1, if_neg c2, if_neg c3, if_neg c4, if_pos c5], fun h => ⟨⟨by omega, by omega, by omega, by omega⟩, by simp at h; omega⟩⟩
  · exact ⟨false, by rw [if_neg c1, if_neg c2, if_neg c3, if_neg c4, if_neg c5], fun _ => ⟨⟨by omega, by omega, by omega, by omega⟩, by omega⟩⟩
theorem rdL_at (l : List S36) (j : Nat) (h : j < l.length) : rd_T36 l (j : Int) = l[j] := by simp [rd_T36, List.getD, h]
theorem rdA_at (l : List S69) (j : Nat) (h : j < l.length) : rd_T69 l (j : Int) = l[j] := by simp [rd_T69, List.getD, h]
theorem gcheck_eq (a : Int) (l1 : List S36) (l2 : List S69) (l3 l4 : List Int) (hs : Small l1 l2 l3 l4) (hw : Wf a l1 l2 l3 l4) :
    gates_Check.f a l1 l2 l3 l4 = some (checkR a l1 l2 l3 l4) := by
  have hs1 := hs.h1
  have hs2 := hs.h2
  unfold gates_Check.f checkR
  congr 1
  by_cases c0 : a < 0
  · rw [if_pos c0, if_pos c0]
  rw [if_neg c0, if_neg c0]
  by_cases c1 : a > 1000
  · rw [if_pos c1, if_pos (Or.inl c1)]
  have e3 : st3 a l1.length l2.length = szS a l1 l2 + 1 := by
    unfold st3 st2 st1 szS
    rw [w64 (1 + a) (by omega) (by omega), w64 (1 + a + l1.length) (by omega) (by omega), w64 _ (by omega) (by omega)]
    omega
  have e2 : st2 a l1.length = a + l1.length + 1 := by
    unfold st2 st1
    rw [w64 (1 + a) (by omega) (by omega), w64 _ (by omega) (by omega)]
    omega
  have hz : 0 ≤ szS a l1 l2 ∧ szS a l1 l2 ≤ 1190 := by unfold szS; omega
  rw [if_neg c1, e3, w64 (szS a l1 l2 + 1 - 1) (by omega) (by omega), Int.add_sub_cancel]
  by_cases c2 : szS a l1 l2 > 1000
  · rw [if_pos c2, if_pos (Or.inr (Or.inl c2))]
  rw [if_neg c2]
  by_cases c3 : l3.length > 100 ∨ l4.length > 100
  · rw [if_pos (show (if (l3.length : Int) < (l4.length : Int) then (l4.length : Int) else (l3.length : Int)) > 100 by split <;> omega), if_pos (show a > 1000 ∨ szS a l1 l2 > 1000 ∨ l3.length > 100 ∨ l4.length > 100 by omega)]
  rw [if_neg (show ¬ (if (l3.length : Int) < (l4.length : Int) then (l4.length : Int) else (l3.length : Int)) > 100 by split <;> omega), if_neg (show ¬ (a > 1000 ∨ szS a l1 l2 > 1000 ∨ l3.length > 100 ∨ l4.length > 100) by omega)]
  have o : outS (szS a l1 l2 + 1) = litOut (szS a l1 l2) := by
    funext l
    unfold outS litOut
    congr 1
  have o2 : wrongS (szS a l1 l2 + 1) = latBad (szS a l1 l2) := by
    funext x
    unfold wrongS latBad
    rw [o]
  have o3 : gatesBad (st2 a l1.length) l2 = gsBad (a + l1.length) l2 := by
    unfold gatesBad gsBad
    rw [Bool.eq_iff_iff, List.any_eq_true, List.any_eq_true]
    have hp : ∀ i ∈ List.range l2.length, gateBad (st2 a l1.length) i (rd_T69 l2 i) = gBad (a + l1.length) i (rd_T69 l2 i) := by
      intro i hi
      rw [List.mem_range] at hi
      unfold gateBad gBad
      rw [e2, w64 (a + l1.length + 1 + i) (by omega) (by omega), w64 _ (by omega) (by omega)]
      congr 1
      exact decide_eq_decide.2 (by omega)
    constructor
    · rintro ⟨i, hi, h⟩; exact ⟨i, hi, by rw [← hp i hi]; exact h⟩
    · rintro ⟨i, hi, h⟩; exact ⟨i, hi, by rw [hp i hi]; exact h⟩
  rw [o, o2, o3]
  by_cases d3 : l3.any (litOut (szS a l1 l2)) = true
  · rw [if_pos d3, if_pos (Or.inl d3)]
  rw [if_neg d3]
  by_cases d4 : l4.any (litOut (szS a l1 l2)) = true
  · rw [if_pos d4, if_pos (Or.inr (Or.inl d4))]
  rw [if_neg d4]
  by_cases d5 : l1.any (latBad (szS a l1 l2)) = true
  · rw [if_pos d5, if_pos (Or.inr (Or.inr (Or.inl d5)))]
  rw [if_neg d5]
  by_cases d6 : gsBad (a + l1.length) l2 = true
  · rw [if_pos d6, if_pos (Or.inr (Or.inr (Or.inr d6)))]
  · rw [if_neg d6, if_neg (by simp [d3, d4, d5, d6])]

-- ref02's comparisons of equal circuits
theorem sameInts_l0 (l : List Int) (hl : l.length ≤ 100000) (d : Nat) : ∀ (k j : Nat), j + d = l.length → d < k → spiritlevelref02_SameInts.l0 k l l (j : Int) = some true := by
  induction d with
  | zero =>
    intro k j hj hk
    obtain ⟨k, rfl⟩ : ∃ m, k = m + 1 := ⟨k - 1, by omega⟩
    simp only [spiritlevelref02_SameInts.l0]
    rw [if_neg (by omega)]
  | succ d ih =>
    intro k j hj hk
    obtain ⟨k, rfl⟩ : ∃ m, k = m + 1 := ⟨k - 1, by omega⟩
    simp only [spiritlevelref02_SameInts.l0]
    rw [if_pos (by omega), if_pos (by omega), if_pos (by omega), if_pos trivial, w64 _ (by omega) (by omega), show ((j : Int) + 1) = ((j + 1 : Nat) : Int) by omega, ih k (j + 1) (by omega) (by omega)]
theorem sameInts_eq (k : Nat) (l : List Int) (hl : l.length ≤ 100000) (hk : l.length < k) : spiritlevelref02_SameInts.f k l l = some true := by
  unfold spiritlevelref02_SameInts.f
  rw [if_pos rfl]
  exact sameInts_l0 l hl l.length k 0 (by omega) hk
theorem xor_u8 (a : Int) (h0 : 0 ≤ a) (h1 : a ≤ 255) : Go.bits .xor .u8 a 1 = if a % 2 = 0 then a + 1 else a - 1 := by
  have key : ∀ n : Fin 256, Go.bits .xor .u8 ((n.val : Nat) : Int) 1 = if ((n.val : Nat) : Int) % 2 = 0 then ((n.val : Nat) : Int) + 1 else ((n.val : Nat) : Int) - 1 := by decide +kernel
  obtain ⟨n, rfl⟩ := Int.eq_ofNat_of_zero_le h0
  exact key ⟨n, by omega⟩
def coverS : List Int → List Int → Bool
  | x :: l, y :: m => (x == 2 || x == y) && coverS l m
  | _, _ => true
theorem any_te (l : List Int) : l.any teOut = !l.all (fun x => decide (x ≤ 2)) := by
  induction l with
  | nil => rfl
  | cons x l ih =>
    rw [List.any_cons, List.all_cons, ih]
    unfold teOut
    by_cases h : x ≤ 2
    · simp [h, show ¬ 2 < x by omega]
    · simp [h, show 2 < x by omega]
theorem tsame_l0 (a b : List Int) (hab : a.length = b.length) (hl : a.length ≤ 100000) (d : Nat) : ∀ (k j : Nat), j + d = a.length → d < k →
    spiritlevelref05_Same.l0 k a b (j : Int) = some (decide (a.drop j = b.drop j)) := by
  induction d with
  | zero =>
    intro k j hj hk
    obtain ⟨k, rfl⟩ : ∃ m, k = m + 1 := ⟨k - 1, by omega⟩
    simp only [spiritlevelref05_Same.l0]
    rw [if_neg (by omega), List.drop_of_length_le (by omega), List.drop_of_length_le (by omega)]; rfl
  | succ d ih =>
    intro k j hj hk
    obtain ⟨k, rfl⟩ : ∃ m, k = m + 1 := ⟨k - 1, by omega⟩
    have h1 : j < a.length := by omega
    have h2 : j < b.length := by omega
    simp only [spiritlevelref05_Same.l0]
    rw [if_pos (by omega), if_pos (by omega), if_pos (show (j : Int) < (b.length : Int) by omega), rd_at a j h1, rd_at b j h2, List.drop_eq_getElem_cons (l := a) h1, List.drop_eq_getElem_cons (l := b) h2, w64 ((j : Int) + 1) (by omega) (by omega), show ((j : Int) + 1) = ((j + 1 : Nat) : Int) by omega, ih k (j + 1) (by omega) (by omega)]
    by_cases c : a[j] = b[j]
    · rw [if_pos c, c]
      simp only [List.cons.injEq, true_and]
    · rw [if_neg c]
      have : ¬ (a[j] :: List.drop (j + 1) a = b[j] :: List.drop (j + 1) b) := fun h => c (List.cons.inj h).1
      rw [decide_eq_false this]
theorem tsame_eq (k : Nat) (a b : List Int) (hl : a.length ≤ 100000) (hk : a.length < k) : spiritlevelref05_Same.f k a b = some (decide (a = b)) := by
  unfold spiritlevelref05_Same.f
  by_cases c : a.length = b.length
  · rw [if_pos (by omega)]
    have := tsame_l0 a b c hl a.length k 0 (by omega) hk
    simpa using this
  · rw [if_neg (by omega)]
    have : a ≠ b := fun h => c (by rw [h])
    simp [this]

-- three-valued frames
def V2 (l : List Int) : Prop := ∀ x ∈ l, 0 ≤ x ∧ x ≤ 2
def valT (l : List Int) (x : Int) : Int := if x % 2 = 1 then otherS (rd l (x / 2)) else rd l (x / 2)
def frameS : List Int → List S69 → List Int
  | acc, [] => acc
  | acc, g :: gs => frameS (acc ++ [bothS (valT acc g.f0) (valT acc g.f1)]) gs
theorem bothS_rng (a b : Int) : 0 ≤ bothS a b ∧ bothS a b ≤ 2 := by unfold bothS; split <;> (try split) <;> omega
theorem otherS_rng (a : Int) (h : 0 ≤ a ∧ a ≤ 2) : 0 ≤ otherS a ∧ otherS a ≤ 2 := by unfold otherS; split <;> omega
theorem rd_rng (l : List Int) (h : V2 l) (j : Int) (h0 : 0 ≤ j) (h1 : j < l.length) : 0 ≤ rd l j ∧ rd l j ≤ 2 := by
  obtain ⟨n, rfl⟩ := Int.eq_ofNat_of_zero_le h0
  have hn : n < l.length := by omega
  rw [rd_at l n hn]
  exact h _ (List.getElem_mem hn)
theorem valT_rng (l : List Int) (h : V2 l) (x : Int) (h0 : 0 ≤ x) (h1 : x / 2 < l.length) : 0 ≤ valT l x ∧ valT l x ≤ 2 := by
  have := rd_rng l h (x / 2) (by omega) h1
  unfold valT
  split
  · exact otherS_rng _ this
  · exact this
theorem tof_eq (l : List Int) (h : V2 l) (x : Int) (h0 : 0 ≤ x) (h1 : x / 2 < l.length) (h2 : l.length ≤ 100000) : ternary_of.f l x = some (valT l x) := by
  have hr := rd_rng l h (x / 2) (by omega) h1
  unfold ternary_of.f valT
  rw [band1 x h0 (by omega)]
  by_cases c : x % 2 = 1
  · rw [if_pos c, if_pos c, if_pos (by omega), if_pos h1]
    unfold ternary_not.f otherS
    by_cases d : rd l (x / 2) = 2
    · rw [if_pos d, if_pos d, d]; rfl
    · rw [if_neg d, if_neg d, xor_u8 _ hr.1 (by omega)]
      have : rd l (x / 2) = 0 ∨ rd l (x / 2) = 1 := by omega
      rcases this with e | e <;> rw [e] <;> rfl
  · rw [if_neg c, if_neg c, if_pos (by omega), if_pos h1]
theorem tandi_eq (k : Nat) (hk : 1 ≤ k) (a b : Int) : ternary_and.f k a b = some (bothS a b) := by
  obtain ⟨k, rfl⟩ : ∃ m, k = m + 1 := ⟨k - 1, by omega⟩
  unfold ternary_and.f bothS
  by_cases c0 : a = 0
  · rw [if_pos c0, if_pos (Or.inl c0)]; simp [ternary_and.j0]
  rw [if_neg c0]
  by_cases c1 : b = 0
  · rw [if_pos (Or.inr c1)]; simp [ternary_and.j0, c1]
  rw [if_neg (show ¬ (a = 0 ∨ b = 0) by omega)]
  simp only [ternary_and.j0]
  rw [if_neg (by simpa using c1)]
  by_cases c2 : a = 2
  · rw [if_pos c2, if_pos (Or.inl c2)]
  rw [if_neg c2]
  by_cases c3 : b = 2
  · rw [if_pos c3, if_pos (Or.inr c3)]
  · rw [if_neg c3, if_neg (show ¬ (a = 2 ∨ b = 2) by omega)]
/-- The gates are in order, behind so many variables. -/
def Gates (base : Nat) (gs : List S69) : Prop := ∀ (i : Nat) (h : i < gs.length), 0 ≤ gs[i].f1 ∧ gs[i].f1 ≤ gs[i].f0 ∧ gs[i].f0 / 2 < (base + i : Nat)
theorem V2_snoc (l : List Int) (x : Int) (h : V2 l) (hx : 0 ≤ x ∧ x ≤ 2) : V2 (l ++ [x]) := by
  intro y hy
  rcases List.mem_append.1 hy with hy | hy
  · exact h y hy
  · rw [List.mem_singleton.1 hy]; exact hx
theorem all_l0 (gs : List S69) (base : Nat) (hg : Gates base gs) (hb : base + gs.length ≤ 100000) (d : Nat) : ∀ (k j : Nat) (acc : List Int), j + d = gs.length → d + 1 < k → acc.length = base + j → V2 acc →
    ternary_All.l0 k acc gs (gs.length : Int) (j : Int) = some (frameS acc (gs.drop j), 0) := by
  induction d with
  | zero =>
    intro k j acc hj hk _ _
    obtain ⟨k, rfl⟩ : ∃ m, k = m + 1 := ⟨k - 1, by omega⟩
    simp only [ternary_All.l0]
    rw [if_neg (by omega), List.drop_of_length_le (by omega)]; rfl
  | succ d ih =>
    intro k j acc hj hk ha hv
    obtain ⟨k, rfl⟩ : ∃ m, k = m + 1 := ⟨k - 1, by omega⟩
    have hlt : j < gs.length := by omega
    obtain ⟨g0, g1, g2⟩ := hg j hlt
    simp only [ternary_All.l0]
    rw [if_pos (by omega), if_pos (by omega), if_pos (by omega), rdA_at gs j hlt, List.drop_eq_getElem_cons hlt]
    rw [tof_eq acc hv _ (by omega) (by omega) (by omega), tof_eq acc hv _ g0 (by omega) (by omega)]
    simp only [Option.bind_some]
    rw [tandi_eq k (by omega)]
    simp only [Option.bind_some]
    rw [if_pos (by omega), w64 ((j : Int) + 1) (by omega) (by omega), show ((j : Int) + 1) = ((j + 1 : Nat) : Int) by omega, ih k (j + 1) _ (by omega) (by omega) (by simp; omega) (V2_snoc _ _ hv (bothS_rng _ _))]
    rfl
theorem frameS_len : ∀ (gs : List S69) (acc : List Int), (frameS acc gs).length = acc.length + gs.length
  | [], acc => rfl
  | g :: gs, acc => by rw [frameS, frameS_len gs]; simp; omega
theorem frameS_V2 : ∀ (gs : List S69) (acc : List Int), V2 acc → V2 (frameS acc gs)
  | [], acc, h => h
  | g :: gs, acc, h => by rw [frameS]; exact frameS_V2 gs _ (V2_snoc _ _ h (bothS_rng _ _))
/-- What a valid circuit gives. -/
structure Good (a : Int) (l1 : List S36) (l2 : List S69) (l3 l4 : List Int) : Prop where
  a0 : 0 ≤ a
  a1 : a ≤ 1000
  n : szS a l1 l2 ≤ 1000
  g : Gates (1 + a.toNat + l1.length) l2
  l : ∀ x ∈ l1, (0 ≤ x.f0 ∧ x.f0 / 2 ≤ szS a l1 l2) ∧ (0 ≤ x.f1 ∧ x.f1 ≤ 2)
  b : ∀ x ∈ l3, 0 ≤ x ∧ x / 2 ≤ szS a l1 l2
  c : ∀ x ∈ l4, 0 ≤ x ∧ x / 2 ≤ szS a l1 l2
theorem litOut_in {n l : Int} (h : litOut n l = false) : 0 ≤ l ∧ l / 2 ≤ n := by
  simp only [litOut, Bool.or_eq_false_iff, decide_eq_false_iff_not] at h
  omega
theorem good_of (a : Int) (l1 : List S36) (l2 : List S69) (l3 l4 : List Int) (h : checkR a l1 l2 l3 l4 = 0) : Good a l1 l2 l3 l4 := by
  unfold checkR at h
  by_cases c0 : a < 0
  · rw [if_pos c0] at h; omega
  rw [if_neg c0] at h
  by_cases c1 : a > 1000 ∨ szS a l1 l2 > 1000 ∨ l3.length > 100 ∨ l4.length > 100
  · rw [if_pos c1] at h; omega
  rw [if_neg c1] at h
  by_cases c2 : l3.any (litOut (szS a l1 l2)) = true ∨ l4.any (litOut (szS a l1 l2)) = true ∨ l1.any (latBad (szS a l1 l2)) = true ∨ gsBad (a + l1.length) l2 = true
  · rw [if_pos c2] at h; omega
  have d3 : l3.any (litOut (szS a l1 l2)) = false := by
    cases e : l3.any (litOut (szS a l1 l2)) with
    | false => rfl
    | true => exact absurd (Or.inl e) c2
  have d4 : l4.any (litOut (szS a l1 l2)) = false := by
    cases e : l4.any (litOut (szS a l1 l2)) with
    | false => rfl
    | true => exact absurd (Or.inr (Or.inl e)) c2
  have d1 : l1.any (latBad (szS a l1 l2)) = false := by
    cases e : l1.any (latBad (szS a l1 l2)) with
    | false => rfl
    | true => exact absurd (Or.inr (Or.inr (Or.inl e))) c2
  have d2 : gsBad (a + l1.length) l2 = false := by
    cases e : gsBad (a + l1.length) l2 with
    | false => rfl
    | true => exact absurd (Or.inr (Or.inr (Or.inr e))) c2
  refine ⟨by omega, by omega, by omega, ?_, ?_, ?_, ?_⟩
  · intro i hi
    have := List.any_eq_false.1 d2 i (List.mem_range.2 hi)
    rw [rdA_at l2 i hi] at this
    simp [gBad] at this
    omega
  · intro x hx
    have := List.any_eq_false.1 d1 x hx
    simp only [latBad, Bool.not_eq_true, Bool.or_eq_false_iff, decide_eq_false_iff_not] at this
    exact ⟨litOut_in this.1.1, by omega⟩
  · intro x hx
    exact litOut_in (by simpa using List.any_eq_false.1 d3 x hx)
  · intro x hx
    exact litOut_in (by simpa using List.any_eq_false.1 d4 x hx)
def le2 (l : List Int) : Bool := l.all (fun x => decide (x ≤ 2))
def askedS (a : Int) (l1 : List S36) (l2 : List S69) (l3 l4 st inp : List Int) : Int :=
  if checkR a l1 l2 l3 l4 ≠ 0 then checkR a l1 l2 l3 l4 else if st.length ≠ l1.length ∨ (inp.length : Int) ≠ a then 2 else if le2 st = true ∧ le2 inp = true then 0 else 8
theorem V2_of (l : List Int) (h0 : ∀ x ∈ l, 0 ≤ x) (h : le2 l = true) : V2 l := fun x hx => ⟨h0 x hx, by have := List.all_eq_true.1 h x hx; simpa using this⟩
theorem asked_ok {a : Int} {l1 : List S36} {l2 : List S69} {l3 l4 st inp : List Int} (h : askedS a l1 l2 l3 l4 st inp = 0) :
    checkR a l1 l2 l3 l4 = 0 ∧ st.length = l1.length ∧ (inp.length : Int) = a ∧ le2 st = true ∧ le2 inp = true := by
  unfold askedS at h
  by_cases c : checkR a l1 l2 l3 l4 = 0
  · rw [if_neg (by simpa using c)] at h
    by_cases c2 : st.length ≠ l1.length ∨ (inp.length : Int) ≠ a
    · rw [if_pos c2] at h; omega
    rw [if_neg c2] at h
    by_cases c3 : le2 st = true ∧ le2 inp = true
    · exact ⟨c, by omega, by omega, c3.1, c3.2⟩
    · rw [if_neg c3] at h; omega
  · rw [if_pos c] at h; exact absurd h c
theorem tAll_eq (k : Nat) (a : Int) (l1 : List S36) (l2 : List S69) (l3 l4 st inp : List Int) (hs : Small l1 l2 l3 l4) (hw : Wf a l1 l2 l3 l4) (h1 : ∀ x ∈ st, 0 ≤ x) (h2 : ∀ x ∈ inp, 0 ≤ x) (hk : 300 ≤ k) :
    ternary_All.f k a l1 l2 l3 l4 st inp = some (if askedS a l1 l2 l3 l4 st inp = 0 then (frameS (0 :: (inp ++ st)) l2, 0) else ([], askedS a l1 l2 l3 l4 st inp)) := by
  have hs1 := hs.h1
  have hs2 := hs.h2
  obtain ⟨k, rfl⟩ : ∃ m, k = m + 1 := ⟨k - 1, by omega⟩
  unfold ternary_All.f
  rw [gcheck_eq a l1 l2 l3 l4 hs hw]
  simp only [Option.bind_some]
  by_cases c : checkR a l1 l2 l3 l4 = 0
  · have hg := good_of a l1 l2 l3 l4 c
    have ha0 := hg.a0
    have ha1 := hg.a1
    have hn := hg.n
    rw [if_pos c]
    have bad : st.length ≠ l1.length ∨ (inp.length : Int) ≠ a → askedS a l1 l2 l3 l4 st inp = 2 := fun h => by unfold askedS; rw [if_neg (by simpa using c), if_pos h]
    have j0 : ∀ s i : List Int, ternary_All.j0 (k + 1) s i true a l1 l2 l3 l4 = some ([], 2) := fun s i => by simp [ternary_All.j0]
    by_cases c1 : st.length = l1.length
    · rw [if_pos (by omega)]
      by_cases c2 : (inp.length : Int) = a
      · have e2 : ((inp.length : Int) != a) = false := by simp [c2]
        rw [e2]
        simp only [ternary_All.j0]
        rw [if_neg (by decide)]
        have hlen : ([[0], inp, st] : List (List Int)).flatten = 0 :: (inp ++ st) := by simp
        unfold slices_Concat_uint8_uint8.f
        rw [hlen, if_pos (by simp; omega)]
        simp only [Option.bind_some]
        unfold ternary_check.f
        rw [any_te]
        have hall : (0 :: (inp ++ st)).all (fun x => decide (x ≤ 2)) = (le2 inp && le2 st) := by simp [le2]
        rw [hall]
        by_cases c3 : le2 st = true ∧ le2 inp = true
        · have e : askedS a l1 l2 l3 l4 st inp = 0 := by unfold askedS; rw [if_neg (by simpa using c), if_neg (by omega), if_pos c3]
          rw [c3.1, c3.2, if_pos e]
          simp only [Bool.and_true, Bool.not_true, Bool.false_eq_true, if_false, Option.bind_some]
          rw [if_pos trivial]
          have hv : V2 (0 :: (inp ++ st)) := by
            intro x hx
            rcases List.mem_cons.1 hx with rfl | hx
            · omega
            rcases List.mem_append.1 hx with hx | hx
            · exact V2_of inp h2 c3.2 x hx
            · exact V2_of st h1 c3.1 x hx
          have := all_l0 l2 (1 + a.toNat + l1.length) hg.g (by unfold szS at hn; omega) l2.length k 0 (0 :: (inp ++ st)) (by omega) (by omega) (by simp; omega) hv
          simpa using this
        · have e : askedS a l1 l2 l3 l4 st inp = 8 := by unfold askedS; rw [if_neg (by simpa using c), if_neg (by omega), if_neg c3]
          have f : (le2 inp && le2 st) = false := by
            cases x : le2 inp <;> cases y : le2 st <;> simp_all
          rw [f, e]
          simp
      · have e2 : ((inp.length : Int) != a) = true := by simp [c2]
        rw [e2, j0, bad (Or.inr c2)]; rfl
    · rw [if_neg (by omega), j0, bad (Or.inl c1)]; rfl
  · have e : askedS a l1 l2 l3 l4 st inp = checkR a l1 l2 l3 l4 := by unfold askedS; rw [if_pos c]
    rw [if_neg c, e, if_neg c]

theorem frame_facts {a : Int} {l1 : List S36} {l2 : List S69} {l3 l4 st inp : List Int} (hg : Good a l1 l2 l3 l4) (ls : st.length = l1.length) (li : (inp.length : Int) = a) (v1 : V2 st) (v2 : V2 inp) :
    ((frameS (0 :: (inp ++ st)) l2).length : Int) = 1 + szS a l1 l2 ∧ V2 (frameS (0 :: (inp ++ st)) l2) := by
  refine ⟨?_, ?_⟩
  · rw [frameS_len]; unfold szS; simp; omega
  · apply frameS_V2
    intro x hx
    rcases List.mem_cons.1 hx with rfl | hx
    · omega
    rcases List.mem_append.1 hx with hx | hx
    · exact v2 x hx
    · exact v1 x hx
def nextS (fr : List Int) (l1 : List S36) : List Int := l1.map fun x => valT fr x.f0
theorem next_l0 (fr : List Int) (l1 : List S36) (hv : V2 fr) (hl : ∀ x ∈ l1, 0 ≤ x.f0 ∧ x.f0 / 2 < fr.length) (hf : fr.length ≤ 100000) (h1 : l1.length ≤ 1000) (d : Nat) : ∀ (k j : Nat) (acc : List Int), j + d = l1.length → d < k → acc.length = j →
    ternary_Next.l0 k fr acc l1 (l1.length : Int) (j : Int) = some (acc ++ nextS fr (l1.drop j), 0) := by
  induction d with
  | zero =>
    intro k j acc hj hk _
    obtain ⟨k, rfl⟩ : ∃ m, k = m + 1 := ⟨k - 1, by omega⟩
    simp only [ternary_Next.l0]
    rw [if_neg (by omega), List.drop_of_length_le (by omega)]; simp [nextS]
  | succ d ih =>
    intro k j acc hj hk ha
    obtain ⟨k, rfl⟩ : ∃ m, k = m + 1 := ⟨k - 1, by omega⟩
    have hlt : j < l1.length := by omega
    obtain ⟨g0, g1⟩ := hl _ (List.getElem_mem hlt)
    simp only [ternary_Next.l0]
    rw [if_pos (by omega), if_pos (by omega), if_pos (by omega), rdL_at l1 j hlt, List.drop_eq_getElem_cons hlt, tof_eq fr hv _ g0 g1 hf]
    simp only [Option.bind_some]
    rw [if_pos (by omega), w64 ((j : Int) + 1) (by omega) (by omega), show ((j : Int) + 1) = ((j + 1 : Nat) : Int) by omega, ih k (j + 1) _ (by omega) (by omega) (by simp; omega)]
    simp only [nextS, List.map_cons, List.append_assoc, List.singleton_append]
theorem good_l {a : Int} {l1 : List S36} {l2 : List S69} {l3 l4 st inp : List Int} (hg : Good a l1 l2 l3 l4) (ls : st.length = l1.length) (li : (inp.length : Int) = a) (v1 : V2 st) (v2 : V2 inp) :
    ∀ x ∈ l1, 0 ≤ x.f0 ∧ x.f0 / 2 < (frameS (0 :: (inp ++ st)) l2).length := fun x hx => by
  have h := (hg.l x hx).1
  have f := (frame_facts hg ls li v1 v2).1
  omega
def nextA (a : Int) (l1 : List S36) (l2 : List S69) (l3 l4 st inp : List Int) : List Int × Int :=
  if askedS a l1 l2 l3 l4 st inp = 0 then (nextS (frameS (0 :: (inp ++ st)) l2) l1, 0) else ([], askedS a l1 l2 l3 l4 st inp)
theorem tNext_eq (k : Nat) (a : Int) (l1 : List S36) (l2 : List S69) (l3 l4 st inp : List Int) (hs : Small l1 l2 l3 l4) (hw : Wf a l1 l2 l3 l4) (h1 : ∀ x ∈ st, 0 ≤ x) (h2 : ∀ x ∈ inp, 0 ≤ x) (hk : 300 ≤ k) :
    ternary_Next.f k a l1 l2 l3 l4 st inp = some (nextA a l1 l2 l3 l4 st inp) := by
  have hs1 := hs.h1
  have hs2 := hs.h2
  unfold ternary_Next.f nextA
  rw [tAll_eq k a l1 l2 l3 l4 st inp hs hw h1 h2 hk]
  simp only [Option.bind_some]
  by_cases c : askedS a l1 l2 l3 l4 st inp = 0
  · obtain ⟨b0, b1, b2, b3, b4⟩ := asked_ok c
    have hg := good_of _ _ _ _ _ b0
    have ha1 := hg.a1
    have f := frame_facts hg b1 b2 (V2_of _ h1 b3) (V2_of _ h2 b4)
    have hn := hg.n
    rw [if_pos c, if_pos c, if_pos rfl]
    have := next_l0 (frameS (0 :: (inp ++ st)) l2) l1 f.2 (good_l hg b1 b2 (V2_of _ h1 b3) (V2_of _ h2 b4)) (by omega) (by omega) l1.length k 0 [] (by omega) (by omega) rfl
    simpa using this
  · rw [if_neg c, if_neg c, if_neg c]
def firstS (l1 : List S36) : List Int := l1.map fun x => x.f1
theorem first_l0 (l1 : List S36) (hl : ∀ x ∈ l1, 0 ≤ x.f1 ∧ x.f1 ≤ 2) (h1 : l1.length ≤ 1000) (d : Nat) : ∀ (k j : Nat) (acc : List Int), j + d = l1.length → d < k → acc.length = j →
    ternary_First.l0 k acc l1 (l1.length : Int) (j : Int) = some (acc ++ firstS (l1.drop j), 0) := by
  induction d with
  | zero =>
    intro k j acc hj hk _
    obtain ⟨k, rfl⟩ : ∃ m, k = m + 1 := ⟨k - 1, by omega⟩
    simp only [ternary_First.l0]
    rw [if_neg (by omega), List.drop_of_length_le (by omega)]; simp [firstS]
  | succ d ih =>
    intro k j acc hj hk ha
    obtain ⟨k, rfl⟩ : ∃ m, k = m + 1 := ⟨k - 1, by omega⟩
    have hlt : j < l1.length := by omega
    have g := hl _ (List.getElem_mem hlt)
    have hx : l1[j].f1 = 0 ∨ l1[j].f1 = 1 ∨ l1[j].f1 = 2 := by omega
    simp only [ternary_First.l0]
    rw [if_pos (by omega), if_pos (by omega), if_pos (by omega), rdL_at l1 j hlt, List.drop_eq_getElem_cons hlt, w64 ((j : Int) + 1) (by omega) (by omega), show ((j : Int) + 1) = ((j + 1 : Nat) : Int) by omega]
    have e0 := fun y => ih k (j + 1) (acc ++ [y]) (by omega) (by omega) (by simp; omega)
    have hal : acc.length < 140737488355328 := by omega
    rcases hx with e | e | e
    · rw [if_pos e, if_pos hal, e0]; simp only [firstS, List.map_cons, List.append_assoc, List.singleton_append, e]
    · rw [if_neg (by omega), if_pos e, if_pos hal, e0]; simp only [firstS, List.map_cons, List.append_assoc, List.singleton_append, e]
    · rw [if_neg (by omega), if_neg (by omega), if_pos hal, e0]; simp only [firstS, List.map_cons, List.append_assoc, List.singleton_append, e]
def firstA (a : Int) (l1 : List S36) (l2 : List S69) (l3 l4 : List Int) : List Int × Int :=
  if checkR a l1 l2 l3 l4 = 0 then (firstS l1, 0) else ([], checkR a l1 l2 l3 l4)
theorem tFirst_eq (k : Nat) (a : Int) (l1 : List S36) (l2 : List S69) (l3 l4 : List Int) (hs : Small l1 l2 l3 l4) (hw : Wf a l1 l2 l3 l4) (hk : 300 ≤ k) :
    ternary_First.f k a l1 l2 l3 l4 = some (firstA a l1 l2 l3 l4) := by
  have hs1 := hs.h1
  unfold ternary_First.f firstA
  rw [gcheck_eq a l1 l2 l3 l4 hs hw]
  simp only [Option.bind_some]
  by_cases c : checkR a l1 l2 l3 l4 = 0
  · rw [if_pos c, if_pos c]
    have := first_l0 l1 (fun x hx => ((good_of _ _ _ _ _ c).l x hx).2) (by omega) l1.length k 0 [] (by omega) (by omega) rfl
    simpa using this
  · rw [if_neg c, if_neg c]
/-- The next ternary state, with all inputs any. -/
def stepS (A : Nat) (l1 : List S36) (l2 : List S69) (s : List Int) : List Int := nextS (frameS (0 :: (List.replicate A 2 ++ s)) l2) l1
def walkS (A : Nat) (l1 : List S36) (l2 : List S69) : Nat → List (List Int) → List Int → Option (List (List Int))
  | 0, _, _ => none
  | n + 1, l, s => if l.contains s = true then some l else if l.length = 64 then none else walkS A l1 l2 n (l ++ [s]) (stepS A l1 l2 s)
/-- The ternary states; none: they are too many. -/
def statesP (A : Nat) (l1 : List S36) (l2 : List S69) : Option (List (List Int)) := walkS A l1 l2 66 [] (firstS l1)
/-- A ternary state of a circuit. -/
def St (l1 : List S36) (s : List Int) : Prop := s.length = l1.length ∧ V2 s
theorem V2_rep (A : Nat) : V2 (List.replicate A 2) := fun x hx => by rw [List.eq_of_mem_replicate hx]; omega
section
variable {A : Nat} {l1 : List S36} {l2 : List S69} {l3 l4 : List Int}
theorem first_St (hg : Good (A : Int) l1 l2 l3 l4) : St l1 (firstS l1) := by
  refine ⟨by simp [firstS], fun x hx => ?_⟩
  obtain ⟨y, hy, rfl⟩ := List.mem_map.1 hx
  exact (hg.l y hy).2
theorem step_St (hg : Good (A : Int) l1 l2 l3 l4) {s : List Int} (h : St l1 s) : St l1 (stepS A l1 l2 s) := by
  have li : ((List.replicate A (2 : Int)).length : Int) = (A : Int) := by rw [List.length_replicate]
  have hf := frame_facts hg h.1 li h.2 (V2_rep A)
  have hl := good_l hg h.1 li h.2 (V2_rep A)
  refine ⟨by simp [stepS, nextS], fun x hx => ?_⟩
  obtain ⟨y, hy, rfl⟩ := List.mem_map.1 hx
  exact valT_rng _ hf.2 _ (hl y hy).1 (hl y hy).2
theorem le2_V2 {l : List Int} (h : V2 l) : le2 l = true := List.all_eq_true.2 (fun x hx => decide_eq_true (h x hx).2)
theorem next_St (k : Nat) (hs : Small l1 l2 l3 l4) (hw : Wf (A : Int) l1 l2 l3 l4) (c : checkR (A : Int) l1 l2 l3 l4 = 0) {s : List Int} (h : St l1 s) (hk : 300 ≤ k) :
    ternary_Next.f k (A : Int) l1 l2 l3 l4 s (List.replicate A 2) = some (stepS A l1 l2 s, 0) := by
  rw [tNext_eq k _ l1 l2 l3 l4 s _ hs hw (fun x hx => (h.2 x hx).1) (fun x hx => (V2_rep A x hx).1) hk]
  have hask : askedS (A : Int) l1 l2 l3 l4 s (List.replicate A 2) = 0 := by
    unfold askedS
    rw [c, le2_V2 h.2, le2_V2 (V2_rep A)]
    simp [h.1]
  unfold nextA
  rw [if_pos hask]; rfl
theorem okU_St (hs : Small l1 l2 l3 l4) {s : List Int} (h : St l1 s) : okU s = true := by
  have := hs.h1
  unfold okU
  rw [Bool.and_eq_true, decide_eq_true_eq, List.all_eq_true]
  refine ⟨by have := h.1; omega, fun x hx => decide_eq_true (by have := h.2 x hx; omega)⟩
theorem statesL_eq (k : Nat) (hs : Small l1 l2 l3 l4) (hw : Wf (A : Int) l1 l2 l3 l4) (c : checkR (A : Int) l1 l2 l3 l4 = 0) (hk : 300 ≤ k) : ∀ (n : Nat) (l : List (List Int)) (s : List Int), l.length + n = 66 → l.length ≤ 64 → St l1 s →
    statesL k (A : Int) l1 l2 l3 l4 (List.replicate A 2) n l s = some (match walkS A l1 l2 n l s with | some t => (t, 0) | none => ([], 6))
  | 0, l, s, h, h2, _ => by omega
  | n + 1, l, s, h, h2, hS => by
    unfold statesL walkS
    rw [if_pos (okU_St hs hS)]
    by_cases c1 : l.contains s = true
    · rw [if_pos c1, if_pos c1]
    · rw [if_neg c1, if_neg c1]
      by_cases c2 : l.length = 64
      · rw [if_pos c2, if_pos c2]
      · rw [if_neg c2, if_neg c2, next_St k hs hw c hS hk, Option.bind_some]
        exact statesL_eq k hs hw c hk n (l ++ [s]) _ (by simp; omega) (by simp; omega) (step_St (good_of _ _ _ _ _ c) hS)
/-- What States returns. -/
def statesR (a : Int) (A : Nat) (l1 : List S36) (l2 : List S69) (l3 l4 : List Int) : List (List Int) × Int :=
  if checkR a l1 l2 l3 l4 = 0 then (match statesP A l1 l2 with | some t => (t, 0) | none => ([], 6)) else ([], checkR a l1 l2 l3 l4)
theorem tstates_eq (k : Nat) (a : Int) (ha : 0 ≤ a → a = (A : Int)) (hs : Small l1 l2 l3 l4) (hw : Wf a l1 l2 l3 l4) (hk : 300 ≤ k) : ternsim_States.f k a l1 l2 l3 l4 = some (statesR a A l1 l2 l3 l4) := by
  unfold ternsim_States.f statesR
  rw [tFirst_eq k a l1 l2 l3 l4 hs hw hk, Option.bind_some]
  unfold firstA
  by_cases c : checkR a l1 l2 l3 l4 = 0
  · rw [if_pos c, if_pos c, if_pos rfl]
    have hg := good_of _ _ _ _ _ c
    have hn := hg.a1
    obtain rfl := ha hg.a0
    have hr : slices_Repeat_uint8_uint8.f [2] (A : Int) = some (List.replicate A 2) := by
      unfold slices_Repeat_uint8_uint8.f
      rw [if_pos ⟨rfl, by omega, by omega⟩, Int.toNat_natCast]; rfl
    rw [hr, Option.bind_some]
    exact statesL_eq k hs hw c hk 66 [] _ rfl (by simp) (first_St hg)
  · rw [if_neg c, if_neg c, if_neg c]
theorem rdL4_at (l : List (List Int)) (j : Nat) (h : j < l.length) : rd_L4 l (j : Int) = l[j] := by simp [rd_L4, List.getD, h]
/-- What the states are like. -/
theorem walk_ok (hg : Good (A : Int) l1 l2 l3 l4) : ∀ (n : Nat) (l : List (List Int)) (s : List Int) (t : List (List Int)), walkS A l1 l2 n l s = some t → l.length ≤ 64 → (∀ x ∈ l, St l1 x) → St l1 s → (∀ x ∈ t, St l1 x) ∧ t.length ≤ 64 ∧ ∃ r, t = l ++ r
  | 0, l, s, t, h, _, _, _ => by simp [walkS] at h
  | n + 1, l, s, t, h, hl, hS, hs => by
    unfold walkS at h
    by_cases c1 : l.contains s = true
    · rw [if_pos c1] at h
      obtain rfl := Option.some.inj h
      exact ⟨hS, hl, [], by simp⟩
    · rw [if_neg c1] at h
      by_cases c2 : l.length = 64
      · rw [if_pos c2] at h; cases h
      · rw [if_neg c2] at h
        obtain ⟨h1, h2, r, h3⟩ := walk_ok hg n (l ++ [s]) _ t h (by simp; omega) (fun x hx => by
          rcases List.mem_append.1 hx with hx | hx
          · exact hS x hx
          · rw [List.mem_singleton.1 hx]; exact hs) (step_St hg hs)
        exact ⟨h1, h2, s :: r, by rw [h3]; simp⟩
theorem states_ok (hg : Good (A : Int) l1 l2 l3 l4) {t : List (List Int)} (h : statesP A l1 l2 = some t) : (∀ x ∈ t, St l1 x) ∧ t.length ≤ 64 ∧ 0 < t.length := by
  unfold statesP at h
  unfold walkS at h
  rw [if_neg (by simp), if_neg (by simp), List.nil_append] at h
  have hf := first_St hg
  obtain ⟨h1, h2, r, h3⟩ := walk_ok hg 65 [firstS l1] _ t h (by simp) (fun x hx => by rw [List.mem_singleton.1 hx]; exact hf) (step_St hg hf)
  exact ⟨h1, h2, by rw [h3]; simp⟩
end

-- the ternary states: one after the other, none twice
section
variable {A : Nat} {l1 : List S36} {l2 : List S69} {l3 l4 : List Int}
theorem walk_chain (f0 : List Int) : ∀ (n : Nat) (l : List (List Int)) (s : List Int) (t : List (List Int)), walkS A l1 l2 n l s = some t → (∀ (i : Nat) (h : i < l.length), (l ++ [s])[i + 1]? = some (stepS A l1 l2 l[i])) → (l ++ [s])[0]? = some f0 → l.Nodup → ∃ s', s' ∈ t ∧ (∀ (i : Nat) (h : i < t.length), (t ++ [s'])[i + 1]? = some (stepS A l1 l2 t[i])) ∧ (t ++ [s'])[0]? = some f0 ∧ t.Nodup
  | 0, l, s, t, h, _, _, _ => by simp [walkS] at h
  | n + 1, l, s, t, h, hc, h0, hn => by
    unfold walkS at h
    by_cases c1 : l.contains s = true
    · rw [if_pos c1] at h
      obtain rfl := Option.some.inj h
      exact ⟨s, by simpa using c1, hc, h0, hn⟩
    · rw [if_neg c1] at h
      by_cases c2 : l.length = 64
      · rw [if_pos c2] at h; cases h
      · rw [if_neg c2] at h
        have hs : s ∉ l := by simpa using c1
        refine walk_chain f0 n (l ++ [s]) _ t h (fun i hi => ?_) ?_ ?_
        · by_cases ci : i < l.length
          · rw [List.getElem?_append_left (by rw [List.length_append]; simp; omega), hc i ci, List.getElem_append_left ci]
          · have e : i = l.length := by rw [List.length_append] at hi; simp at hi; omega
            subst e
            rw [List.getElem?_append_right (by simp), List.getElem_concat_length (by rfl)]
            simp
        · rw [List.getElem?_append_left (by simp), h0]
        · exact List.nodup_append.2 ⟨hn, by simp, fun a ha b hb => by rw [List.mem_singleton.1 hb]; exact fun e => hs (e ▸ ha)⟩
theorem states_chain {t : List (List Int)} (h : statesP A l1 l2 = some t) : t[0]? = some (firstS l1) ∧ t.Nodup ∧ (∀ (i : Nat) (h : i < t.length), stepS A l1 l2 t[i] ∈ t) ∧ (∀ (i : Nat) (h : i + 1 < t.length), t[i + 1] = stepS A l1 l2 t[i]) := by
  unfold statesP at h
  obtain ⟨s', hs, hc, h0, hn⟩ := walk_chain (firstS l1) 66 [] (firstS l1) t h (fun i hi => absurd hi (by simp)) rfl (by simp)
  have hp : 0 < t.length := by
    cases t with
    | nil => simp at hs
    | cons x t => simp
  refine ⟨by rwa [List.getElem?_append_left hp] at h0, hn, fun i hi => ?_, fun i hi => ?_⟩
  · have h1 := hc i hi
    rcases Nat.lt_or_ge (i + 1) t.length with c | c
    · rw [List.getElem?_append_left c, List.getElem?_eq_getElem c] at h1
      rw [← Option.some.inj h1]; exact List.getElem_mem c
    · have e : i + 1 = t.length := by omega
      rw [e, List.getElem?_append_right (Nat.le_refl _), Nat.sub_self] at h1
      rw [← Option.some.inj h1]; exact hs
  · have h1 := hc i (by omega)
    rw [List.getElem?_append_left hi, List.getElem?_eq_getElem hi] at h1
    exact Option.some.inj h1
end

theorem al30 (k : Nat) (hk : 4000 ≤ k) : spiritlevellaw30_alive.f k = some true := by
  have h0 : spiritlevellaw30_alive.f 4000 = some true := by kernel_rfl
  obtain ⟨d, rfl⟩ : ∃ d, k = 4000 + d := ⟨k - 4000, by omega⟩
  clear hk
  induction d with
  | zero => exact h0
  | succ d ih => exact spiritlevellaw30_alive.mono _ _ ih

section
variable {A : Nat} {l1 : List S36} {l2 : List S69} {l3 l4 : List Int} {t : List (List Int)}
theorem once_l3 (hl : t.length ≤ 64) (hS : ∀ x ∈ t, x.length ≤ 1000) (inp : List Int) (i : Nat) (hi : i < t.length) (s : List Int) (hs : s.length ≤ 1000) (hn : ∀ h : i + 1 < t.length, t[i + 1] = s) (K : Nat) (hK : 2000 ≤ K) (hR : ∀ k, K ≤ k → spiritlevellaw30_TernsimOnce.l1 k true t inp ((i + 1 : Nat) : Int) (A : Int) l1 l2 l3 l4 = some true) (d : Nat) : ∀ (k j : Nat) (b : Bool), j + d = t.length → b = true ∨ s ∈ t.drop j → K + d + 2 ≤ k →
    spiritlevellaw30_TernsimOnce.l3 k true t inp (i : Int) s b (j : Int) (A : Int) l1 l2 l3 l4 = some true := by
  induction d with
  | zero =>
    intro k j b hj hb hk
    obtain ⟨k, rfl⟩ : ∃ m, k = m + 1 := ⟨k - 1, by omega⟩
    have hb2 : b = true := by
      rcases hb with h | h
      · exact h
      · rw [List.drop_of_length_le (by omega)] at h; simp at h
    simp only [spiritlevellaw30_TernsimOnce.l3]
    rw [if_neg (by omega), w64 ((i : Int) + 1) (by omega) (by omega), show ((i : Int) + 1) = ((i + 1 : Nat) : Int) by omega, hb2, if_pos rfl, hR k (by omega)]
    by_cases c : i + 1 < t.length
    · rw [if_pos (by omega), if_pos (by omega), rdL4_at t (i + 1) c, tsame_eq k _ _ (by omega) (by omega), Option.bind_some, if_pos (decide_eq_true (hn c).symm)]
    · rw [if_neg (by omega)]
  | succ d ih =>
    intro k j b hj hb hk
    obtain ⟨k, rfl⟩ : ∃ m, k = m + 1 := ⟨k - 1, by omega⟩
    have h1 : j < t.length := by omega
    simp only [spiritlevellaw30_TernsimOnce.l3]
    rw [if_pos (by omega), w64 ((j : Int) + 1) (by omega) (by omega), show ((j : Int) + 1) = ((j + 1 : Nat) : Int) by omega]
    by_cases cb : b = true
    · rw [if_pos cb]
      exact ih k (j + 1) true (by omega) (.inl rfl) (by omega)
    · rw [if_neg cb, if_pos (by omega), rdL4_at t j h1, tsame_eq k _ _ (by omega) (by omega), Option.bind_some]
      refine ih k (j + 1) _ (by omega) ?_ (by omega)
      rcases hb with h | h
      · exact absurd h cb
      · rw [List.drop_eq_getElem_cons h1] at h
        rcases List.mem_cons.1 h with h | h
        · exact .inl (decide_eq_true h)
        · exact .inr h
theorem once_l2 (hs : Small l1 l2 l3 l4) (hw : Wf (A : Int) l1 l2 l3 l4) (c : checkR (A : Int) l1 l2 l3 l4 = 0) (hl : t.length ≤ 64) (hS : ∀ x ∈ t, St l1 x) (hN : t.Nodup) (i : Nat) (hi : i < t.length) (hm : stepS A l1 l2 t[i] ∈ t) (hn : ∀ h : i + 1 < t.length, t[i + 1] = stepS A l1 l2 t[i]) (K : Nat) (hK : 2000 ≤ K) (hR : ∀ k, K ≤ k → spiritlevellaw30_TernsimOnce.l1 k true t (List.replicate A 2) ((i + 1 : Nat) : Int) (A : Int) l1 l2 l3 l4 = some true) (d : Nat) : ∀ (k j : Nat), j + d = i → K + d + 100 ≤ k →
    spiritlevellaw30_TernsimOnce.l2 k true t (List.replicate A 2) (i : Int) (j : Int) (A : Int) l1 l2 l3 l4 = some true := by
  have hs1 := hs.h1
  have hlen : ∀ x ∈ t, x.length ≤ 1000 := fun x hx => by have := (hS x hx).1; omega
  induction d with
  | zero =>
    intro k j hj hk
    obtain ⟨k, rfl⟩ : ∃ m, k = m + 1 := ⟨k - 1, by omega⟩
    simp only [spiritlevellaw30_TernsimOnce.l2]
    rw [if_neg (by omega), if_pos (by omega), if_pos (by omega), rdL4_at t i hi, next_St k hs hw c (hS _ (List.getElem_mem hi)) (by omega), Option.bind_some]
    dsimp only
    rw [if_pos rfl]
    exact once_l3 hl hlen _ i hi _ (hlen _ hm) hn K hK hR t.length k 0 false (by omega) (.inr (by simpa using hm)) (by omega)
  | succ d ih =>
    intro k j hj hk
    obtain ⟨k, rfl⟩ : ∃ m, k = m + 1 := ⟨k - 1, by omega⟩
    have h1 : j < t.length := by omega
    have hne : t[i] ≠ t[j] := fun e => by
      have hpw := List.pairwise_iff_getElem.1 hN j i h1 hi (by omega)
      exact hpw e.symm
    have hli := hlen _ (List.getElem_mem hi)
    simp only [spiritlevellaw30_TernsimOnce.l2]
    rw [if_pos (by omega), if_pos (by omega), if_pos (by omega), if_pos (by omega), if_pos (by omega), rdL4_at t i hi, rdL4_at t j h1, tsame_eq k _ _ (by omega) (by omega), Option.bind_some, decide_eq_false hne, if_neg (by decide), w64 ((j : Int) + 1) (by omega) (by omega), show ((j : Int) + 1) = ((j + 1 : Nat) : Int) by omega]
    exact ih k (j + 1) (by omega) (by omega)
theorem once_l1 (hs : Small l1 l2 l3 l4) (hw : Wf (A : Int) l1 l2 l3 l4) (c : checkR (A : Int) l1 l2 l3 l4 = 0) (hl : t.length ≤ 64) (hS : ∀ x ∈ t, St l1 x) (hN : t.Nodup) (hm : ∀ (i : Nat) (h : i < t.length), stepS A l1 l2 t[i] ∈ t) (hn : ∀ (i : Nat) (h : i + 1 < t.length), t[i + 1] = stepS A l1 l2 t[i]) (d : Nat) : ∀ (k j : Nat), j + d = t.length → 3000 + 300 * d ≤ k →
    spiritlevellaw30_TernsimOnce.l1 k true t (List.replicate A 2) (j : Int) (A : Int) l1 l2 l3 l4 = some true := by
  induction d with
  | zero =>
    intro k j hj hk
    obtain ⟨k, rfl⟩ : ∃ m, k = m + 1 := ⟨k - 1, by omega⟩
    simp only [spiritlevellaw30_TernsimOnce.l1]
    rw [if_neg (by omega)]
  | succ d ih =>
    intro k j hj hk
    obtain ⟨k, rfl⟩ : ∃ m, k = m + 1 := ⟨k - 1, by omega⟩
    have h1 : j < t.length := by omega
    obtain ⟨K, hK, hK0⟩ : ∃ K, K = 3000 + 300 * d ∧ 2000 ≤ K := ⟨_, rfl, Nat.le_trans (by decide) (Nat.le_add_right 3000 _)⟩
    simp only [spiritlevellaw30_TernsimOnce.l1]
    rw [if_pos (by omega)]
    exact once_l2 hs hw c hl hS hN j h1 (hm j h1) (hn j) K hK0 (fun k hk => ih k (j + 1) (by omega) (by omega)) j k 0 (by omega) (by omega)
theorem once_l0 (hA : A ≤ 1000) (R : Option Bool) (K : Nat) (hR : ∀ k, K ≤ k → ((ternary_First.f k (A : Int) l1 l2 l3 l4).bind fun bt => (if bt.2 = 0 then (if 0 < (t.length : Int) then ((spiritlevelref05_Same.f k bt.1 (rd_L4 t 0)).bind fun u => (spiritlevellaw30_TernsimOnce.j2 k true t (List.replicate A 2) (!u) (A : Int) l1 l2 l3 l4)) else (none)) else (spiritlevellaw30_TernsimOnce.j2 k true t (List.replicate A 2) true (A : Int) l1 l2 l3 l4))) = R) (d : Nat) : ∀ (k j : Nat), j + d = A → K + d + 1 ≤ k →
    spiritlevellaw30_TernsimOnce.l0 k true t (List.replicate j 2) (j : Int) (A : Int) l1 l2 l3 l4 = R := by
  induction d with
  | zero =>
    intro k j hj hk
    obtain ⟨k, rfl⟩ : ∃ m, k = m + 1 := ⟨k - 1, by omega⟩
    obtain rfl : j = A := by omega
    simp only [spiritlevellaw30_TernsimOnce.l0]
    rw [if_neg (by omega)]
    exact hR k (by omega)
  | succ d ih =>
    intro k j hj hk
    obtain ⟨k, rfl⟩ : ∃ m, k = m + 1 := ⟨k - 1, by omega⟩
    simp only [spiritlevellaw30_TernsimOnce.l0]
    rw [if_pos (by omega), if_pos (by rw [List.length_replicate]; omega), w64 ((j : Int) + 1) (by omega) (by omega), show ((j : Int) + 1) = ((j + 1 : Nat) : Int) by omega, ← List.replicate_succ']
    exact ih k (j + 1) (by omega) (by omega)
end
theorem TernsimOnce : spiritlevellaw30_TernsimOnce.Pure := by
  intro a l1 l2 l3 l4 w0 w1 w2 w3 w4
  have hw : Wf a l1 l2 l3 l4 := ⟨wf_i64 w0, fun x hx => ⟨wf_i64 (w1.2.2 x hx).1, wf_i64 (w1.2.2 x hx).2⟩, fun x hx => ⟨wf_i64 (w2.2.2 x hx).1, wf_i64 (w2.2.2 x hx).2⟩, fun x hx => wf_i64 (w3.2.2 x hx), fun x hx => wf_i64 (w4.2.2 x hx)⟩
  refine ⟨50001, ?_⟩
  unfold spiritlevellaw30_TernsimOnce.f
  rw [al30 50001 (by decide), Option.bind_some]
  obtain ⟨b, hb, hsm⟩ := great_eq a l1 l2 l3 l4
  rw [hb, Option.bind_some]
  cases b with
  | true => rw [if_pos rfl]; simp [spiritlevellaw30_TernsimOnce.j0]
  | false =>
    rw [if_neg (by decide)]
    obtain ⟨hs, -⟩ := hsm rfl
    have hs1 := hs.h1
    have hA : 0 ≤ a → a = (a.toNat : Int) := fun h => by omega
    simp only [spiritlevellaw30_TernsimOnce.j0]
    rw [if_neg (by decide), tstates_eq (A := a.toNat) 50000 a hA hs hw (by omega), Option.bind_some]
    unfold statesR
    by_cases c : checkR a l1 l2 l3 l4 = 0
    · rw [if_pos c]
      have hg := good_of _ _ _ _ _ c
      obtain ⟨A, hAe⟩ : ∃ A : Nat, A = a.toNat := ⟨_, rfl⟩
      have ha := hA hg.a0
      rw [← hAe] at ha ⊢
      subst ha
      have ha1 := hg.a1
      cases e : statesP A l1 l2 with
      | none => simp
      | some t =>
        obtain ⟨t1, t2, t3⟩ := states_ok hg e
        obtain ⟨c0, c1, c2, c3⟩ := states_chain e
        dsimp only
        rw [if_pos rfl, if_neg (by omega)]
        have := once_l0 (A := A) (l1 := l1) (l2 := l2) (l3 := l3) (l4 := l4) (t := t) (by omega) (some true) 40000 (fun k hk => ?_) A 50000 0 (by omega) (by omega)
        · rw [show ((0 : Nat) : Int) = 0 from rfl, List.replicate_zero] at this
          exact this
        · obtain ⟨k, rfl⟩ : ∃ m, k = m + 1 := ⟨k - 1, by omega⟩
          rw [tFirst_eq (k + 1) _ l1 l2 l3 l4 hs hw (by omega), Option.bind_some]
          unfold firstA
          rw [if_pos c]
          dsimp only
          rw [if_pos rfl, if_pos (by omega)]
          have e0 : rd_L4 t 0 = firstS l1 := by
            rw [show (0 : Int) = ((0 : Nat) : Int) from rfl, rdL4_at t 0 t3]
            rw [List.getElem?_eq_getElem t3] at c0
            exact Option.some.inj c0
          have hf := first_St hg
          rw [e0, tsame_eq (k + 1) _ _ (by have := hf.1; omega) (by have := hf.1; omega), Option.bind_some, decide_eq_true rfl]
          simp only [spiritlevellaw30_TernsimOnce.j2]
          rw [if_neg (by decide)]
          exact once_l1 hs hw c t2 t1 c1 c2 c3 t.length k 0 (by omega) (by omega)
    · rw [if_neg c]
      dsimp only
      rw [if_neg c]; simp


end Go.Proofs.Ytmcdanpecajklaa.Pure
