/- Covering is an order, and all of TeAny covers all, for all lists. No further condition. -/
import Derived.Test.YtddelmbkbpoelaaQTernaryOnex4
namespace Go.Proofs.Ytddelmbkbpoelaa.Pure
open Go.RowKit Go.Proofs.Ytddelmbkbpoelaa.QTernaryOne Go.Proofs.YtddelmbkbpoelaaW.PrintWords Go.Proofs.YtddelmbkbpoelaaW.PrintLast
set_option linter.unusedSimpArgs false
set_option linter.unusedVariables false
theorem w64 (n : Int) (h : -9223372036854775808 ≤ n) (h2 : n ≤ 9223372036854775807) : wrap64 n = n := by unfold wrap64; omega
theorem rd_at (l : List Int) (j : Nat) (h : j < l.length) : rd l (j : Int) = l[j] := by simp [rd, List.getD, h]
theorem wf_i64 {x : Int} (h : (Lit.int .i64 x).wf = true) : -9223372036854775808 ≤ x ∧ x ≤ 9223372036854775807 := by
  simp [Lit.wf, IntKind.min, IntKind.max, IntKind.signed, IntKind.bits] at h
  omega
theorem wf_u8 {x : Int} (h : (Lit.int .u8 x).wf = true) : 0 ≤ x ∧ x ≤ 255 := by
  simp [Lit.wf, IntKind.min, IntKind.max, IntKind.signed, IntKind.bits] at h
  omega
theorem band1 (a : Int) (h0 : 0 ≤ a) (h1 : a < 9223372036854775807) : Go.bits .and .i64 a 1 = a % 2 := by
  have := bits_mask .i64 63 (by decide) (fun n h h' => by rw [IntKind.wrap_i64]; omega) 1 (by decide) a h0 (by omega)
  simpa using this

-- the three-valued functions: And, Not, Covers, and the reference's
theorem xor_u8 (a : Int) (h0 : 0 ≤ a) (h1 : a ≤ 255) : Go.bits .xor .u8 a 1 = if a % 2 = 0 then a + 1 else a - 1 := by
  have key : ∀ n : Fin 256, Go.bits .xor .u8 ((n.val : Nat) : Int) 1 = if ((n.val : Nat) : Int) % 2 = 0 then ((n.val : Nat) : Int) + 1 else ((n.val : Nat) : Int) - 1 := by decide +kernel
  obtain ⟨n, rfl⟩ := Int.eq_ofNat_of_zero_le h0
  exact key ⟨n, by omega⟩
def coverS : List Int → List Int → Bool
  | x :: l, y :: m => (x == 2 || x == y) && coverS l m
  | _, _ => true
theorem covers_l0 (a b : List Int) (hab : a.length = b.length) (hl : a.length ≤ 100000) (d : Nat) : ∀ (k j : Nat), j + d = a.length → d < k →
    ternary_Covers.l0 k b a (a.length : Int) (j : Int) = some (coverS (a.drop j) (b.drop j), 0) := by
  induction d with
  | zero =>
    intro k j hj hk
    obtain ⟨k, rfl⟩ : ∃ m, k = m + 1 := ⟨k - 1, by omega⟩
    simp only [ternary_Covers.l0]
    rw [if_neg (by omega), List.drop_of_length_le (by omega)]; rfl
  | succ d ih =>
    intro k j hj hk
    obtain ⟨k, rfl⟩ : ∃ m, k = m + 1 := ⟨k - 1, by omega⟩
    have h1 : j < a.length := by omega
    have h2 : j < b.length := by omega
    simp only [ternary_Covers.l0]
    rw [if_pos (by omega), if_pos (by omega), if_pos (by omega), if_pos (show (j : Int) < (b.length : Int) by omega), rd_at a j h1, rd_at b j h2, List.drop_eq_getElem_cons h1, List.drop_eq_getElem_cons h2, w64 ((j : Int) + 1) (by omega) (by omega), show ((j : Int) + 1) = ((j + 1 : Nat) : Int) by omega, ih k (j + 1) (by omega) (by omega)]
    simp only [coverS]
    by_cases c : a[j] = 2
    · rw [if_pos c]; simp [c]
    rw [if_neg c]
    by_cases c2 : a[j] = b[j]
    · rw [if_pos c2]; simp [c2]
    · rw [if_neg c2]; simp [c, c2]
theorem any_te (l : List Int) : l.any teOut = !l.all (fun x => decide (x ≤ 2)) := by
  induction l with
  | nil => rfl
  | cons x l ih =>
    rw [List.any_cons, List.all_cons, ih]
    unfold teOut
    by_cases h : x ≤ 2
    · simp [h, show ¬ 2 < x by omega]
    · simp [h, show 2 < x by omega]
theorem covers_eq (k : Nat) (a b : List Int) (hl : a.length ≤ 100000) (hk : a.length < k) :
    ternary_Covers.f k a b = some (if a.all (fun x => decide (x ≤ 2)) = true ∧ b.all (fun x => decide (x ≤ 2)) = true then (if a.length = b.length then (coverS a b, 0) else (false, 2)) else (false, 8)) := by
  unfold ternary_Covers.f ternary_check.f
  simp only [Option.bind_some]
  rw [any_te a, any_te b]
  by_cases c1 : a.all (fun x => decide (x ≤ 2)) = true
  · by_cases c2 : b.all (fun x => decide (x ≤ 2)) = true
    · rw [c1, c2, if_pos (And.intro rfl rfl)]
      simp only [Bool.not_true, Bool.false_eq_true, if_false, mx]
      rw [if_pos (by decide)]
      by_cases c3 : a.length = b.length
      · rw [if_pos (by omega), if_pos c3]
        have := covers_l0 a b c3 hl a.length k 0 (by omega) hk
        simpa using this
      · rw [if_neg (by omega), if_neg c3]
    · rw [c1, if_neg (show ¬ (true = true ∧ b.all (fun x => decide (x ≤ 2)) = true) by simp [c2])]
      simp [c2, mx]
  · rw [if_neg (show ¬ (a.all (fun x => decide (x ≤ 2)) = true ∧ b.all (fun x => decide (x ≤ 2)) = true) by simp [c1])]
    have c1' : a.all (fun x => decide (x ≤ 2)) = false := by simpa using c1
    rw [c1']
    by_cases c2 : b.all (fun x => decide (x ≤ 2)) = true
    · rw [c2]; simp [mx]
    · have c2' : b.all (fun x => decide (x ≤ 2)) = false := by simpa using c2
      rw [c2']; simp [mx]
theorem right_l0 (l : List Int) (hl : l.length ≤ 100000) (d : Nat) : ∀ (k j : Nat), j + d = l.length → d < k →
    spiritlevelref05_Right.l0 k l (j : Int) = some ((l.drop j).all (fun x => decide (x ≤ 2))) := by
  induction d with
  | zero =>
    intro k j hj hk
    obtain ⟨k, rfl⟩ : ∃ m, k = m + 1 := ⟨k - 1, by omega⟩
    simp only [spiritlevelref05_Right.l0]
    rw [if_neg (by omega), List.drop_of_length_le (by omega)]; rfl
  | succ d ih =>
    intro k j hj hk
    obtain ⟨k, rfl⟩ : ∃ m, k = m + 1 := ⟨k - 1, by omega⟩
    have h1 : j < l.length := by omega
    simp only [spiritlevelref05_Right.l0]
    rw [if_pos (by omega), if_pos (by omega), rd_at l j h1, List.drop_eq_getElem_cons h1, List.all_cons, w64 ((j : Int) + 1) (by omega) (by omega), show ((j : Int) + 1) = ((j + 1 : Nat) : Int) by omega, ih k (j + 1) (by omega) (by omega)]
    by_cases c : l[j] > 2
    · rw [if_pos c]; simp [show ¬ l[j] ≤ 2 by omega]
    · rw [if_neg c]; simp [show l[j] ≤ 2 by omega]
theorem right_eq (k : Nat) (l : List Int) (hl : l.length ≤ 100000) (hk : l.length < k) : spiritlevelref05_Right.f k l = some (l.all (fun x => decide (x ≤ 2))) := by
  have := right_l0 l hl l.length k 0 (by omega) hk
  simpa [spiritlevelref05_Right.f] using this
theorem tsame_l0 (a b : List Int) (hab : a.length = b.length) (hl : a.length ≤ 100000) (d : Nat) : ∀ (k j : Nat), j + d = a.length → d < k →
    spiritlevelref05_Same.l0 k a b (j : Int) = some (decide (a.drop j = b.drop j)) := by
  induction d with
  | zero =>
    intro k j hj hk
    obtain ⟨k, rfl⟩ : ∃ m, k = m + 1 := ⟨k - 1, by omega⟩
    simp only [spiritlevelref05_Same.l0]
    rw [if_neg (by omega), List.drop_of_length_le (by omega), List.drop_of_length_le (by omega)]; rfl
  | succ d ih =>
    intro k j hj hk
    obtain ⟨k, rfl⟩ : ∃ m, k = m + 1 := ⟨k - 1, by omega⟩
    have h1 : j < a.length := by omega
    have h2 : j < b.length := by omega
    simp only [spiritlevelref05_Same.l0]
    rw [if_pos (by omega), if_pos (by omega), if_pos (show (j : Int) < (b.length : Int) by omega), rd_at a j h1, rd_at b j h2, List.drop_eq_getElem_cons (l := a) h1, List.drop_eq_getElem_cons (l := b) h2, w64 ((j : Int) + 1) (by omega) (by omega), show ((j : Int) + 1) = ((j + 1 : Nat) : Int) by omega, ih k (j + 1) (by omega) (by omega)]
    by_cases c : a[j] = b[j]
    · rw [if_pos c, c]
      simp only [List.cons.injEq, true_and]
    · rw [if_neg c]
      have : ¬ (a[j] :: List.drop (j + 1) a = b[j] :: List.drop (j + 1) b) := fun h => c (List.cons.inj h).1
      rw [decide_eq_false this]
theorem tsame_eq (k : Nat) (a b : List Int) (hl : a.length ≤ 100000) (hk : a.length < k) : spiritlevelref05_Same.f k a b = some (decide (a = b)) := by
  unfold spiritlevelref05_Same.f
  by_cases c : a.length = b.length
  · rw [if_pos (by omega)]
    have := tsame_l0 a b c hl a.length k 0 (by omega) hk
    simpa using this
  · rw [if_neg (by omega)]
    have : a ≠ b := fun h => c (by rw [h])
    simp [this]

theorem cover_refl : ∀ a : List Int, coverS a a = true
  | [] => rfl
  | x :: l => by simp [coverS, cover_refl l]
theorem cover_trans : ∀ a b c : List Int, a.length = b.length → b.length = c.length → coverS a b = true → coverS b c = true → coverS a c = true
  | [], _, _, _, _, _, _ => by simp [coverS]
  | x :: a, y :: b, z :: c, h1, h2, h3, h4 => by
    simp only [List.length_cons, Nat.add_right_cancel_iff] at h1 h2
    simp only [coverS, Bool.and_eq_true, Bool.or_eq_true, beq_iff_eq] at h3 h4 ⊢
    exact ⟨by omega, cover_trans a b c h1 h2 h3.2 h4.2⟩
  | _ :: _, [], _, h1, _, _, _ => by simp at h1
  | _ :: _, _ :: _, [], _, h2, _, _ => by simp at h2
theorem cover_anti : ∀ a b : List Int, a.length = b.length → coverS a b = true → coverS b a = decide (a = b)
  | [], [], _, _ => rfl
  | x :: a, y :: b, h1, h3 => by
    simp only [List.length_cons, Nat.add_right_cancel_iff] at h1
    simp only [coverS, Bool.and_eq_true, Bool.or_eq_true, beq_iff_eq] at h3
    simp only [coverS]
    rw [cover_anti a b h1 h3.2]
    by_cases c : x = y
    · simp [c]
    · have : x = 2 := by omega
      have hy : y ≠ 2 := by omega
      simp [c, hy, Ne.symm c]
  | [], _ :: _, h1, _ => by simp at h1
  | _ :: _, [], h1, _ => by simp at h1
theorem cover_any : ∀ a : List Int, coverS (List.replicate a.length 2) a = true
  | [] => rfl
  | x :: l => by simp [List.replicate_succ, coverS, cover_any l]
theorem all_two : ∀ n, (List.replicate n (2 : Int)).all (fun x => decide (x ≤ 2)) = true
  | 0 => rfl
  | n + 1 => by simp [List.replicate_succ, all_two n]
theorem al59 (k : Nat) (hk : 59 ≤ k) : spiritlevellaw05_alive.f k = some true := by
  have al : spiritlevellaw05_alive.f 59 = some true := by decide +kernel
  obtain ⟨d, rfl⟩ := Nat.exists_eq_add_of_le hk
  induction d with
  | zero => exact al
  | succ d ih => exact spiritlevellaw05_alive.mono (59 + d) _ (ih (by omega))
theorem one_l0 (a b : List Int) (x7 : Bool) (x8 : Int) (x9 : Bool) (x10 : Int) (x11 : Bool) (x12 : Int) (x13 : Bool) (x14 : Int) (x15 : Bool) (x16 : Int) (n : Nat) (hn : n ≤ 100) (d : Nat) : ∀ (k j : Nat), j + d = n → d < k → ∃ k', k ≤ k' + d + 1 ∧
    spiritlevellaw05_TernaryOne.l0 k a b x7 x8 x9 x10 x11 x12 x13 x14 x15 x16 (List.replicate j 2 ++ List.replicate d 0) (j : Int) = spiritlevellaw05_TernaryOne.l0 (k' + 1) a b x7 x8 x9 x10 x11 x12 x13 x14 x15 x16 (List.replicate n 2) (n : Int) := by
  induction d with
  | zero =>
    intro k j hj hk
    obtain ⟨k, rfl⟩ : ∃ m, k = m + 1 := ⟨k - 1, by omega⟩
    have : j = n := by omega
    subst this
    exact ⟨k, by omega, by simp⟩
  | succ d ih =>
    intro k j hj hk
    obtain ⟨k, rfl⟩ : ∃ m, k = m + 1 := ⟨k - 1, by omega⟩
    obtain ⟨k', hk', he⟩ := ih k (j + 1) (by omega) (by omega)
    refine ⟨k', by omega, ?_⟩
    rw [← he, spiritlevellaw05_TernaryOne.l0]
    have hl : ((List.replicate j (2 : Int) ++ List.replicate (d + 1) 0).length : Int) = j + (d + 1) := by simp
    rw [if_pos (by omega), if_pos (by omega), w64 ((j : Int) + 1) (by omega) (by omega), show ((j : Int) + 1) = ((j + 1 : Nat) : Int) by omega]
    congr 1
    rw [show ((j : Int)).toNat = j by omega, List.set_append, if_neg (by simp), List.length_replicate, Nat.sub_self, List.replicate_succ, List.set_cons_zero, List.replicate_succ', List.append_assoc]
    rfl
theorem TernaryOne : spiritlevellaw05_TernaryOne.Pure := by
  intro a b c _ _ _
  refine ⟨1000, ?_⟩
  have out : spiritlevellaw05_TernaryOne.j0 1000 a b c true = some true := by
    simp only [spiritlevellaw05_TernaryOne.j0]
    rw [if_pos trivial, al59 999 (by omega)]; rfl
  unfold spiritlevellaw05_TernaryOne.f
  by_cases h0 : (a.length : Int) > 100
  · rw [if_pos h0, out]
  rw [if_neg h0]
  by_cases h1 : (b.length : Int) = (a.length : Int)
  · rw [if_pos h1]
    by_cases h2 : (c.length : Int) = (a.length : Int)
    · rw [if_pos h2, right_eq _ a (by omega) (by omega), right_eq _ b (by omega) (by omega), right_eq _ c (by omega) (by omega)]
      simp only [Option.bind_some]
      by_cases va : a.all (fun x => decide (x ≤ 2)) = true
      · rw [if_pos va]
        by_cases vb : b.all (fun x => decide (x ≤ 2)) = true
        · rw [if_pos vb]
          by_cases vc : c.all (fun x => decide (x ≤ 2)) = true
          · rw [vc]
            have e1 : b.length = a.length := by omega
            have e2 : c.length = a.length := by omega
            simp only [spiritlevellaw05_TernaryOne.j0, Bool.not_true]
            have cv : ∀ (k : Nat) (x y : List Int), x.all (fun x => decide (x ≤ 2)) = true → y.all (fun x => decide (x ≤ 2)) = true → x.length = y.length → x.length ≤ 100 → 200 ≤ k → ternary_Covers.f k x y = some (coverS x y, 0) := by
              intro k x y hx hy hl h1 hk
              rw [covers_eq k x y (by omega) (by omega), if_pos (And.intro hx hy), if_pos hl]
            rw [if_neg (by decide), cv 999 a b va vb (by omega) (by omega) (by omega), cv 999 b a vb va (by omega) (by omega) (by omega), cv 999 b c vb vc (by omega) (by omega) (by omega), cv 999 a c va vc (by omega) (by omega) (by omega), cv 999 a a va va rfl (by omega) (by omega)]
            simp only [Option.bind_some]
            rw [if_pos (by omega), if_pos (by simp; omega)]
            obtain ⟨k', hk', he⟩ := one_l0 a b (coverS a b) 0 (coverS b a) 0 (coverS b c) 0 (coverS a c) 0 (coverS a a) 0 a.length (by omega) a.length 999 0 (by omega) (by omega)
            simp only [List.replicate_zero, List.nil_append] at he
            rw [show ((0 : Nat) : Int) = 0 from rfl] at he
            rw [show ((a.length : Int)).toNat = a.length by omega, he, spiritlevellaw05_TernaryOne.l0]
            rw [if_neg (by simp), cv k' _ a (all_two _) va (by simp) (by simp; omega) (by omega), cover_any, tsame_eq k' a b (by omega) (by omega), al59 k' (by omega), cover_refl a]
            simp only [Option.bind_some]
            have hanti := cover_anti a b (by omega)
            have htr := cover_trans a b c (by omega) (by omega)
            have hne : coverS a b = false → decide (a = b) = false := by
              intro h
              by_cases e : a = b
              · rw [e, cover_refl] at h; simp at h
              · simp [e]
            cases hab : coverS a b with
            | false => simp [hne hab]
            | true =>
              rw [hanti hab]
              cases hbc : coverS b c with
              | false => simp
              | true => rw [htr hab hbc]; simp
          · have vc' : c.all (fun x => decide (x ≤ 2)) = false := by simpa using vc
            rw [vc']; exact out
        · rw [if_neg vb, out]
      · rw [if_neg va, out]
    · rw [if_neg h2, out]
  · rw [if_neg h1, out]


end Go.Proofs.Ytddelmbkbpoelaa.Pure
