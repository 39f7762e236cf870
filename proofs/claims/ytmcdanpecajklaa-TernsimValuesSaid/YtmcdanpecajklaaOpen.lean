/- Reading arguments: a value of a type that is built of whole numbers, bools, slices and structs of these is read as a Lean value of the print's kind, with the bounds that the row's form gives. -/
import Derived.Deep.Slices
import Derived.ChangeArms
import Derived.SizedLaws
import Derived.WideShapes
import Derived.Test.YtmcdanpecajklaaVWWords
namespace Go.Proofs.Ytmcdanpecajklaa.Open
open Go.ChangeShapes Go.WideShapes Go.RowKit Go.Deep Go.Proofs.YtmcdanpecajklaaW.PrintWords
set_option linter.unusedVariables false

def Opens {α : Type} (P : Program) (t : TypeId) (K : Kd α) (Ok : α → Prop) : Prop :=
  ∀ {H : Type} {enc : TypeId × Value → H} {w : World} {base : Nat} {spare : Nat → Bool} {held : Bool} {fuel : Nat} {cs : List Value} {y : DataW H × List MemPlace},
    DataW.trod enc P w base spare held fuel t cs = some y → (∀ n ∈ y.1.weights P t, n ≤ reachBytes) → ∃ x : α, K.K w x cs ∧ Ok x

theorem opens_int {P : Program} {t : TypeId} {k : IntKind} (ht : P.underlying t = some (.int k)) : Opens P t (Kd.int k) (fun n => (Lit.int k n).wf = true) := by
  intro H enc w base spare held fuel cs y h _
  obtain ⟨n, rfl, _, hw⟩ := DataW.trod_int ht h
  exact ⟨n, rfl, hw⟩
theorem opens_bool {P : Program} {t : TypeId} (ht : P.underlying t = some .bool) : Opens P t Kd.bool (fun _ => True) := by
  intro H enc w base spare held fuel cs y h _
  obtain ⟨n, rfl, _⟩ := DataW.trod_bool ht h
  exact ⟨n, rfl, trivial⟩
theorem weightsAll_mem {H : Type} {P : Program} {e : TypeId} : ∀ {ds : List (DataW H)} {d : DataW H}, d ∈ ds → ∀ n ∈ d.weights P e, n ∈ DataW.weightsAll P e ds
  | d0 :: ds, d, hd, n, hn => by
    simp only [DataW.weightsAll, List.mem_append]
    rcases List.mem_cons.1 hd with rfl | hd
    · exact Or.inl hn
    · exact Or.inr (weightsAll_mem hd n hn)
  | [], _, hd, _, _ => by simp at hd
theorem opens_slice {α : Type} {P : Program} {t e : TypeId} {K : Kd α} {Ok : α → Prop} {B : Nat} (ht : P.underlying t = some (.slice e)) (hC : P.cellsOf e = K.sz) (hB : P.bytesOf e = B) (ho : Opens P e K Ok) :
    Opens P t (Kd.slice e K) (fun l => l.length ≤ 9223372036854775807 ∧ l.length * B ≤ 140737488351232 ∧ ∀ x ∈ l, Ok x) := by
  intro H enc w base spare held fuel cs y h hwt
  rcases open_slice ht h with ⟨rfl, rfl⟩ | ⟨a, len, cap, m, n, D, Pl, rfl, hb, hl, hm, hmm, rfl, hi⟩
  · exact ⟨[], ⟨none, 0, rfl, Nat.le_refl _, Kd.C_nil K w⟩, by simp, by simp, by simp⟩
  · have hlm : len ≤ m := by rw [hmm]; split <;> omega
    simp only [DataW.weights, ht] at hwt
    have hlen := hwt _ (List.mem_cons_self ..)
    simp only [List.length_map, List.length_range] at hlen
    rw [hB] at hlen
    have hex : ∀ i, i < len → ∃ x cs', w.cells? base (a.add (i * P.cellsOf e)) (P.cellsOf e) = some cs' ∧ K.K w x cs' ∧ Ok x := by
      intro i hil
      obtain ⟨cs', hc, htr⟩ := hi i (by omega)
      obtain ⟨x, hx, hok⟩ := ho htr (fun q hq => hwt q (List.mem_cons_of_mem _ (List.mem_append_left _ (weightsAll_mem (List.mem_map.2 ⟨i, List.mem_range.2 hil, rfl⟩) q hq))))
      exact ⟨x, cs', hc, hx, hok⟩
    have hf : ∃ f : Fin len → α, ∀ i : Fin len, ∃ cs', w.cells? base (a.add (i.val * P.cellsOf e)) (P.cellsOf e) = some cs' ∧ K.K w (f i) cs' ∧ Ok (f i) :=
      ⟨fun i => Classical.choose (hex i.val i.isLt), fun i => Classical.choose_spec (hex i.val i.isLt)⟩
    obtain ⟨f, hf⟩ := hf
    have hll : (List.ofFn f).length = len := List.length_ofFn
    refine ⟨List.ofFn f, ⟨some a, cap, by rw [hll], by rw [hll]; exact hl, ?_⟩, ?_, ?_, ?_⟩
    · rw [hll]
      have hmax : cap ≤ 9223372036854775807 := hm
      refine ⟨hll, by omega, fun hpos => ⟨a, rfl, fun j p hj => ?_⟩⟩
      have hjl : j < len := by
        have := (List.getElem?_eq_some_iff.1 hj).1
        omega
      have hjp : f ⟨j, hjl⟩ = p := by
        rw [List.getElem?_ofFn] at hj
        simpa [hjl] using hj
      obtain ⟨cs', hc, hk, _⟩ := hf ⟨j, hjl⟩
      rw [hjp] at hk
      obtain ⟨_, hcl, hat⟩ := World.cells?_some hc
      refine ⟨cs', K.K_len hk, hk, fun i u hu => ?_⟩
      have hil : i < cs'.length := (List.getElem?_eq_some_iff.1 hu).1
      have := hat i (by omega)
      rw [hC] at this
      rw [← Go.Deep.add_add, this, hu]
    · rw [hll]
      have hmax : cap ≤ 9223372036854775807 := hm
      omega
    · rw [hll]
      have : len * B ≤ (len + (m - len)) * B := Nat.mul_le_mul_right _ (by omega)
      have hr : reachBytes = 140737488351232 := rfl
      omega
    · intro x hx
      obtain ⟨i, rfl⟩ := List.mem_ofFn.1 hx
      obtain ⟨_, _, _, hok⟩ := hf i
      exact hok
theorem opens_two {α β γ : Type} {P : Program} {t : TypeId} {f0 f1 : Field} {K0 : Kd α} {K1 : Kd β} {O0 : α → Prop} {O1 : β → Prop} {g : γ → α × β} {mk : α → β → γ} (hg : ∀ a b, g (mk a b) = (a, b))
    (ht : P.underlying t = some (.struct #[f0, f1])) (e0 : f0.offset = 0) (e1 : f1.offset = K0.sz) (s0 : P.cellsOf f0.type = K0.sz) (s1 : P.cellsOf f1.type = K1.sz) (hs : P.cellsOf t = K0.sz + K1.sz)
    (h0 : Opens P f0.type K0 O0) (h1 : Opens P f1.type K1 O1) : Opens P t (Kd.iso (Kd.pair K0 K1) g) (fun x => O0 (g x).1 ∧ O1 (g x).2) := by
  intro H enc w base spare held fuel cs y h hwt
  obtain ⟨xs, n, _, rfl, hlen, hxl, hf⟩ := DataW.trod_struct ht h
  match xs, hxl with
  | [x0, x1], _ =>
    have q0 := hf 0 f0 rfl
    have q1 := hf 1 f1 rfl
    rw [e0, s0, List.drop_zero] at q0
    rw [e1, s1] at q1
    simp only [DataW.weights, ht] at hwt
    have u0 : ∀ q ∈ x0.1.weights P f0.type, q ≤ reachBytes := fun q hq => hwt q (DataW.weights_mem_each (j := 0) rfl rfl q hq)
    have u1 : ∀ q ∈ x1.1.weights P f1.type, q ≤ reachBytes := fun q hq => hwt q (DataW.weights_mem_each (j := 1) rfl rfl q hq)
    obtain ⟨a, ka, oa⟩ := h0 q0 u0
    obtain ⟨b, kb, ob⟩ := h1 q1 u1
    refine ⟨mk a b, ?_, by simp only [hg]; exact ⟨oa, ob⟩⟩
    show (Kd.pair K0 K1).K w (g (mk a b)) cs
    rw [hg]
    refine ⟨cs.take K0.sz, (cs.drop K0.sz).take K1.sz, ?_, ka, kb⟩
    rw [List.take_of_length_le (l := cs.drop K0.sz) (by rw [List.length_drop, hlen, hs]; omega), List.take_append_drop]
theorem opens_five {α0 α1 α2 α3 α4 γ : Type} {P : Program} {t : TypeId} {f0 f1 f2 f3 f4 : Field} {K0 : Kd α0} {K1 : Kd α1} {K2 : Kd α2} {K3 : Kd α3} {K4 : Kd α4}
    {O0 : α0 → Prop} {O1 : α1 → Prop} {O2 : α2 → Prop} {O3 : α3 → Prop} {O4 : α4 → Prop} {g : γ → α0 × α1 × α2 × α3 × α4} {mk : α0 → α1 → α2 → α3 → α4 → γ} (hg : ∀ a b c d e, g (mk a b c d e) = (a, b, c, d, e))
    (ht : P.underlying t = some (.struct #[f0, f1, f2, f3, f4])) (e0 : f0.offset = 0) (e1 : f1.offset = K0.sz) (e2 : f2.offset = K0.sz + K1.sz) (e3 : f3.offset = K0.sz + K1.sz + K2.sz) (e4 : f4.offset = K0.sz + K1.sz + K2.sz + K3.sz)
    (s0 : P.cellsOf f0.type = K0.sz) (s1 : P.cellsOf f1.type = K1.sz) (s2 : P.cellsOf f2.type = K2.sz) (s3 : P.cellsOf f3.type = K3.sz) (s4 : P.cellsOf f4.type = K4.sz) (hs : P.cellsOf t = K0.sz + K1.sz + K2.sz + K3.sz + K4.sz)
    (h0 : Opens P f0.type K0 O0) (h1 : Opens P f1.type K1 O1) (h2 : Opens P f2.type K2 O2) (h3 : Opens P f3.type K3 O3) (h4 : Opens P f4.type K4 O4) :
    Opens P t (Kd.iso (Kd.pair K0 (Kd.pair K1 (Kd.pair K2 (Kd.pair K3 K4)))) g) (fun x => O0 (g x).1 ∧ O1 (g x).2.1 ∧ O2 (g x).2.2.1 ∧ O3 (g x).2.2.2.1 ∧ O4 (g x).2.2.2.2) := by
  intro H enc w base spare held fuel cs y h hwt
  obtain ⟨xs, n, _, rfl, hlen, hxl, hf⟩ := DataW.trod_struct ht h
  match xs, hxl with
  | [x0, x1, x2, x3, x4], _ =>
    have q0 := hf 0 f0 rfl
    have q1 := hf 1 f1 rfl
    have q2 := hf 2 f2 rfl
    have q3 := hf 3 f3 rfl
    have q4 := hf 4 f4 rfl
    rw [e0, s0, List.drop_zero] at q0
    rw [e1, s1] at q1
    rw [e2, s2] at q2
    rw [e3, s3] at q3
    rw [e4, s4] at q4
    simp only [DataW.weights, ht] at hwt
    obtain ⟨a0, k0, o0⟩ := h0 q0 (fun q hq => hwt q (DataW.weights_mem_each (j := 0) rfl rfl q hq))
    obtain ⟨a1, k1, o1⟩ := h1 q1 (fun q hq => hwt q (DataW.weights_mem_each (j := 1) rfl rfl q hq))
    obtain ⟨a2, k2, o2⟩ := h2 q2 (fun q hq => hwt q (DataW.weights_mem_each (j := 2) rfl rfl q hq))
    obtain ⟨a3, k3, o3⟩ := h3 q3 (fun q hq => hwt q (DataW.weights_mem_each (j := 3) rfl rfl q hq))
    obtain ⟨a4, k4, o4⟩ := h4 q4 (fun q hq => hwt q (DataW.weights_mem_each (j := 4) rfl rfl q hq))
    refine ⟨mk a0 a1 a2 a3 a4, ?_, by simp only [hg]; exact ⟨o0, o1, o2, o3, o4⟩⟩
    show (Kd.pair K0 (Kd.pair K1 (Kd.pair K2 (Kd.pair K3 K4)))).K w (g (mk a0 a1 a2 a3 a4)) cs
    rw [hg]
    refine ⟨cs.take K0.sz, cs.drop K0.sz, (List.take_append_drop _ _).symm, k0, (cs.drop K0.sz).take K1.sz, cs.drop (K0.sz + K1.sz), ?_, k1, (cs.drop (K0.sz + K1.sz)).take K2.sz, cs.drop (K0.sz + K1.sz + K2.sz), ?_, k2,
      (cs.drop (K0.sz + K1.sz + K2.sz)).take K3.sz, (cs.drop (K0.sz + K1.sz + K2.sz + K3.sz)).take K4.sz, ?_, k3, k4⟩
    · rw [← List.drop_drop, List.take_append_drop]
    · rw [← List.drop_drop (i := K2.sz), List.take_append_drop]
    · rw [List.take_of_length_le (l := cs.drop (K0.sz + K1.sz + K2.sz + K3.sz)) (by rw [List.length_drop, hlen, hs]; omega), ← List.drop_drop (i := K3.sz), List.take_append_drop]
theorem Opens.arg {α : Type} {P : Program} {t : TypeId} {K : Kd α} {Ok : α → Prop} (ho : Opens P t K Ok) {H : Type} {enc : TypeId × Value → H} {W : World} {base : Nat} {spare : Nat → Bool} {held : Bool} {v : Value} {d : DataW H} {ps : List MemPlace} {ts : List TypeId} {ds : List (DataW H)} {j : Nat}
    (hsz : (DataW.weightsEach P ts ds).all (· ≤ reachBytes) = true) (ht : ts[j]? = some t) (hd : ds[j]? = some d) (h : DataW.Trod enc P W base spare held t v d ps) : ∃ x : α, K.K W x v.cells.toList ∧ Ok x := by
  obtain ⟨fuel, hf⟩ := h
  refine ho hf (fun n hn => ?_)
  have := List.all_eq_true.1 hsz n (DataW.weights_mem_each ht hd n hn)
  simpa using this
end Go.Proofs.Ytmcdanpecajklaa.Open
