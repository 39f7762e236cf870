-- Made by wip/lawrow.py: a text of this session's own.
import Derived.Test.YtmcdanpecajklaaRows
import Derived.Test.YtmcdanpecajklaaQTernsimValuesx17
import Derived.Test.YtmcdanpecajklaaPureTernsimValues
import Derived.Test.YtmcdanpecajklaaOpen
import Derived.WalkKit
import Derived.ProofKit
import Derived.OpenShut
import Derived.ShutString
import Derived.ChangeOld
import Derived.Below
import Derived.SizedLaws
import Derived.Carry
import Derived.WideShapes
namespace Go.Proofs.Ytmcdanpecajklaa.ternsimValues
open Go.ChangeShapes Go.WideShapes Go.ChangeAt Go.RowKit
open Go.ChangeMaps (open_string shut_string)
set_option linter.unusedVariables false
theorem own : ownKnob Try.prog.godebug = none := by kernel_rfl
theorem laidOut : laidOutB Try.prog = true := by kernel_rfl
set_option maxRecDepth 100000 in
set_option maxHeartbeats 4000000 in
theorem lifted (os : Os) (started : os.Started) (H : Type) (enc : TypeId × Value → H) :
    ReturnsInHanded {} Try.checked os 8 .any (Rows.ternsimValuesSpec.pre6 enc Try.prog Try.f8 Rows.ternsimValuesRow.domain false) (Rows.ternsimValuesSpec.post enc Try.prog Try.f8 false true false false) := by
  refine returnsInHanded_of_change_sized (C := Try.checked) own started (by kernel_rfl) Try.func8
    (ChangeSpec.witness6 (enc := enc) (C := Try.checked) false ⟨#[], #[.agg #[.int .i64 0, .slice none 0 0, .slice none 0 0, .slice none 0 0, .slice none 0 0], .slice none 0 0, .slice none 0 0], []⟩ 8 (by kernel_rfl) (by kernel_rfl) (by kernel_rfl) (by kernel_rfl)) ?_
  intro W base args ds gs before hval0 hW hcnd hsz0 _
  have hsz : (DataW.weightsEach Try.prog (Try.f8.params.toList ++ Rows.ternsimValuesSpec.plain.varTypes Try.prog) (ds ++ gs)).all (· ≤ reachBytes) = true := hsz0
  have hval : ∀ (j : Nat) t v, Try.f8.params[j]? = some t → args[j]? = some v → Value.okWide Try.prog W .any base t v := hval0
  have hW' := hW
  obtain ⟨p, q, hA0, hV, rfl, hfz, hnd⟩ := hW
  have hA : DataW.TrodAll enc Try.prog W 0 (fun _ => true) true Try.f8.params.toList args.toList ds p := hA0
  rw [Try.params8] at hA hval hsz
  obtain ⟨v0, vs0, d0, ds0, p0, q0, hargs, rfl, rfl, h0, r0⟩ := trodAll_cons hA
  obtain ⟨v1, vs1, d1, ds1, p1, q1, rfl, rfl, rfl, h1, r1⟩ := trodAll_cons r0
  obtain ⟨v2, vs2, d2, ds2, p2, q2, rfl, rfl, rfl, h2, r2⟩ := trodAll_cons r1
  obtain ⟨rfl, rfl, rfl⟩ := trodAll_nil r2
  obtain rfl : args = #[v0, v1, v2] := by cases args; simp_all
  obtain ⟨rfl, rfl⟩ := trodVars_none hV
  obtain ⟨s0, rfl, _⟩ := okWide_struct Try.underlying26 (hval 0 26 v0 rfl rfl)
  have k0 := h0
  have lt0 : ∀ x ∈ p0, x.block < W.heap.size := by obtain ⟨m, hm⟩ := k0; exact DataW.trod_lt m _ _ _ hm
  obtain ⟨x0, hK0, ok0⟩ := Open.Opens.arg (Open.opens_five (g := fun x : (Int) × (List (QTernsimValues.S36)) × (List (QTernsimValues.S69)) × (List Int) × (List Int) => x) (mk := fun a b c d e => (a, b, c, d, e)) (fun _ _ _ _ _  => rfl) Try.underlying26 rfl rfl rfl rfl rfl (by kernel_rfl) (by kernel_rfl) (by kernel_rfl) (by kernel_rfl) (by kernel_rfl) (by kernel_rfl)  (Open.opens_int Try.underlying3) (Open.opens_slice (B := 16) Try.underlying22 (by kernel_rfl) (by kernel_rfl) (Open.opens_two (g := fun x : QTernsimValues.S36 => (x.f0, x.f1)) (mk := fun a b => ⟨a, b⟩) (fun _ _  => rfl) Try.underlying36 rfl rfl (by kernel_rfl) (by kernel_rfl) (by kernel_rfl)  (Open.opens_int Try.underlying3) (Open.opens_int Try.underlying3))) (Open.opens_slice (B := 16) Try.underlying23 (by kernel_rfl) (by kernel_rfl) (Open.opens_two (g := fun x : QTernsimValues.S69 => (x.f0, x.f1)) (mk := fun a b => ⟨a, b⟩) (fun _ _  => rfl) Try.underlying69 rfl rfl (by kernel_rfl) (by kernel_rfl) (by kernel_rfl)  (Open.opens_int Try.underlying3) (Open.opens_int Try.underlying3))) (Open.opens_slice (B := 8) Try.underlying24 (by kernel_rfl) (by kernel_rfl) (Open.opens_int Try.underlying3)) (Open.opens_slice (B := 8) Try.underlying24 (by kernel_rfl) (by kernel_rfl) (Open.opens_int Try.underlying3))) hsz (j := 0) (t := 26) rfl rfl h0
  obtain ⟨a0_0, l0_1, l0_2, l0_3, l0_4⟩ := x0
  obtain ⟨_, _, e0, rfl, _, _, rfl, ⟨A0_1, c0_1, rfl, hc0_1, hr0_1⟩, _, _, rfl, ⟨A0_2, c0_2, rfl, hc0_2, hr0_2⟩, _, _, rfl, ⟨A0_3, c0_3, rfl, hc0_3, hr0_3⟩, ⟨A0_4, c0_4, rfl, hc0_4, hr0_4⟩⟩ := hK0
  obtain ⟨sl0⟩ := s0
  have e0' : sl0 = [.int .i64 a0_0, .slice A0_1 l0_1.length c0_1, .slice A0_2 l0_2.length c0_2, .slice A0_3 l0_3.length c0_3, .slice A0_4 l0_4.length c0_4] := e0
  subst e0'
  obtain ⟨s1, t1, u1, rfl⟩ := okWide_slice Try.underlying27 (hval 1 27 v1 rfl rfl)
  have k1 := h1
  have lt1 : ∀ x ∈ p1, x.block < W.heap.size := by obtain ⟨m, hm⟩ := k1; exact DataW.trod_lt m _ _ _ hm
  obtain ⟨x1, hK1, ok1⟩ := Open.Opens.arg (Open.opens_slice (B := 1) Try.underlying27 (by kernel_rfl) (by kernel_rfl) (Open.opens_bool Try.underlying4)) hsz (j := 1) (t := 27) rfl rfl h1
  obtain ⟨A1, c1, e1, hc1, hr1⟩ := hK1
  simp [Value.cells] at e1
  obtain ⟨rfl, rfl, rfl⟩ := e1
  obtain ⟨s2, t2, u2, rfl⟩ := okWide_slice Try.underlying27 (hval 2 27 v2 rfl rfl)
  have k2 := h2
  have lt2 : ∀ x ∈ p2, x.block < W.heap.size := by obtain ⟨m, hm⟩ := k2; exact DataW.trod_lt m _ _ _ hm
  obtain ⟨x2, hK2, ok2⟩ := Open.Opens.arg (Open.opens_slice (B := 1) Try.underlying27 (by kernel_rfl) (by kernel_rfl) (Open.opens_bool Try.underlying4)) hsz (j := 2) (t := 27) rfl rfl h2
  obtain ⟨A2, c2, e2, hc2, hr2⟩ := hK2
  simp [Value.cells] at e2
  obtain ⟨rfl, rfl, rfl⟩ := e2
  clear hA0 hval0 hsz0 hsz
  refine (Pure.ternsimValues_all a0_0 A0_1 c0_1 l0_1 A0_2 c0_2 l0_2 A0_3 c0_3 l0_3 A0_4 c0_4 l0_4 s1 u1 x1 s2 u2 x2 W hr0_1 hc0_1 hr0_2 hc0_2 hr0_3 hc0_3 hr0_4 hc0_4 hr1 hc1 hr2 hc2 ok0.1 ok0.2.1 ok0.2.2.1 ok0.2.2.2.1 ok0.2.2.2.2 ok1 ok2).mono fun e W' ⟨he, bel⟩ => ?_
  subst he
  exact ⟨_, rfl, _, _, _, [], _, [], hW', trodAll_mk1 (shut_bool Try.underlying4 _), (trodAll_cons_mk (Below.trod laidOut (by kernel_rfl) (of_decide_eq_true (by kernel_rfl)) k0 bel lt0) (trodAll_cons_mk (Below.trod laidOut (by kernel_rfl) (of_decide_eq_true (by kernel_rfl)) k1 bel lt1) (trodAll_cons_mk (Below.trod laidOut (by kernel_rfl) (of_decide_eq_true (by kernel_rfl)) k2 bel lt2) trodAll_mk0))), rfl, bel.frame _, fun h => by cases h⟩
theorem over : Rows.ternsimValuesRow.holds Try.pinned (OpenSpec.ofChange Rows.ternsimValuesSpec) :=
  OpenClaim.holds_of_wide 8 Try.f8 rfl rfl rfl rfl rfl rfl rfl ⟨rfl, rfl, rfl, rfl, rfl⟩ rfl rfl rfl rfl rfl (by kernel_rfl) Try.func8 (by kernel_rfl)
    (of_decide_eq_true (by kernel_rfl)) (by unfold Func.isWrapper; first | (rw [if_pos (by decide +kernel)]; kernel_rfl) | (rw [if_neg (by decide +kernel)]; exact ⟨rfl, rfl⟩))
    (fun os started H enc _ => lifted os started H enc)
theorem proved : Rows.TernsimValuesSaid := over
#print axioms proved
end Go.Proofs.Ytmcdanpecajklaa.ternsimValues
namespace Go.Proofs.Ytmcdanpecajklaa
/-- The row, under a short name, for the claim. -/
theorem ternsimValues_holds : Rows.TernsimValuesSaid := ternsimValues.proved
end Go.Proofs.Ytmcdanpecajklaa
