-- Made by wip/lawrow.py: a text of this session's own.
import Derived.Test.YtmcdanpecajklaaRows
import Derived.Test.YtmcdanpecajklaaQTernsimOncex13
import Derived.Test.YtmcdanpecajklaaPureTernsimOnce
import Derived.Test.YtmcdanpecajklaaOpen
import Derived.WalkKit
import Derived.ProofKit
import Derived.OpenShut
import Derived.ShutString
import Derived.ChangeOld
import Derived.Below
import Derived.SizedLaws
import Derived.Carry
import Derived.WideShapes
namespace Go.Proofs.Ytmcdanpecajklaa.ternsimOnce
open Go.ChangeShapes Go.WideShapes Go.ChangeAt Go.RowKit
open Go.ChangeMaps (open_string shut_string)
set_option linter.unusedVariables false
theorem own : ownKnob Try.prog.godebug = none := by kernel_rfl
theorem laidOut : laidOutB Try.prog = true := by kernel_rfl
set_option maxRecDepth 100000 in
set_option maxHeartbeats 4000000 in
theorem lifted (os : Os) (started : os.Started) (H : Type) (enc : TypeId × Value → H) :
    ReturnsInHanded {} Try.checked os 7 .any (Rows.ternsimOnceSpec.pre6 enc Try.prog Try.f7 Rows.ternsimOnceRow.domain false) (Rows.ternsimOnceSpec.post enc Try.prog Try.f7 false true false false) := by
  refine returnsInHanded_of_change_sized (C := Try.checked) own started (by kernel_rfl) Try.func7
    (ChangeSpec.witness6 (enc := enc) (C := Try.checked) false ⟨#[], #[.agg #[.int .i64 0, .slice none 0 0, .slice none 0 0, .slice none 0 0, .slice none 0 0]], []⟩ 8 (by kernel_rfl) (by kernel_rfl) (by kernel_rfl) (by kernel_rfl)) ?_
  intro W base args ds gs before hval0 hW hcnd hsz0 _
  have hsz : (DataW.weightsEach Try.prog (Try.f7.params.toList ++ Rows.ternsimOnceSpec.plain.varTypes Try.prog) (ds ++ gs)).all (· ≤ reachBytes) = true := hsz0
  have hval : ∀ (j : Nat) t v, Try.f7.params[j]? = some t → args[j]? = some v → Value.okWide Try.prog W .any base t v := hval0
  have hW' := hW
  obtain ⟨p, q, hA0, hV, rfl, hfz, hnd⟩ := hW
  have hA : DataW.TrodAll enc Try.prog W 0 (fun _ => true) true Try.f7.params.toList args.toList ds p := hA0
  rw [Try.params7] at hA hval hsz
  obtain ⟨v0, vs0, d0, ds0, p0, q0, hargs, rfl, rfl, h0, r0⟩ := trodAll_cons hA
  obtain ⟨rfl, rfl, rfl⟩ := trodAll_nil r0
  obtain rfl : args = #[v0] := by cases args; simp_all
  obtain ⟨rfl, rfl⟩ := trodVars_none hV
  obtain ⟨s0, rfl, _⟩ := okWide_struct Try.underlying26 (hval 0 26 v0 rfl rfl)
  have k0 := h0
  have lt0 : ∀ x ∈ p0, x.block < W.heap.size := by obtain ⟨m, hm⟩ := k0; exact DataW.trod_lt m _ _ _ hm
  obtain ⟨x0, hK0, ok0⟩ := Open.Opens.arg (Open.opens_five (g := fun x : (Int) × (List (QTernsimOnce.S36)) × (List (QTernsimOnce.S69)) × (List Int) × (List Int) => x) (mk := fun a b c d e => (a, b, c, d, e)) (fun _ _ _ _ _  => rfl) Try.underlying26 rfl rfl rfl rfl rfl (by kernel_rfl) (by kernel_rfl) (by kernel_rfl) (by kernel_rfl) (by kernel_rfl) (by kernel_rfl)  (Open.opens_int Try.underlying3) (Open.opens_slice (B := 16) Try.underlying22 (by kernel_rfl) (by kernel_rfl) (Open.opens_two (g := fun x : QTernsimOnce.S36 => (x.f0, x.f1)) (mk := fun a b => ⟨a, b⟩) (fun _ _  => rfl) Try.underlying36 rfl rfl (by kernel_rfl) (by kernel_rfl) (by kernel_rfl)  (Open.opens_int Try.underlying3) (Open.opens_int Try.underlying3))) (Open.opens_slice (B := 16) Try.underlying23 (by kernel_rfl) (by kernel_rfl) (Open.opens_two (g := fun x : QTernsimOnce.S69 => (x.f0, x.f1)) (mk := fun a b => ⟨a, b⟩) (fun _ _  => rfl) Try.underlying69 rfl rfl (by kernel_rfl) (by kernel_rfl) (by kernel_rfl)  (Open.opens_int Try.underlying3) (Open.opens_int Try.underlying3))) (Open.opens_slice (B := 8) Try.underlying24 (by kernel_rfl) (by kernel_rfl) (Open.opens_int Try.underlying3)) (Open.opens_slice (B := 8) Try.underlying24 (by kernel_rfl) (by kernel_rfl) (Open.opens_int Try.underlying3))) hsz (j := 0) (t := 26) rfl rfl h0
  obtain ⟨a0_0, l0_1, l0_2, l0_3, l0_4⟩ := x0
  obtain ⟨_, _, e0, rfl, _, _, rfl, ⟨A0_1, c0_1, rfl, hc0_1, hr0_1⟩, _, _, rfl, ⟨A0_2, c0_2, rfl, hc0_2, hr0_2⟩, _, _, rfl, ⟨A0_3, c0_3, rfl, hc0_3, hr0_3⟩, ⟨A0_4, c0_4, rfl, hc0_4, hr0_4⟩⟩ := hK0
  obtain ⟨sl0⟩ := s0
  have e0' : sl0 = [.int .i64 a0_0, .slice A0_1 l0_1.length c0_1, .slice A0_2 l0_2.length c0_2, .slice A0_3 l0_3.length c0_3, .slice A0_4 l0_4.length c0_4] := e0
  subst e0'
  clear hA0 hval0 hsz0 hsz
  refine (QTernsimOnce.spiritlevellaw30_TernsimOnce.walk Pure.TernsimOnce a0_0 A0_1 c0_1 l0_1 A0_2 c0_2 l0_2 A0_3 c0_3 l0_3 A0_4 c0_4 l0_4 W hr0_1 hc0_1 hr0_2 hc0_2 hr0_3 hc0_3 hr0_4 hc0_4 ok0.1 ok0.2.1 ok0.2.2.1 ok0.2.2.2.1 ok0.2.2.2.2).mono fun e W' ⟨he, bel⟩ => ?_
  subst he
  exact ⟨_, rfl, _, _, _, [], _, [], hW', trodAll_mk1 (shut_bool Try.underlying4 _), (trodAll_cons_mk (Below.trod laidOut (by kernel_rfl) (of_decide_eq_true (by kernel_rfl)) k0 bel lt0) trodAll_mk0), rfl, bel.frame _, fun h => by cases h⟩
theorem over : Rows.ternsimOnceRow.holds Try.pinned (OpenSpec.ofChange Rows.ternsimOnceSpec) :=
  OpenClaim.holds_of_wide 7 Try.f7 rfl rfl rfl rfl rfl rfl rfl ⟨rfl, rfl, rfl, rfl, rfl⟩ rfl rfl rfl rfl rfl (by kernel_rfl) Try.func7 (by kernel_rfl)
    (of_decide_eq_true (by kernel_rfl)) (by unfold Func.isWrapper; first | (rw [if_pos (by decide +kernel)]; kernel_rfl) | (rw [if_neg (by decide +kernel)]; exact ⟨rfl, rfl⟩))
    (fun os started H enc _ => lifted os started H enc)
theorem proved : Rows.TernsimOnceSaid := over
#print axioms proved
end Go.Proofs.Ytmcdanpecajklaa.ternsimOnce
namespace Go.Proofs.Ytmcdanpecajklaa
/-- The row, under a short name, for the claim. -/
theorem ternsimOnce_holds : Rows.TernsimOnceSaid := ternsimOnce.proved
end Go.Proofs.Ytmcdanpecajklaa
