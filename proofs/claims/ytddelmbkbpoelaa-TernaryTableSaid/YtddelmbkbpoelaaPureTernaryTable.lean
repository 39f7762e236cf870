/- AND does not depend on the order nor on the grouping, negation twice is nothing, for all bytes. No further condition. -/
import Derived.Test.YtddelmbkbpoelaaQTernaryTablex4
namespace Go.Proofs.Ytddelmbkbpoelaa.Pure
open Go.RowKit Go.Proofs.Ytddelmbkbpoelaa.QTernaryTable Go.Proofs.YtddelmbkbpoelaaW.PrintWords Go.Proofs.YtddelmbkbpoelaaW.PrintLast
set_option linter.unusedSimpArgs false
set_option linter.unusedVariables false
theorem wf_u8' {x : Int} (h : (Lit.int .u8 x).wf = true) : 0 ≤ x ∧ x ≤ 255 := by
  simp [Lit.wf, IntKind.min, IntKind.max, IntKind.signed, IntKind.bits] at h
  omega
theorem TernaryTable : spiritlevellaw05_TernaryTable.Pure := by
  intro a b c ha hb hc
  refine ⟨60, ?_⟩
  obtain ⟨a0, a1⟩ := wf_u8' ha
  obtain ⟨b0, b1⟩ := wf_u8' hb
  obtain ⟨c0, c1⟩ := wf_u8' hc
  have al : spiritlevellaw05_alive.f 59 = some true := by decide +kernel
  have out : spiritlevellaw05_TernaryTable.j0 60 a b c true = some true := by
    simp only [spiritlevellaw05_TernaryTable.j0]
    rw [if_pos trivial, al]; rfl
  by_cases d0 : a > 2
  · unfold spiritlevellaw05_TernaryTable.f; rw [if_pos d0, out]
  by_cases d1 : b > 2
  · unfold spiritlevellaw05_TernaryTable.f; rw [if_neg d0, if_pos d1, out]
  by_cases d2 : c > 2
  · unfold spiritlevellaw05_TernaryTable.f; rw [if_neg d0, if_neg d1, decide_eq_true d2, out]
  have key : ∀ x y z : Fin 3, spiritlevellaw05_TernaryTable.f 60 ((x.val : Nat) : Int) ((y.val : Nat) : Int) ((z.val : Nat) : Int) = some true := by decide +kernel
  obtain ⟨x, rfl⟩ := Int.eq_ofNat_of_zero_le a0
  obtain ⟨y, rfl⟩ := Int.eq_ofNat_of_zero_le b0
  obtain ⟨z, rfl⟩ := Int.eq_ofNat_of_zero_le c0
  exact key ⟨x, by omega⟩ ⟨y, by omega⟩ ⟨z, by omega⟩


end Go.Proofs.Ytddelmbkbpoelaa.Pure
