/- The errors of Stay and Pass, and latches that stay together. -/
import Derived.Test.YtlgoniocoifjjaaQConstantsNamesx11
namespace Go.Proofs.Ytlgoniocoifjjaa.Pure
open Go.RowKit Go.Proofs.Ytlgoniocoifjjaa.QConstantsNamesW Go.Proofs.Ytlgoniocoifjjaa.QConstantsNames Go.Proofs.YtlgoniocoifjjaaW.PrintWords Go.Proofs.YtlgoniocoifjjaaW.PrintLast
set_option linter.unusedSimpArgs false
set_option linter.unusedVariables false
set_option maxRecDepth 100000 in
theorem constantsNames_all (w : World) : Calls Try.prog 5 #[] w fun e w' => e = .returned (.bool true) ∧ Below w.heap.size w w' :=
  names_walk 100 w [] 0 0 0 0 0 0 [] [] [] [] [] [] [] [] 0 0 0 0 [] [] [] [] [] [] [] [] [⟨4, 1⟩, ⟨6, 1⟩, ⟨2, 1⟩] [] [] [] 0 0 0 1 10 [⟨1, 1⟩, ⟨1, 1⟩, ⟨1, 1⟩] [] [] [] [2, 4, 6] [[]] [2, 4, 6] [⟨4, 2⟩, ⟨8, 6⟩] 0 0 1 1 [⟨4, 1⟩, ⟨6, 0⟩, ⟨2, 1⟩] [] [] [] [2, 4, 6] [[]] [2, 4, 6] [] [⟨4, 1⟩, ⟨6, 0⟩, ⟨2, 1⟩] [] [] [] [⟨4, 1⟩, ⟨6, 2⟩, ⟨2, 1⟩] [] [] [] (by kernel_rfl) (by kernel_rfl) (by kernel_rfl) (by kernel_rfl) (by kernel_rfl) (by kernel_rfl) (by kernel_rfl) (by kernel_rfl) (by kernel_rfl) (by kernel_rfl) (by kernel_rfl) (by kernel_rfl) (by kernel_rfl) (by kernel_rfl) (by kernel_rfl) (by kernel_rfl)
end Go.Proofs.Ytlgoniocoifjjaa.Pure
