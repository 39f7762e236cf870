/- The examples, the tables and the errors of truth values with a third one. -/
import Derived.Test.YtddelmbkbpoelaaQTernaryNamesH
namespace Go.Proofs.Ytddelmbkbpoelaa.Pure
open Go.RowKit Go.Proofs.Ytddelmbkbpoelaa.QTernaryNames Go.Proofs.Ytddelmbkbpoelaa.QTernaryCovers
set_option maxRecDepth 100000 in
theorem ternaryNames_all (w : World) : Calls Try.prog 8 #[] w fun e w' => e = .returned (.bool true) ∧ Below w.heap.size w w' :=
  names_walk 200 w (by kernel_rfl) (by kernel_rfl) (by kernel_rfl) (by kernel_rfl) (by kernel_rfl) (by kernel_rfl) (by kernel_rfl) (by kernel_rfl) (by kernel_rfl) (by kernel_rfl) (by kernel_rfl) (by kernel_rfl) (by kernel_rfl) (by kernel_rfl) (by kernel_rfl) (by kernel_rfl) (by kernel_rfl) (by kernel_rfl) (by kernel_rfl) (by kernel_rfl) (by kernel_rfl) (by kernel_rfl) (by kernel_rfl) (by kernel_rfl) (by kernel_rfl) (by kernel_rfl) (by kernel_rfl) (by kernel_rfl) (by kernel_rfl) (by kernel_rfl) (by kernel_rfl) (by kernel_rfl) (by kernel_rfl) (by kernel_rfl) (by kernel_rfl) (by kernel_rfl) (by kernel_rfl)
end Go.Proofs.Ytddelmbkbpoelaa.Pure
