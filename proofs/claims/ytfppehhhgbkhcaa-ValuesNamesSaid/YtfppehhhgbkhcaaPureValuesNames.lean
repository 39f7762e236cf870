/- The chapter's examples, properties, states and inputs that there are not, and errors. -/
import Derived.Test.YtfppehhhgbkhcaaQValuesNamesx4
namespace Go.Proofs.Ytfppehhhgbkhcaa.Pure
open Go.RowKit Go.Proofs.Ytfppehhhgbkhcaa.QValuesNames Go.Proofs.YtfppehhhgbkhcaaW.PrintWords Go.Proofs.YtfppehhhgbkhcaaW.PrintLast
set_option linter.unusedSimpArgs false
set_option linter.unusedVariables false
theorem ValuesNames : spiritlevellaw04_ValuesNames.Pure := ⟨300, by decide +kernel⟩


end Go.Proofs.Ytfppehhhgbkhcaa.Pure
