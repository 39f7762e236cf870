/- The chapter's examples, limits, rules and errors of literals: one closed computation. No further condition. -/
import Derived.Test.YtmdabengejlijaaQLitsNamesx2
namespace Go.Proofs.Ytmdabengejlijaa.Pure
open Go.RowKit Go.Proofs.Ytmdabengejlijaa.QLitsNames Go.Proofs.YtmdabengejlijaaW.PrintWords Go.Proofs.YtmdabengejlijaaW.PrintLast
set_option linter.unusedSimpArgs false
set_option linter.unusedVariables false

theorem LitsNames : spiritlevellaw01_LitsNames.Pure := ⟨40, by decide +kernel⟩

end Go.Proofs.Ytmdabengejlijaa.Pure
