-- The part of the words text YtmcdanpecajklaaWQPut (printed by print.sh) that this claim uses.
import Derived.Test.YtmcdanpecajklaaVWWords
import Derived.Test.YtmcdanpecajklaaVWLast
namespace Go.Proofs.YtmcdanpecajklaaW.PrintWords
open Go.RowKit
namespace Kd
end Kd
end Go.Proofs.YtmcdanpecajklaaW.PrintWords
