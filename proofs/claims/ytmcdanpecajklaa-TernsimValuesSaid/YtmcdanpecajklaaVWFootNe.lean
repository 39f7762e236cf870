-- The part of the words text YtmcdanpecajklaaWFootNe (printed by print.sh) that this claim uses.
import Derived.Test.YtmcdanpecajklaaVWN
namespace Go.Proofs.YtmcdanpecajklaaW.PrintWords
open Go.RowKit
namespace Kd
end Kd
end Go.Proofs.YtmcdanpecajklaaW.PrintWords
