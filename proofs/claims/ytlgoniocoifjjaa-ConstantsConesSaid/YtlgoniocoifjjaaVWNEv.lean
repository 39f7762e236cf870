-- The part of the words text YtlgoniocoifjjaaWNEv (printed by print.sh) that this claim uses.
import Derived.Test.YtlgoniocoifjjaaVWN
namespace Go.Proofs.YtlgoniocoifjjaaW.PrintWords
open Go.RowKit
namespace Kd
end Kd
end Go.Proofs.YtlgoniocoifjjaaW.PrintWords
