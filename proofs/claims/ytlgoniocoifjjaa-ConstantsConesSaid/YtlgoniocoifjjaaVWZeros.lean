-- The part of the words text YtlgoniocoifjjaaWZeros (printed by print.sh) that this claim uses.
import Derived.Test.YtlgoniocoifjjaaVWApart
import Derived.Test.YtlgoniocoifjjaaVWArr
namespace Go.Proofs.YtlgoniocoifjjaaW.PrintWords
open Go.RowKit
namespace Kd
end Kd
end Go.Proofs.YtlgoniocoifjjaaW.PrintWords
