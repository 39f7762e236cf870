-- The part of the words text YtlgoniocoifjjaaWQPut (printed by print.sh) that this claim uses.
import Derived.Test.YtlgoniocoifjjaaVWWords
import Derived.Test.YtlgoniocoifjjaaVWLast
namespace Go.Proofs.YtlgoniocoifjjaaW.PrintWords
open Go.RowKit
namespace Kd
end Kd
end Go.Proofs.YtlgoniocoifjjaaW.PrintWords
