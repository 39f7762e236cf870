-- The part of the words text YtlgoniocoifjjaaWArr (printed by print.sh) that this claim uses.
import Derived.Test.YtlgoniocoifjjaaVWWords
namespace Go.Proofs.YtlgoniocoifjjaaW.PrintWords
open Go.RowKit
namespace Kd
end Kd
end Go.Proofs.YtlgoniocoifjjaaW.PrintWords
