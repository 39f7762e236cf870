-- The part of the words text YtnbccfecmpocaaaWZeros (printed by print.sh) that this claim uses.
import Derived.Test.YtnbccfecmpocaaaVWApart
import Derived.Test.YtnbccfecmpocaaaVWArr
namespace Go.Proofs.YtnbccfecmpocaaaW.PrintWords
open Go.RowKit
namespace Kd
end Kd
end Go.Proofs.YtnbccfecmpocaaaW.PrintWords
