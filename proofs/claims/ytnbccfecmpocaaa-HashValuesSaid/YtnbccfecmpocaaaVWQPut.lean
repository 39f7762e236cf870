-- The part of the words text YtnbccfecmpocaaaWQPut (printed by print.sh) that this claim uses.
import Derived.Test.YtnbccfecmpocaaaVWWords
import Derived.Test.YtnbccfecmpocaaaVWLast
namespace Go.Proofs.YtnbccfecmpocaaaW.PrintWords
open Go.RowKit
namespace Kd
end Kd
end Go.Proofs.YtnbccfecmpocaaaW.PrintWords
