-- The part of the words text YtnbccfecmpocaaaWArr (printed by print.sh) that this claim uses.
import Derived.Test.YtnbccfecmpocaaaVWWords
namespace Go.Proofs.YtnbccfecmpocaaaW.PrintWords
open Go.RowKit
namespace Kd
end Kd
end Go.Proofs.YtnbccfecmpocaaaW.PrintWords
