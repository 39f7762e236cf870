-- The part of the words text YtnbccfecmpocaaaWNEv (printed by print.sh) that this claim uses.
import Derived.Test.YtnbccfecmpocaaaVWN
namespace Go.Proofs.YtnbccfecmpocaaaW.PrintWords
open Go.RowKit
namespace Kd
end Kd
end Go.Proofs.YtnbccfecmpocaaaW.PrintWords
