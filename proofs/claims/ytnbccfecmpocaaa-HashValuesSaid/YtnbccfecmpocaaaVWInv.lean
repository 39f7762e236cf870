-- The part of the words text YtnbccfecmpocaaaWInv (printed by print.sh) that this claim uses.
import Derived.Test.YtnbccfecmpocaaaVWTab
namespace Go.Proofs.YtnbccfecmpocaaaW.PrintLast
def up (b : Nat → Bool) (i : Nat) : Nat → Bool := fun j => if j = i then true else b j
end Go.Proofs.YtnbccfecmpocaaaW.PrintLast
