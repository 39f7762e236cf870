-- The part of the words text YtmcdanpecajklaaWInv (printed by print.sh) that this claim uses.
import Derived.Test.YtmcdanpecajklaaVWTab
namespace Go.Proofs.YtmcdanpecajklaaW.PrintLast
def up (b : Nat → Bool) (i : Nat) : Nat → Bool := fun j => if j = i then true else b j
end Go.Proofs.YtmcdanpecajklaaW.PrintLast
