/- The methods that the run may call by name. -/
import Derived.Test.YtjjdminaacibeaaGreatDoorPairLongC4
import Derived.Test.YtjjdminaacibeaaGreatDoorProg
namespace Go.Proofs.YtjjdminaacibeaaGreatDoor.Ev.PairLong
set_option maxRecDepth 1000000
def tab (name : String) : List (TypeId × FuncId) :=
  []
end Go.Proofs.YtjjdminaacibeaaGreatDoor.Ev.PairLong
