/- The methods that the run may call by name. -/
import Derived.Test.YtjjdminaacibeaaGreatConnFirstC3
import Derived.Test.YtjjdminaacibeaaGreatProg
namespace Go.Proofs.YtjjdminaacibeaaGreat.Ev.ConnFirst
set_option maxRecDepth 1000000
def tab (name : String) : List (TypeId × FuncId) :=
  if name == "Again" then [((nat_lit 45), (nat_lit 222))] else
  []
end Go.Proofs.YtjjdminaacibeaaGreat.Ev.ConnFirst
