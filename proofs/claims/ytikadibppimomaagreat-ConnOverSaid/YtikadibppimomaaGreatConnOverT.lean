/- The methods that the run may call by name. -/
import Derived.Test.YtikadibppimomaaGreatConnOverC3
import Derived.Test.YtikadibppimomaaGreatProg
namespace Go.Proofs.YtikadibppimomaaGreat.Ev.ConnOver
set_option maxRecDepth 1000000
def tab (name : String) : List (TypeId × FuncId) :=
  if name == "Again" then [((nat_lit 99), (nat_lit 299))] else
  []
end Go.Proofs.YtikadibppimomaaGreat.Ev.ConnOver
