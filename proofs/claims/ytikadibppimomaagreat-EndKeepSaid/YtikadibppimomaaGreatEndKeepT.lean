/- The methods that the run may call by name. -/
import Derived.Test.YtikadibppimomaaGreatEndKeepC2
import Derived.Test.YtikadibppimomaaGreatProg
namespace Go.Proofs.YtikadibppimomaaGreat.Ev.EndKeep
set_option maxRecDepth 1000000
def tab (name : String) : List (TypeId × FuncId) :=
  []
end Go.Proofs.YtikadibppimomaaGreat.Ev.EndKeep
