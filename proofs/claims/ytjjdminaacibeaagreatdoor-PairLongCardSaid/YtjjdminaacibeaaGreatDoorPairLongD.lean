/- PairLong: the last pieces. -/
import Derived.Test.YtjjdminaacibeaaGreatDoorPairLongA
namespace Go.Proofs.YtjjdminaacibeaaGreatDoor.Ev.PairLong
set_option maxRecDepth 1000000
theorem fD : retOk 0 (codeE 1000000 (runT Γ tbl 1000000) qB (mkEnv EPb) (mkHeap HPb NPb)) = true := by kernel_rfl
end Go.Proofs.YtjjdminaacibeaaGreatDoor.Ev.PairLong
