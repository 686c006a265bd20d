/- PairLong: the runs that are refused, the run that is not, the notes. -/
import Derived.Test.YtjjdminaacibeaaGreatDoorPairLongA
namespace Go.Proofs.YtjjdminaacibeaaGreatDoor.Ev.PairLong
set_option maxRecDepth 1000000
theorem fB : fitOut [] KN NPb EPb HPb (codeL 1000000 (runT Γ tbl 1000000) (preB ++ []) (mkEnv EPa) (mkHeap HPa NPa)) = true := by kernel_rfl
end Go.Proofs.YtjjdminaacibeaaGreatDoor.Ev.PairLong
