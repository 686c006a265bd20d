/- The run of the evaluator on the law's function, and what it says of the program's. -/
import Derived.Test.YtjjdminaacibeaaGreatDoorPairNoneG
namespace Go.Proofs.YtjjdminaacibeaaGreatDoor.Ev.PairNone
set_option maxRecDepth 1000000
theorem run_true : isTrue (run Γ 1000000 (.func (.func 5) [] []) [] heap0) = true := by kernel_rfl
theorem follows : Tryz.prog.follows .mixedOrders = true := by kernel_rfl
theorem calls (w : World) : Calls Tryz.prog 5 #[] w fun e w' => e = .returned (.bool true) ∧ Go.RowKit.Below w.heap.size w w' :=
  closed_true follows code (f := 5) rfl run_true w
end Go.Proofs.YtjjdminaacibeaaGreatDoor.Ev.PairNone
