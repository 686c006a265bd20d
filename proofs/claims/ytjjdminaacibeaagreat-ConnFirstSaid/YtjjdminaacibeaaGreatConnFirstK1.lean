/- The code is what the program's text comes to, part 1. -/
import Derived.Test.YtjjdminaacibeaaGreatConnFirstT
import Derived.KernelRfl
namespace Go.Proofs.YtjjdminaacibeaaGreat.Ev.ConnFirst
set_option maxRecDepth 1000000
theorem ok3 : compFunc Tryz.prog tab 3 = some c3 := by kernel_rfl
theorem ok7 : compFunc Tryz.prog tab 7 = some c7 := by kernel_rfl
theorem ok11 : compFunc Tryz.prog tab 11 = some c11 := by kernel_rfl
theorem ok15 : compFunc Tryz.prog tab 15 = some c15 := by kernel_rfl
theorem ok19 : compFunc Tryz.prog tab 19 = some c19 := by kernel_rfl
theorem ok23 : compFunc Tryz.prog tab 23 = some c23 := by kernel_rfl
theorem ok27 : compFunc Tryz.prog tab 27 = some c27 := by kernel_rfl
theorem ok31 : compFunc Tryz.prog tab 31 = some c31 := by kernel_rfl
theorem ok35 : compFunc Tryz.prog tab 35 = some c35 := by kernel_rfl
theorem ok39 : compFunc Tryz.prog tab 39 = some c39 := by kernel_rfl
theorem ok43 : compFunc Tryz.prog tab 43 = some c43 := by kernel_rfl
theorem ok47 : compFunc Tryz.prog tab 47 = some c47 := by kernel_rfl
theorem ok51 : compFunc Tryz.prog tab 51 = some c51 := by kernel_rfl
theorem ok55 : compFunc Tryz.prog tab 55 = some c55 := by kernel_rfl
theorem ok59 : compFunc Tryz.prog tab 59 = some c59 := by kernel_rfl
theorem ok63 : compFunc Tryz.prog tab 63 = some c63 := by kernel_rfl
theorem ok68 : compFunc Tryz.prog tab 68 = some c68 := by kernel_rfl
theorem ok72 : compFunc Tryz.prog tab 72 = some c72 := by kernel_rfl
theorem ok76 : compFunc Tryz.prog tab 76 = some c76 := by kernel_rfl
theorem ok85 : compFunc Tryz.prog tab 85 = some c85 := by kernel_rfl
theorem ok89 : compFunc Tryz.prog tab 89 = some c89 := by kernel_rfl
theorem ok94 : compFunc Tryz.prog tab 94 = some c94 := by kernel_rfl
theorem ok99 : compFunc Tryz.prog tab 99 = some c99 := by kernel_rfl
theorem ok104 : compFunc Tryz.prog tab 104 = some c104 := by kernel_rfl
theorem ok112 : compFunc Tryz.prog tab 112 = some c112 := by kernel_rfl
theorem ok117 : compFunc Tryz.prog tab 117 = some c117 := by kernel_rfl
theorem ok124 : compFunc Tryz.prog tab 124 = some c124 := by kernel_rfl
theorem ok129 : compFunc Tryz.prog tab 129 = some c129 := by kernel_rfl
theorem ok136 : compFunc Tryz.prog tab 136 = some c136 := by kernel_rfl
theorem ok144 : compFunc Tryz.prog tab 144 = some c144 := by kernel_rfl
theorem ok152 : compFunc Tryz.prog tab 152 = some c152 := by kernel_rfl
theorem ok156 : compFunc Tryz.prog tab 156 = some c156 := by kernel_rfl
theorem ok170 : compFunc Tryz.prog tab 170 = some c170 := by kernel_rfl
theorem ok176 : compFunc Tryz.prog tab 176 = some c176 := by kernel_rfl
theorem ok189 : compFunc Tryz.prog tab 189 = some c189 := by kernel_rfl
theorem ok197 : compFunc Tryz.prog tab 197 = some c197 := by kernel_rfl
end Go.Proofs.YtjjdminaacibeaaGreat.Ev.ConnFirst
