/- The code is what the program's text comes to, part 1. -/
import Derived.Test.YtjjdminaacibeaaGreatDoorEndNoneT
import Derived.KernelRfl
namespace Go.Proofs.YtjjdminaacibeaaGreatDoor.Ev.EndNone
set_option maxRecDepth 1000000
theorem ok3 : compFunc Tryz.prog tab 3 = some c3 := by kernel_rfl
theorem ok9 : compFunc Tryz.prog tab 9 = some c9 := by kernel_rfl
theorem ok13 : compFunc Tryz.prog tab 13 = some c13 := by kernel_rfl
theorem ok17 : compFunc Tryz.prog tab 17 = some c17 := by kernel_rfl
theorem ok21 : compFunc Tryz.prog tab 21 = some c21 := by kernel_rfl
theorem ok42 : compFunc Tryz.prog tab 42 = some c42 := by kernel_rfl
theorem ok46 : compFunc Tryz.prog tab 46 = some c46 := by kernel_rfl
theorem ok51 : compFunc Tryz.prog tab 51 = some c51 := by kernel_rfl
theorem ok57 : compFunc Tryz.prog tab 57 = some c57 := by kernel_rfl
theorem ok64 : compFunc Tryz.prog tab 64 = some c64 := by kernel_rfl
theorem ok68 : compFunc Tryz.prog tab 68 = some c68 := by kernel_rfl
theorem ok97 : compFunc Tryz.prog tab 97 = some c97 := by kernel_rfl
theorem ok102 : compFunc Tryz.prog tab 102 = some c102 := by kernel_rfl
theorem ok108 : compFunc Tryz.prog tab 108 = some c108 := by kernel_rfl
theorem ok112 : compFunc Tryz.prog tab 112 = some c112 := by kernel_rfl
theorem ok118 : compFunc Tryz.prog tab 118 = some c118 := by kernel_rfl
theorem ok125 : compFunc Tryz.prog tab 125 = some c125 := by kernel_rfl
theorem ok129 : compFunc Tryz.prog tab 129 = some c129 := by kernel_rfl
theorem ok165 : compFunc Tryz.prog tab 165 = some c165 := by kernel_rfl
theorem ok169 : compFunc Tryz.prog tab 169 = some c169 := by kernel_rfl
theorem ok173 : compFunc Tryz.prog tab 173 = some c173 := by kernel_rfl
theorem ok177 : compFunc Tryz.prog tab 177 = some c177 := by kernel_rfl
theorem ok184 : compFunc Tryz.prog tab 184 = some c184 := by kernel_rfl
theorem ok188 : compFunc Tryz.prog tab 188 = some c188 := by kernel_rfl
theorem ok192 : compFunc Tryz.prog tab 192 = some c192 := by kernel_rfl
theorem ok201 : compFunc Tryz.prog tab 201 = some c201 := by kernel_rfl
theorem ok216 : compFunc Tryz.prog tab 216 = some c216 := by kernel_rfl
theorem ok249 : compFunc Tryz.prog tab 249 = some c249 := by kernel_rfl
theorem ok255 : compFunc Tryz.prog tab 255 = some c255 := by kernel_rfl
theorem ok263 : compFunc Tryz.prog tab 263 = some c263 := by kernel_rfl
theorem ok270 : compFunc Tryz.prog tab 270 = some c270 := by kernel_rfl
theorem ok289 : compFunc Tryz.prog tab 289 = some c289 := by kernel_rfl
theorem ok296 : compFunc Tryz.prog tab 296 = some c296 := by kernel_rfl
theorem ok305 : compFunc Tryz.prog tab 305 = some c305 := by kernel_rfl
theorem ok322 : compFunc Tryz.prog tab 322 = some c322 := by kernel_rfl
end Go.Proofs.YtjjdminaacibeaaGreatDoor.Ev.EndNone
