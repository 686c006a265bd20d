/- The code is what the program's text comes to, part 4. -/
import Derived.Test.YtjjdminaacibeaaGreatDoorPairLongT
import Derived.KernelRfl
namespace Go.Proofs.YtjjdminaacibeaaGreatDoor.Ev.PairLong
set_option maxRecDepth 1000000
theorem ok9 : compFunc Tryz.prog tab 9 = some c9 := by kernel_rfl
theorem ok17 : compFunc Tryz.prog tab 17 = some c17 := by kernel_rfl
theorem ok25 : compFunc Tryz.prog tab 25 = some c25 := by kernel_rfl
theorem ok30 : compFunc Tryz.prog tab 30 = some c30 := by kernel_rfl
theorem ok39 : compFunc Tryz.prog tab 39 = some c39 := by kernel_rfl
theorem ok45 : compFunc Tryz.prog tab 45 = some c45 := by kernel_rfl
theorem ok50 : compFunc Tryz.prog tab 50 = some c50 := by kernel_rfl
theorem ok57 : compFunc Tryz.prog tab 57 = some c57 := by kernel_rfl
theorem ok64 : compFunc Tryz.prog tab 64 = some c64 := by kernel_rfl
theorem ok68 : compFunc Tryz.prog tab 68 = some c68 := by kernel_rfl
theorem ok73 : compFunc Tryz.prog tab 73 = some c73 := by kernel_rfl
theorem ok83 : compFunc Tryz.prog tab 83 = some c83 := by kernel_rfl
theorem ok88 : compFunc Tryz.prog tab 88 = some c88 := by kernel_rfl
theorem ok92 : compFunc Tryz.prog tab 92 = some c92 := by kernel_rfl
theorem ok99 : compFunc Tryz.prog tab 99 = some c99 := by kernel_rfl
theorem ok107 : compFunc Tryz.prog tab 107 = some c107 := by kernel_rfl
theorem ok111 : compFunc Tryz.prog tab 111 = some c111 := by kernel_rfl
theorem ok116 : compFunc Tryz.prog tab 116 = some c116 := by kernel_rfl
theorem ok125 : compFunc Tryz.prog tab 125 = some c125 := by kernel_rfl
theorem ok129 : compFunc Tryz.prog tab 129 = some c129 := by kernel_rfl
theorem ok134 : compFunc Tryz.prog tab 134 = some c134 := by kernel_rfl
theorem ok145 : compFunc Tryz.prog tab 145 = some c145 := by kernel_rfl
theorem ok149 : compFunc Tryz.prog tab 149 = some c149 := by kernel_rfl
theorem ok154 : compFunc Tryz.prog tab 154 = some c154 := by kernel_rfl
theorem ok162 : compFunc Tryz.prog tab 162 = some c162 := by kernel_rfl
theorem ok168 : compFunc Tryz.prog tab 168 = some c168 := by kernel_rfl
theorem ok172 : compFunc Tryz.prog tab 172 = some c172 := by kernel_rfl
theorem ok176 : compFunc Tryz.prog tab 176 = some c176 := by kernel_rfl
theorem ok183 : compFunc Tryz.prog tab 183 = some c183 := by kernel_rfl
theorem ok187 : compFunc Tryz.prog tab 187 = some c187 := by kernel_rfl
theorem ok191 : compFunc Tryz.prog tab 191 = some c191 := by kernel_rfl
theorem ok195 : compFunc Tryz.prog tab 195 = some c195 := by kernel_rfl
theorem ok201 : compFunc Tryz.prog tab 201 = some c201 := by kernel_rfl
theorem ok214 : compFunc Tryz.prog tab 214 = some c214 := by kernel_rfl
theorem ok220 : compFunc Tryz.prog tab 220 = some c220 := by kernel_rfl
theorem ok225 : compFunc Tryz.prog tab 225 = some c225 := by kernel_rfl
theorem ok231 : compFunc Tryz.prog tab 231 = some c231 := by kernel_rfl
theorem ok239 : compFunc Tryz.prog tab 239 = some c239 := by kernel_rfl
theorem ok249 : compFunc Tryz.prog tab 249 = some c249 := by kernel_rfl
theorem ok255 : compFunc Tryz.prog tab 255 = some c255 := by kernel_rfl
theorem ok263 : compFunc Tryz.prog tab 263 = some c263 := by kernel_rfl
theorem ok268 : compFunc Tryz.prog tab 268 = some c268 := by kernel_rfl
theorem ok277 : compFunc Tryz.prog tab 277 = some c277 := by kernel_rfl
theorem ok289 : compFunc Tryz.prog tab 289 = some c289 := by kernel_rfl
theorem ok296 : compFunc Tryz.prog tab 296 = some c296 := by kernel_rfl
theorem ok305 : compFunc Tryz.prog tab 305 = some c305 := by kernel_rfl
theorem ok319 : compFunc Tryz.prog tab 319 = some c319 := by kernel_rfl
theorem ok324 : compFunc Tryz.prog tab 324 = some c324 := by kernel_rfl
theorem ok333 : compFunc Tryz.prog tab 333 = some c333 := by kernel_rfl
end Go.Proofs.YtjjdminaacibeaaGreatDoor.Ev.PairLong
