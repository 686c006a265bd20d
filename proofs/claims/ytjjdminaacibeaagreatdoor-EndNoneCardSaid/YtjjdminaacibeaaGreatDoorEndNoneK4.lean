/- The code is what the program's text comes to, part 4. -/
import Derived.Test.YtjjdminaacibeaaGreatDoorEndNoneT
import Derived.KernelRfl
namespace Go.Proofs.YtjjdminaacibeaaGreatDoor.Ev.EndNone
set_option maxRecDepth 1000000
theorem ok8 : compFunc Tryz.prog tab 8 = some c8 := by kernel_rfl
theorem ok12 : compFunc Tryz.prog tab 12 = some c12 := by kernel_rfl
theorem ok16 : compFunc Tryz.prog tab 16 = some c16 := by kernel_rfl
theorem ok20 : compFunc Tryz.prog tab 20 = some c20 := by kernel_rfl
theorem ok38 : compFunc Tryz.prog tab 38 = some c38 := by kernel_rfl
theorem ok45 : compFunc Tryz.prog tab 45 = some c45 := by kernel_rfl
theorem ok50 : compFunc Tryz.prog tab 50 = some c50 := by kernel_rfl
theorem ok56 : compFunc Tryz.prog tab 56 = some c56 := by kernel_rfl
theorem ok62 : compFunc Tryz.prog tab 62 = some c62 := by kernel_rfl
theorem ok67 : compFunc Tryz.prog tab 67 = some c67 := by kernel_rfl
theorem ok93 : compFunc Tryz.prog tab 93 = some c93 := by kernel_rfl
theorem ok100 : compFunc Tryz.prog tab 100 = some c100 := by kernel_rfl
theorem ok107 : compFunc Tryz.prog tab 107 = some c107 := by kernel_rfl
theorem ok111 : compFunc Tryz.prog tab 111 = some c111 := by kernel_rfl
theorem ok117 : compFunc Tryz.prog tab 117 = some c117 := by kernel_rfl
theorem ok122 : compFunc Tryz.prog tab 122 = some c122 := by kernel_rfl
theorem ok128 : compFunc Tryz.prog tab 128 = some c128 := by kernel_rfl
theorem ok162 : compFunc Tryz.prog tab 162 = some c162 := by kernel_rfl
theorem ok168 : compFunc Tryz.prog tab 168 = some c168 := by kernel_rfl
theorem ok172 : compFunc Tryz.prog tab 172 = some c172 := by kernel_rfl
theorem ok176 : compFunc Tryz.prog tab 176 = some c176 := by kernel_rfl
theorem ok183 : compFunc Tryz.prog tab 183 = some c183 := by kernel_rfl
theorem ok187 : compFunc Tryz.prog tab 187 = some c187 := by kernel_rfl
theorem ok191 : compFunc Tryz.prog tab 191 = some c191 := by kernel_rfl
theorem ok195 : compFunc Tryz.prog tab 195 = some c195 := by kernel_rfl
theorem ok215 : compFunc Tryz.prog tab 215 = some c215 := by kernel_rfl
theorem ok247 : compFunc Tryz.prog tab 247 = some c247 := by kernel_rfl
theorem ok254 : compFunc Tryz.prog tab 254 = some c254 := by kernel_rfl
theorem ok259 : compFunc Tryz.prog tab 259 = some c259 := by kernel_rfl
theorem ok267 : compFunc Tryz.prog tab 267 = some c267 := by kernel_rfl
theorem ok278 : compFunc Tryz.prog tab 278 = some c278 := by kernel_rfl
theorem ok294 : compFunc Tryz.prog tab 294 = some c294 := by kernel_rfl
theorem ok301 : compFunc Tryz.prog tab 301 = some c301 := by kernel_rfl
theorem ok321 : compFunc Tryz.prog tab 321 = some c321 := by kernel_rfl
theorem ok328 : compFunc Tryz.prog tab 328 = some c328 := by kernel_rfl
end Go.Proofs.YtjjdminaacibeaaGreatDoor.Ev.EndNone
