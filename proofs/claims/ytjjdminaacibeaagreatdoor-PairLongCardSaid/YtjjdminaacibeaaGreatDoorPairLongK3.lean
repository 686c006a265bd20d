/- The code is what the program's text comes to, part 3. -/
import Derived.Test.YtjjdminaacibeaaGreatDoorPairLongT
import Derived.KernelRfl
namespace Go.Proofs.YtjjdminaacibeaaGreatDoor.Ev.PairLong
set_option maxRecDepth 1000000
theorem ok8 : compFunc Tryz.prog tab 8 = some c8 := by kernel_rfl
theorem ok15 : compFunc Tryz.prog tab 15 = some c15 := by kernel_rfl
theorem ok24 : compFunc Tryz.prog tab 24 = some c24 := by kernel_rfl
theorem ok28 : compFunc Tryz.prog tab 28 = some c28 := by kernel_rfl
theorem ok38 : compFunc Tryz.prog tab 38 = some c38 := by kernel_rfl
theorem ok43 : compFunc Tryz.prog tab 43 = some c43 := by kernel_rfl
theorem ok48 : compFunc Tryz.prog tab 48 = some c48 := by kernel_rfl
theorem ok56 : compFunc Tryz.prog tab 56 = some c56 := by kernel_rfl
theorem ok62 : compFunc Tryz.prog tab 62 = some c62 := by kernel_rfl
theorem ok67 : compFunc Tryz.prog tab 67 = some c67 := by kernel_rfl
theorem ok72 : compFunc Tryz.prog tab 72 = some c72 := by kernel_rfl
theorem ok76 : compFunc Tryz.prog tab 76 = some c76 := by kernel_rfl
theorem ok86 : compFunc Tryz.prog tab 86 = some c86 := by kernel_rfl
theorem ok91 : compFunc Tryz.prog tab 91 = some c91 := by kernel_rfl
theorem ok97 : compFunc Tryz.prog tab 97 = some c97 := by kernel_rfl
theorem ok106 : compFunc Tryz.prog tab 106 = some c106 := by kernel_rfl
theorem ok110 : compFunc Tryz.prog tab 110 = some c110 := by kernel_rfl
theorem ok115 : compFunc Tryz.prog tab 115 = some c115 := by kernel_rfl
theorem ok121 : compFunc Tryz.prog tab 121 = some c121 := by kernel_rfl
theorem ok128 : compFunc Tryz.prog tab 128 = some c128 := by kernel_rfl
theorem ok132 : compFunc Tryz.prog tab 132 = some c132 := by kernel_rfl
theorem ok144 : compFunc Tryz.prog tab 144 = some c144 := by kernel_rfl
theorem ok148 : compFunc Tryz.prog tab 148 = some c148 := by kernel_rfl
theorem ok153 : compFunc Tryz.prog tab 153 = some c153 := by kernel_rfl
theorem ok161 : compFunc Tryz.prog tab 161 = some c161 := by kernel_rfl
theorem ok167 : compFunc Tryz.prog tab 167 = some c167 := by kernel_rfl
theorem ok171 : compFunc Tryz.prog tab 171 = some c171 := by kernel_rfl
theorem ok175 : compFunc Tryz.prog tab 175 = some c175 := by kernel_rfl
theorem ok180 : compFunc Tryz.prog tab 180 = some c180 := by kernel_rfl
theorem ok186 : compFunc Tryz.prog tab 186 = some c186 := by kernel_rfl
theorem ok190 : compFunc Tryz.prog tab 190 = some c190 := by kernel_rfl
theorem ok194 : compFunc Tryz.prog tab 194 = some c194 := by kernel_rfl
theorem ok198 : compFunc Tryz.prog tab 198 = some c198 := by kernel_rfl
theorem ok213 : compFunc Tryz.prog tab 213 = some c213 := by kernel_rfl
theorem ok217 : compFunc Tryz.prog tab 217 = some c217 := by kernel_rfl
theorem ok223 : compFunc Tryz.prog tab 223 = some c223 := by kernel_rfl
theorem ok230 : compFunc Tryz.prog tab 230 = some c230 := by kernel_rfl
theorem ok238 : compFunc Tryz.prog tab 238 = some c238 := by kernel_rfl
theorem ok247 : compFunc Tryz.prog tab 247 = some c247 := by kernel_rfl
theorem ok254 : compFunc Tryz.prog tab 254 = some c254 := by kernel_rfl
theorem ok259 : compFunc Tryz.prog tab 259 = some c259 := by kernel_rfl
theorem ok267 : compFunc Tryz.prog tab 267 = some c267 := by kernel_rfl
theorem ok272 : compFunc Tryz.prog tab 272 = some c272 := by kernel_rfl
theorem ok283 : compFunc Tryz.prog tab 283 = some c283 := by kernel_rfl
theorem ok294 : compFunc Tryz.prog tab 294 = some c294 := by kernel_rfl
theorem ok301 : compFunc Tryz.prog tab 301 = some c301 := by kernel_rfl
theorem ok310 : compFunc Tryz.prog tab 310 = some c310 := by kernel_rfl
theorem ok323 : compFunc Tryz.prog tab 323 = some c323 := by kernel_rfl
theorem ok328 : compFunc Tryz.prog tab 328 = some c328 := by kernel_rfl
end Go.Proofs.YtjjdminaacibeaaGreatDoor.Ev.PairLong
