/- The code is what the program's text comes to, part 2. -/
import Derived.Test.YtjjdminaacibeaaGreatDoorPairNoneT
import Derived.KernelRfl
namespace Go.Proofs.YtjjdminaacibeaaGreatDoor.Ev.PairNone
set_option maxRecDepth 1000000
theorem ok6 : compFunc Tryz.prog tab 6 = some c6 := by kernel_rfl
theorem ok15 : compFunc Tryz.prog tab 15 = some c15 := by kernel_rfl
theorem ok22 : compFunc Tryz.prog tab 22 = some c22 := by kernel_rfl
theorem ok29 : compFunc Tryz.prog tab 29 = some c29 := by kernel_rfl
theorem ok33 : compFunc Tryz.prog tab 33 = some c33 := by kernel_rfl
theorem ok38 : compFunc Tryz.prog tab 38 = some c38 := by kernel_rfl
theorem ok45 : compFunc Tryz.prog tab 45 = some c45 := by kernel_rfl
theorem ok50 : compFunc Tryz.prog tab 50 = some c50 := by kernel_rfl
theorem ok57 : compFunc Tryz.prog tab 57 = some c57 := by kernel_rfl
theorem ok64 : compFunc Tryz.prog tab 64 = some c64 := by kernel_rfl
theorem ok68 : compFunc Tryz.prog tab 68 = some c68 := by kernel_rfl
theorem ok74 : compFunc Tryz.prog tab 74 = some c74 := by kernel_rfl
theorem ok83 : compFunc Tryz.prog tab 83 = some c83 := by kernel_rfl
theorem ok88 : compFunc Tryz.prog tab 88 = some c88 := by kernel_rfl
theorem ok92 : compFunc Tryz.prog tab 92 = some c92 := by kernel_rfl
theorem ok105 : compFunc Tryz.prog tab 105 = some c105 := by kernel_rfl
theorem ok109 : compFunc Tryz.prog tab 109 = some c109 := by kernel_rfl
theorem ok113 : compFunc Tryz.prog tab 113 = some c113 := by kernel_rfl
theorem ok119 : compFunc Tryz.prog tab 119 = some c119 := by kernel_rfl
theorem ok127 : compFunc Tryz.prog tab 127 = some c127 := by kernel_rfl
theorem ok131 : compFunc Tryz.prog tab 131 = some c131 := by kernel_rfl
theorem ok143 : compFunc Tryz.prog tab 143 = some c143 := by kernel_rfl
theorem ok147 : compFunc Tryz.prog tab 147 = some c147 := by kernel_rfl
theorem ok152 : compFunc Tryz.prog tab 152 = some c152 := by kernel_rfl
theorem ok158 : compFunc Tryz.prog tab 158 = some c158 := by kernel_rfl
theorem ok166 : compFunc Tryz.prog tab 166 = some c166 := by kernel_rfl
theorem ok170 : compFunc Tryz.prog tab 170 = some c170 := by kernel_rfl
theorem ok174 : compFunc Tryz.prog tab 174 = some c174 := by kernel_rfl
theorem ok178 : compFunc Tryz.prog tab 178 = some c178 := by kernel_rfl
theorem ok185 : compFunc Tryz.prog tab 185 = some c185 := by kernel_rfl
theorem ok189 : compFunc Tryz.prog tab 189 = some c189 := by kernel_rfl
theorem ok193 : compFunc Tryz.prog tab 193 = some c193 := by kernel_rfl
theorem ok197 : compFunc Tryz.prog tab 197 = some c197 := by kernel_rfl
theorem ok212 : compFunc Tryz.prog tab 212 = some c212 := by kernel_rfl
theorem ok216 : compFunc Tryz.prog tab 216 = some c216 := by kernel_rfl
theorem ok222 : compFunc Tryz.prog tab 222 = some c222 := by kernel_rfl
theorem ok229 : compFunc Tryz.prog tab 229 = some c229 := by kernel_rfl
theorem ok237 : compFunc Tryz.prog tab 237 = some c237 := by kernel_rfl
theorem ok246 : compFunc Tryz.prog tab 246 = some c246 := by kernel_rfl
theorem ok253 : compFunc Tryz.prog tab 253 = some c253 := by kernel_rfl
theorem ok258 : compFunc Tryz.prog tab 258 = some c258 := by kernel_rfl
theorem ok265 : compFunc Tryz.prog tab 265 = some c265 := by kernel_rfl
theorem ok270 : compFunc Tryz.prog tab 270 = some c270 := by kernel_rfl
theorem ok279 : compFunc Tryz.prog tab 279 = some c279 := by kernel_rfl
theorem ok292 : compFunc Tryz.prog tab 292 = some c292 := by kernel_rfl
theorem ok300 : compFunc Tryz.prog tab 300 = some c300 := by kernel_rfl
theorem ok309 : compFunc Tryz.prog tab 309 = some c309 := by kernel_rfl
theorem ok322 : compFunc Tryz.prog tab 322 = some c322 := by kernel_rfl
theorem ok327 : compFunc Tryz.prog tab 327 = some c327 := by kernel_rfl
end Go.Proofs.YtjjdminaacibeaaGreatDoor.Ev.PairNone
