/- The code is what the program's text comes to, part 2. -/
import Derived.Test.YtjjdminaacibeaaGreatDoorPairLongT
import Derived.KernelRfl
namespace Go.Proofs.YtjjdminaacibeaaGreatDoor.Ev.PairLong
set_option maxRecDepth 1000000
theorem ok6 : compFunc Tryz.prog tab 6 = some c6 := by kernel_rfl
theorem ok11 : compFunc Tryz.prog tab 11 = some c11 := by kernel_rfl
theorem ok21 : compFunc Tryz.prog tab 21 = some c21 := by kernel_rfl
theorem ok27 : compFunc Tryz.prog tab 27 = some c27 := by kernel_rfl
theorem ok34 : compFunc Tryz.prog tab 34 = some c34 := by kernel_rfl
theorem ok41 : compFunc Tryz.prog tab 41 = some c41 := by kernel_rfl
theorem ok47 : compFunc Tryz.prog tab 47 = some c47 := by kernel_rfl
theorem ok52 : compFunc Tryz.prog tab 52 = some c52 := by kernel_rfl
theorem ok60 : compFunc Tryz.prog tab 60 = some c60 := by kernel_rfl
theorem ok66 : compFunc Tryz.prog tab 66 = some c66 := by kernel_rfl
theorem ok71 : compFunc Tryz.prog tab 71 = some c71 := by kernel_rfl
theorem ok75 : compFunc Tryz.prog tab 75 = some c75 := by kernel_rfl
theorem ok85 : compFunc Tryz.prog tab 85 = some c85 := by kernel_rfl
theorem ok90 : compFunc Tryz.prog tab 90 = some c90 := by kernel_rfl
theorem ok95 : compFunc Tryz.prog tab 95 = some c95 := by kernel_rfl
theorem ok105 : compFunc Tryz.prog tab 105 = some c105 := by kernel_rfl
theorem ok109 : compFunc Tryz.prog tab 109 = some c109 := by kernel_rfl
theorem ok113 : compFunc Tryz.prog tab 113 = some c113 := by kernel_rfl
theorem ok119 : compFunc Tryz.prog tab 119 = some c119 := by kernel_rfl
theorem ok127 : compFunc Tryz.prog tab 127 = some c127 := by kernel_rfl
theorem ok131 : compFunc Tryz.prog tab 131 = some c131 := by kernel_rfl
theorem ok143 : compFunc Tryz.prog tab 143 = some c143 := by kernel_rfl
theorem ok147 : compFunc Tryz.prog tab 147 = some c147 := by kernel_rfl
theorem ok152 : compFunc Tryz.prog tab 152 = some c152 := by kernel_rfl
theorem ok158 : compFunc Tryz.prog tab 158 = some c158 := by kernel_rfl
theorem ok166 : compFunc Tryz.prog tab 166 = some c166 := by kernel_rfl
theorem ok170 : compFunc Tryz.prog tab 170 = some c170 := by kernel_rfl
theorem ok174 : compFunc Tryz.prog tab 174 = some c174 := by kernel_rfl
theorem ok178 : compFunc Tryz.prog tab 178 = some c178 := by kernel_rfl
theorem ok185 : compFunc Tryz.prog tab 185 = some c185 := by kernel_rfl
theorem ok189 : compFunc Tryz.prog tab 189 = some c189 := by kernel_rfl
theorem ok193 : compFunc Tryz.prog tab 193 = some c193 := by kernel_rfl
theorem ok197 : compFunc Tryz.prog tab 197 = some c197 := by kernel_rfl
theorem ok212 : compFunc Tryz.prog tab 212 = some c212 := by kernel_rfl
theorem ok216 : compFunc Tryz.prog tab 216 = some c216 := by kernel_rfl
theorem ok222 : compFunc Tryz.prog tab 222 = some c222 := by kernel_rfl
theorem ok229 : compFunc Tryz.prog tab 229 = some c229 := by kernel_rfl
theorem ok237 : compFunc Tryz.prog tab 237 = some c237 := by kernel_rfl
theorem ok246 : compFunc Tryz.prog tab 246 = some c246 := by kernel_rfl
theorem ok253 : compFunc Tryz.prog tab 253 = some c253 := by kernel_rfl
theorem ok258 : compFunc Tryz.prog tab 258 = some c258 := by kernel_rfl
theorem ok265 : compFunc Tryz.prog tab 265 = some c265 := by kernel_rfl
theorem ok270 : compFunc Tryz.prog tab 270 = some c270 := by kernel_rfl
theorem ok279 : compFunc Tryz.prog tab 279 = some c279 := by kernel_rfl
theorem ok292 : compFunc Tryz.prog tab 292 = some c292 := by kernel_rfl
theorem ok300 : compFunc Tryz.prog tab 300 = some c300 := by kernel_rfl
theorem ok309 : compFunc Tryz.prog tab 309 = some c309 := by kernel_rfl
theorem ok322 : compFunc Tryz.prog tab 322 = some c322 := by kernel_rfl
theorem ok327 : compFunc Tryz.prog tab 327 = some c327 := by kernel_rfl
end Go.Proofs.YtjjdminaacibeaaGreatDoor.Ev.PairLong
