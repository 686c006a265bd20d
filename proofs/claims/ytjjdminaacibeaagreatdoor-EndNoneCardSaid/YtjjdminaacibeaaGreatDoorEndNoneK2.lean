/- The code is what the program's text comes to, part 2. -/
import Derived.Test.YtjjdminaacibeaaGreatDoorEndNoneT
import Derived.KernelRfl
namespace Go.Proofs.YtjjdminaacibeaaGreatDoor.Ev.EndNone
set_option maxRecDepth 1000000
theorem ok6 : compFunc Tryz.prog tab 6 = some c6 := by kernel_rfl
theorem ok10 : compFunc Tryz.prog tab 10 = some c10 := by kernel_rfl
theorem ok14 : compFunc Tryz.prog tab 14 = some c14 := by kernel_rfl
theorem ok18 : compFunc Tryz.prog tab 18 = some c18 := by kernel_rfl
theorem ok22 : compFunc Tryz.prog tab 22 = some c22 := by kernel_rfl
theorem ok43 : compFunc Tryz.prog tab 43 = some c43 := by kernel_rfl
theorem ok47 : compFunc Tryz.prog tab 47 = some c47 := by kernel_rfl
theorem ok54 : compFunc Tryz.prog tab 54 = some c54 := by kernel_rfl
theorem ok59 : compFunc Tryz.prog tab 59 = some c59 := by kernel_rfl
theorem ok65 : compFunc Tryz.prog tab 65 = some c65 := by kernel_rfl
theorem ok83 : compFunc Tryz.prog tab 83 = some c83 := by kernel_rfl
theorem ok98 : compFunc Tryz.prog tab 98 = some c98 := by kernel_rfl
theorem ok105 : compFunc Tryz.prog tab 105 = some c105 := by kernel_rfl
theorem ok109 : compFunc Tryz.prog tab 109 = some c109 := by kernel_rfl
theorem ok113 : compFunc Tryz.prog tab 113 = some c113 := by kernel_rfl
theorem ok119 : compFunc Tryz.prog tab 119 = some c119 := by kernel_rfl
theorem ok126 : compFunc Tryz.prog tab 126 = some c126 := by kernel_rfl
theorem ok145 : compFunc Tryz.prog tab 145 = some c145 := by kernel_rfl
theorem ok166 : compFunc Tryz.prog tab 166 = some c166 := by kernel_rfl
theorem ok170 : compFunc Tryz.prog tab 170 = some c170 := by kernel_rfl
theorem ok174 : compFunc Tryz.prog tab 174 = some c174 := by kernel_rfl
theorem ok178 : compFunc Tryz.prog tab 178 = some c178 := by kernel_rfl
theorem ok185 : compFunc Tryz.prog tab 185 = some c185 := by kernel_rfl
theorem ok189 : compFunc Tryz.prog tab 189 = some c189 := by kernel_rfl
theorem ok193 : compFunc Tryz.prog tab 193 = some c193 := by kernel_rfl
theorem ok210 : compFunc Tryz.prog tab 210 = some c210 := by kernel_rfl
theorem ok242 : compFunc Tryz.prog tab 242 = some c242 := by kernel_rfl
theorem ok251 : compFunc Tryz.prog tab 251 = some c251 := by kernel_rfl
theorem ok257 : compFunc Tryz.prog tab 257 = some c257 := by kernel_rfl
theorem ok264 : compFunc Tryz.prog tab 264 = some c264 := by kernel_rfl
theorem ok272 : compFunc Tryz.prog tab 272 = some c272 := by kernel_rfl
theorem ok290 : compFunc Tryz.prog tab 290 = some c290 := by kernel_rfl
theorem ok299 : compFunc Tryz.prog tab 299 = some c299 := by kernel_rfl
theorem ok310 : compFunc Tryz.prog tab 310 = some c310 := by kernel_rfl
theorem ok326 : compFunc Tryz.prog tab 326 = some c326 := by kernel_rfl
end Go.Proofs.YtjjdminaacibeaaGreatDoor.Ev.EndNone
