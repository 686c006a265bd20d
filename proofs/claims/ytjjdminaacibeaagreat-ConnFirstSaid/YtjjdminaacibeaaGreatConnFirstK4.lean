/- The code is what the program's text comes to, part 4. -/
import Derived.Test.YtjjdminaacibeaaGreatConnFirstT
import Derived.KernelRfl
namespace Go.Proofs.YtjjdminaacibeaaGreat.Ev.ConnFirst
set_option maxRecDepth 1000000
theorem ok6 : compFunc Tryz.prog tab 6 = some c6 := by kernel_rfl
theorem ok10 : compFunc Tryz.prog tab 10 = some c10 := by kernel_rfl
theorem ok14 : compFunc Tryz.prog tab 14 = some c14 := by kernel_rfl
theorem ok18 : compFunc Tryz.prog tab 18 = some c18 := by kernel_rfl
theorem ok22 : compFunc Tryz.prog tab 22 = some c22 := by kernel_rfl
theorem ok26 : compFunc Tryz.prog tab 26 = some c26 := by kernel_rfl
theorem ok30 : compFunc Tryz.prog tab 30 = some c30 := by kernel_rfl
theorem ok34 : compFunc Tryz.prog tab 34 = some c34 := by kernel_rfl
theorem ok38 : compFunc Tryz.prog tab 38 = some c38 := by kernel_rfl
theorem ok42 : compFunc Tryz.prog tab 42 = some c42 := by kernel_rfl
theorem ok46 : compFunc Tryz.prog tab 46 = some c46 := by kernel_rfl
theorem ok50 : compFunc Tryz.prog tab 50 = some c50 := by kernel_rfl
theorem ok54 : compFunc Tryz.prog tab 54 = some c54 := by kernel_rfl
theorem ok58 : compFunc Tryz.prog tab 58 = some c58 := by kernel_rfl
theorem ok62 : compFunc Tryz.prog tab 62 = some c62 := by kernel_rfl
theorem ok67 : compFunc Tryz.prog tab 67 = some c67 := by kernel_rfl
theorem ok71 : compFunc Tryz.prog tab 71 = some c71 := by kernel_rfl
theorem ok75 : compFunc Tryz.prog tab 75 = some c75 := by kernel_rfl
theorem ok83 : compFunc Tryz.prog tab 83 = some c83 := by kernel_rfl
theorem ok88 : compFunc Tryz.prog tab 88 = some c88 := by kernel_rfl
theorem ok92 : compFunc Tryz.prog tab 92 = some c92 := by kernel_rfl
theorem ok97 : compFunc Tryz.prog tab 97 = some c97 := by kernel_rfl
theorem ok103 : compFunc Tryz.prog tab 103 = some c103 := by kernel_rfl
theorem ok111 : compFunc Tryz.prog tab 111 = some c111 := by kernel_rfl
theorem ok115 : compFunc Tryz.prog tab 115 = some c115 := by kernel_rfl
theorem ok122 : compFunc Tryz.prog tab 122 = some c122 := by kernel_rfl
theorem ok127 : compFunc Tryz.prog tab 127 = some c127 := by kernel_rfl
theorem ok135 : compFunc Tryz.prog tab 135 = some c135 := by kernel_rfl
theorem ok140 : compFunc Tryz.prog tab 140 = some c140 := by kernel_rfl
theorem ok149 : compFunc Tryz.prog tab 149 = some c149 := by kernel_rfl
theorem ok155 : compFunc Tryz.prog tab 155 = some c155 := by kernel_rfl
theorem ok166 : compFunc Tryz.prog tab 166 = some c166 := by kernel_rfl
theorem ok175 : compFunc Tryz.prog tab 175 = some c175 := by kernel_rfl
theorem ok183 : compFunc Tryz.prog tab 183 = some c183 := by kernel_rfl
theorem ok194 : compFunc Tryz.prog tab 194 = some c194 := by kernel_rfl
theorem ok222 : compFunc Tryz.prog tab 222 = some c222 := by kernel_rfl
end Go.Proofs.YtjjdminaacibeaaGreat.Ev.ConnFirst
