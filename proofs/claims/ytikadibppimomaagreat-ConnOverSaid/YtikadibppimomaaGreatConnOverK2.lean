/- The code is what the program's text comes to, part 2. -/
import Derived.Test.YtikadibppimomaaGreatConnOverT
import Derived.KernelRfl
namespace Go.Proofs.YtikadibppimomaaGreat.Ev.ConnOver
set_option maxRecDepth 1000000
theorem ok10 : compFunc Tryz.prog tab 10 = some c10 := by kernel_rfl
theorem ok20 : compFunc Tryz.prog tab 20 = some c20 := by kernel_rfl
theorem ok28 : compFunc Tryz.prog tab 28 = some c28 := by kernel_rfl
theorem ok32 : compFunc Tryz.prog tab 32 = some c32 := by kernel_rfl
theorem ok48 : compFunc Tryz.prog tab 48 = some c48 := by kernel_rfl
theorem ok52 : compFunc Tryz.prog tab 52 = some c52 := by kernel_rfl
theorem ok56 : compFunc Tryz.prog tab 56 = some c56 := by kernel_rfl
theorem ok62 : compFunc Tryz.prog tab 62 = some c62 := by kernel_rfl
theorem ok67 : compFunc Tryz.prog tab 67 = some c67 := by kernel_rfl
theorem ok71 : compFunc Tryz.prog tab 71 = some c71 := by kernel_rfl
theorem ok75 : compFunc Tryz.prog tab 75 = some c75 := by kernel_rfl
theorem ok79 : compFunc Tryz.prog tab 79 = some c79 := by kernel_rfl
theorem ok102 : compFunc Tryz.prog tab 102 = some c102 := by kernel_rfl
theorem ok106 : compFunc Tryz.prog tab 106 = some c106 := by kernel_rfl
theorem ok110 : compFunc Tryz.prog tab 110 = some c110 := by kernel_rfl
theorem ok114 : compFunc Tryz.prog tab 114 = some c114 := by kernel_rfl
theorem ok119 : compFunc Tryz.prog tab 119 = some c119 := by kernel_rfl
theorem ok123 : compFunc Tryz.prog tab 123 = some c123 := by kernel_rfl
theorem ok128 : compFunc Tryz.prog tab 128 = some c128 := by kernel_rfl
theorem ok134 : compFunc Tryz.prog tab 134 = some c134 := by kernel_rfl
theorem ok145 : compFunc Tryz.prog tab 145 = some c145 := by kernel_rfl
theorem ok149 : compFunc Tryz.prog tab 149 = some c149 := by kernel_rfl
theorem ok158 : compFunc Tryz.prog tab 158 = some c158 := by kernel_rfl
theorem ok162 : compFunc Tryz.prog tab 162 = some c162 := by kernel_rfl
theorem ok168 : compFunc Tryz.prog tab 168 = some c168 := by kernel_rfl
theorem ok173 : compFunc Tryz.prog tab 173 = some c173 := by kernel_rfl
theorem ok179 : compFunc Tryz.prog tab 179 = some c179 := by kernel_rfl
theorem ok187 : compFunc Tryz.prog tab 187 = some c187 := by kernel_rfl
theorem ok198 : compFunc Tryz.prog tab 198 = some c198 := by kernel_rfl
theorem ok202 : compFunc Tryz.prog tab 202 = some c202 := by kernel_rfl
theorem ok207 : compFunc Tryz.prog tab 207 = some c207 := by kernel_rfl
theorem ok212 : compFunc Tryz.prog tab 212 = some c212 := by kernel_rfl
theorem ok236 : compFunc Tryz.prog tab 236 = some c236 := by kernel_rfl
theorem ok245 : compFunc Tryz.prog tab 245 = some c245 := by kernel_rfl
theorem ok255 : compFunc Tryz.prog tab 255 = some c255 := by kernel_rfl
theorem ok261 : compFunc Tryz.prog tab 261 = some c261 := by kernel_rfl
theorem ok274 : compFunc Tryz.prog tab 274 = some c274 := by kernel_rfl
end Go.Proofs.YtikadibppimomaaGreat.Ev.ConnOver
