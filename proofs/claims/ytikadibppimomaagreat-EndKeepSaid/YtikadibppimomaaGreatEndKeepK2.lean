/- The code is what the program's text comes to, part 2. -/
import Derived.Test.YtikadibppimomaaGreatEndKeepT
import Derived.KernelRfl
namespace Go.Proofs.YtikadibppimomaaGreat.Ev.EndKeep
set_option maxRecDepth 1000000
theorem ok8 : compFunc Tryz.prog tab 8 = some c8 := by kernel_rfl
theorem ok12 : compFunc Tryz.prog tab 12 = some c12 := by kernel_rfl
theorem ok19 : compFunc Tryz.prog tab 19 = some c19 := by kernel_rfl
theorem ok28 : compFunc Tryz.prog tab 28 = some c28 := by kernel_rfl
theorem ok35 : compFunc Tryz.prog tab 35 = some c35 := by kernel_rfl
theorem ok39 : compFunc Tryz.prog tab 39 = some c39 := by kernel_rfl
theorem ok43 : compFunc Tryz.prog tab 43 = some c43 := by kernel_rfl
theorem ok47 : compFunc Tryz.prog tab 47 = some c47 := by kernel_rfl
theorem ok52 : compFunc Tryz.prog tab 52 = some c52 := by kernel_rfl
theorem ok56 : compFunc Tryz.prog tab 56 = some c56 := by kernel_rfl
theorem ok69 : compFunc Tryz.prog tab 69 = some c69 := by kernel_rfl
theorem ok73 : compFunc Tryz.prog tab 73 = some c73 := by kernel_rfl
theorem ok77 : compFunc Tryz.prog tab 77 = some c77 := by kernel_rfl
theorem ok81 : compFunc Tryz.prog tab 81 = some c81 := by kernel_rfl
theorem ok88 : compFunc Tryz.prog tab 88 = some c88 := by kernel_rfl
theorem ok92 : compFunc Tryz.prog tab 92 = some c92 := by kernel_rfl
theorem ok96 : compFunc Tryz.prog tab 96 = some c96 := by kernel_rfl
theorem ok100 : compFunc Tryz.prog tab 100 = some c100 := by kernel_rfl
theorem ok106 : compFunc Tryz.prog tab 106 = some c106 := by kernel_rfl
theorem ok110 : compFunc Tryz.prog tab 110 = some c110 := by kernel_rfl
theorem ok114 : compFunc Tryz.prog tab 114 = some c114 := by kernel_rfl
theorem ok131 : compFunc Tryz.prog tab 131 = some c131 := by kernel_rfl
theorem ok135 : compFunc Tryz.prog tab 135 = some c135 := by kernel_rfl
theorem ok141 : compFunc Tryz.prog tab 141 = some c141 := by kernel_rfl
theorem ok147 : compFunc Tryz.prog tab 147 = some c147 := by kernel_rfl
theorem ok154 : compFunc Tryz.prog tab 154 = some c154 := by kernel_rfl
theorem ok160 : compFunc Tryz.prog tab 160 = some c160 := by kernel_rfl
theorem ok166 : compFunc Tryz.prog tab 166 = some c166 := by kernel_rfl
theorem ok201 : compFunc Tryz.prog tab 201 = some c201 := by kernel_rfl
theorem ok208 : compFunc Tryz.prog tab 208 = some c208 := by kernel_rfl
theorem ok214 : compFunc Tryz.prog tab 214 = some c214 := by kernel_rfl
theorem ok238 : compFunc Tryz.prog tab 238 = some c238 := by kernel_rfl
theorem ok255 : compFunc Tryz.prog tab 255 = some c255 := by kernel_rfl
theorem ok274 : compFunc Tryz.prog tab 274 = some c274 := by kernel_rfl
end Go.Proofs.YtikadibppimomaaGreat.Ev.EndKeep
