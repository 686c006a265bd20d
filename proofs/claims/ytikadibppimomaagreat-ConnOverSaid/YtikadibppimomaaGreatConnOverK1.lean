/- The code is what the program's text comes to, part 1. -/
import Derived.Test.YtikadibppimomaaGreatConnOverT
import Derived.KernelRfl
namespace Go.Proofs.YtikadibppimomaaGreat.Ev.ConnOver
set_option maxRecDepth 1000000
theorem ok7 : compFunc Tryz.prog tab 7 = some c7 := by kernel_rfl
theorem ok19 : compFunc Tryz.prog tab 19 = some c19 := by kernel_rfl
theorem ok26 : compFunc Tryz.prog tab 26 = some c26 := by kernel_rfl
theorem ok31 : compFunc Tryz.prog tab 31 = some c31 := by kernel_rfl
theorem ok44 : compFunc Tryz.prog tab 44 = some c44 := by kernel_rfl
theorem ok51 : compFunc Tryz.prog tab 51 = some c51 := by kernel_rfl
theorem ok55 : compFunc Tryz.prog tab 55 = some c55 := by kernel_rfl
theorem ok60 : compFunc Tryz.prog tab 60 = some c60 := by kernel_rfl
theorem ok65 : compFunc Tryz.prog tab 65 = some c65 := by kernel_rfl
theorem ok70 : compFunc Tryz.prog tab 70 = some c70 := by kernel_rfl
theorem ok74 : compFunc Tryz.prog tab 74 = some c74 := by kernel_rfl
theorem ok78 : compFunc Tryz.prog tab 78 = some c78 := by kernel_rfl
theorem ok82 : compFunc Tryz.prog tab 82 = some c82 := by kernel_rfl
theorem ok105 : compFunc Tryz.prog tab 105 = some c105 := by kernel_rfl
theorem ok109 : compFunc Tryz.prog tab 109 = some c109 := by kernel_rfl
theorem ok113 : compFunc Tryz.prog tab 113 = some c113 := by kernel_rfl
theorem ok118 : compFunc Tryz.prog tab 118 = some c118 := by kernel_rfl
theorem ok122 : compFunc Tryz.prog tab 122 = some c122 := by kernel_rfl
theorem ok127 : compFunc Tryz.prog tab 127 = some c127 := by kernel_rfl
theorem ok133 : compFunc Tryz.prog tab 133 = some c133 := by kernel_rfl
theorem ok144 : compFunc Tryz.prog tab 144 = some c144 := by kernel_rfl
theorem ok148 : compFunc Tryz.prog tab 148 = some c148 := by kernel_rfl
theorem ok156 : compFunc Tryz.prog tab 156 = some c156 := by kernel_rfl
theorem ok161 : compFunc Tryz.prog tab 161 = some c161 := by kernel_rfl
theorem ok166 : compFunc Tryz.prog tab 166 = some c166 := by kernel_rfl
theorem ok171 : compFunc Tryz.prog tab 171 = some c171 := by kernel_rfl
theorem ok178 : compFunc Tryz.prog tab 178 = some c178 := by kernel_rfl
theorem ok183 : compFunc Tryz.prog tab 183 = some c183 := by kernel_rfl
theorem ok192 : compFunc Tryz.prog tab 192 = some c192 := by kernel_rfl
theorem ok201 : compFunc Tryz.prog tab 201 = some c201 := by kernel_rfl
theorem ok206 : compFunc Tryz.prog tab 206 = some c206 := by kernel_rfl
theorem ok211 : compFunc Tryz.prog tab 211 = some c211 := by kernel_rfl
theorem ok218 : compFunc Tryz.prog tab 218 = some c218 := by kernel_rfl
theorem ok242 : compFunc Tryz.prog tab 242 = some c242 := by kernel_rfl
theorem ok254 : compFunc Tryz.prog tab 254 = some c254 := by kernel_rfl
theorem ok260 : compFunc Tryz.prog tab 260 = some c260 := by kernel_rfl
theorem ok271 : compFunc Tryz.prog tab 271 = some c271 := by kernel_rfl
end Go.Proofs.YtikadibppimomaaGreat.Ev.ConnOver
