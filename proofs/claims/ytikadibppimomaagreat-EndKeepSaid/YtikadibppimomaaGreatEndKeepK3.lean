/- The code is what the program's text comes to, part 3. -/
import Derived.Test.YtikadibppimomaaGreatEndKeepT
import Derived.KernelRfl
namespace Go.Proofs.YtikadibppimomaaGreat.Ev.EndKeep
set_option maxRecDepth 1000000
theorem ok9 : compFunc Tryz.prog tab 9 = some c9 := by kernel_rfl
theorem ok13 : compFunc Tryz.prog tab 13 = some c13 := by kernel_rfl
theorem ok20 : compFunc Tryz.prog tab 20 = some c20 := by kernel_rfl
theorem ok31 : compFunc Tryz.prog tab 31 = some c31 := by kernel_rfl
theorem ok36 : compFunc Tryz.prog tab 36 = some c36 := by kernel_rfl
theorem ok40 : compFunc Tryz.prog tab 40 = some c40 := by kernel_rfl
theorem ok44 : compFunc Tryz.prog tab 44 = some c44 := by kernel_rfl
theorem ok49 : compFunc Tryz.prog tab 49 = some c49 := by kernel_rfl
theorem ok53 : compFunc Tryz.prog tab 53 = some c53 := by kernel_rfl
theorem ok57 : compFunc Tryz.prog tab 57 = some c57 := by kernel_rfl
theorem ok70 : compFunc Tryz.prog tab 70 = some c70 := by kernel_rfl
theorem ok74 : compFunc Tryz.prog tab 74 = some c74 := by kernel_rfl
theorem ok78 : compFunc Tryz.prog tab 78 = some c78 := by kernel_rfl
theorem ok84 : compFunc Tryz.prog tab 84 = some c84 := by kernel_rfl
theorem ok89 : compFunc Tryz.prog tab 89 = some c89 := by kernel_rfl
theorem ok93 : compFunc Tryz.prog tab 93 = some c93 := by kernel_rfl
theorem ok97 : compFunc Tryz.prog tab 97 = some c97 := by kernel_rfl
theorem ok103 : compFunc Tryz.prog tab 103 = some c103 := by kernel_rfl
theorem ok107 : compFunc Tryz.prog tab 107 = some c107 := by kernel_rfl
theorem ok111 : compFunc Tryz.prog tab 111 = some c111 := by kernel_rfl
theorem ok115 : compFunc Tryz.prog tab 115 = some c115 := by kernel_rfl
theorem ok132 : compFunc Tryz.prog tab 132 = some c132 := by kernel_rfl
theorem ok138 : compFunc Tryz.prog tab 138 = some c138 := by kernel_rfl
theorem ok142 : compFunc Tryz.prog tab 142 = some c142 := by kernel_rfl
theorem ok148 : compFunc Tryz.prog tab 148 = some c148 := by kernel_rfl
theorem ok156 : compFunc Tryz.prog tab 156 = some c156 := by kernel_rfl
theorem ok162 : compFunc Tryz.prog tab 162 = some c162 := by kernel_rfl
theorem ok192 : compFunc Tryz.prog tab 192 = some c192 := by kernel_rfl
theorem ok205 : compFunc Tryz.prog tab 205 = some c205 := by kernel_rfl
theorem ok209 : compFunc Tryz.prog tab 209 = some c209 := by kernel_rfl
theorem ok216 : compFunc Tryz.prog tab 216 = some c216 := by kernel_rfl
theorem ok250 : compFunc Tryz.prog tab 250 = some c250 := by kernel_rfl
theorem ok256 : compFunc Tryz.prog tab 256 = some c256 := by kernel_rfl
theorem ok278 : compFunc Tryz.prog tab 278 = some c278 := by kernel_rfl
end Go.Proofs.YtikadibppimomaaGreat.Ev.EndKeep
