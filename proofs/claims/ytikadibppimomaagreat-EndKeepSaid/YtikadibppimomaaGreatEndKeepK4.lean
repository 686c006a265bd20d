/- The code is what the program's text comes to, part 4. -/
import Derived.Test.YtikadibppimomaaGreatEndKeepT
import Derived.KernelRfl
namespace Go.Proofs.YtikadibppimomaaGreat.Ev.EndKeep
set_option maxRecDepth 1000000
theorem ok10 : compFunc Tryz.prog tab 10 = some c10 := by kernel_rfl
theorem ok14 : compFunc Tryz.prog tab 14 = some c14 := by kernel_rfl
theorem ok21 : compFunc Tryz.prog tab 21 = some c21 := by kernel_rfl
theorem ok33 : compFunc Tryz.prog tab 33 = some c33 := by kernel_rfl
theorem ok37 : compFunc Tryz.prog tab 37 = some c37 := by kernel_rfl
theorem ok41 : compFunc Tryz.prog tab 41 = some c41 := by kernel_rfl
theorem ok45 : compFunc Tryz.prog tab 45 = some c45 := by kernel_rfl
theorem ok50 : compFunc Tryz.prog tab 50 = some c50 := by kernel_rfl
theorem ok54 : compFunc Tryz.prog tab 54 = some c54 := by kernel_rfl
theorem ok58 : compFunc Tryz.prog tab 58 = some c58 := by kernel_rfl
theorem ok71 : compFunc Tryz.prog tab 71 = some c71 := by kernel_rfl
theorem ok75 : compFunc Tryz.prog tab 75 = some c75 := by kernel_rfl
theorem ok79 : compFunc Tryz.prog tab 79 = some c79 := by kernel_rfl
theorem ok86 : compFunc Tryz.prog tab 86 = some c86 := by kernel_rfl
theorem ok90 : compFunc Tryz.prog tab 90 = some c90 := by kernel_rfl
theorem ok94 : compFunc Tryz.prog tab 94 = some c94 := by kernel_rfl
theorem ok98 : compFunc Tryz.prog tab 98 = some c98 := by kernel_rfl
theorem ok104 : compFunc Tryz.prog tab 104 = some c104 := by kernel_rfl
theorem ok108 : compFunc Tryz.prog tab 108 = some c108 := by kernel_rfl
theorem ok112 : compFunc Tryz.prog tab 112 = some c112 := by kernel_rfl
theorem ok116 : compFunc Tryz.prog tab 116 = some c116 := by kernel_rfl
theorem ok133 : compFunc Tryz.prog tab 133 = some c133 := by kernel_rfl
theorem ok139 : compFunc Tryz.prog tab 139 = some c139 := by kernel_rfl
theorem ok145 : compFunc Tryz.prog tab 145 = some c145 := by kernel_rfl
theorem ok149 : compFunc Tryz.prog tab 149 = some c149 := by kernel_rfl
theorem ok158 : compFunc Tryz.prog tab 158 = some c158 := by kernel_rfl
theorem ok164 : compFunc Tryz.prog tab 164 = some c164 := by kernel_rfl
theorem ok199 : compFunc Tryz.prog tab 199 = some c199 := by kernel_rfl
theorem ok206 : compFunc Tryz.prog tab 206 = some c206 := by kernel_rfl
theorem ok211 : compFunc Tryz.prog tab 211 = some c211 := by kernel_rfl
theorem ok236 : compFunc Tryz.prog tab 236 = some c236 := by kernel_rfl
theorem ok251 : compFunc Tryz.prog tab 251 = some c251 := by kernel_rfl
theorem ok257 : compFunc Tryz.prog tab 257 = some c257 := by kernel_rfl
end Go.Proofs.YtikadibppimomaaGreat.Ev.EndKeep
