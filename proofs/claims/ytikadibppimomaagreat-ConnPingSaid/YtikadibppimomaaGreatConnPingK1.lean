/- The code is what the program's text comes to, part 1. -/
import Derived.Test.YtikadibppimomaaGreatConnPingT
import Derived.KernelRfl
namespace Go.Proofs.YtikadibppimomaaGreat.Ev.ConnPing
set_option maxRecDepth 1000000
theorem ok4 : compFunc Tryz.prog tab 4 = some c4 := by kernel_rfl
theorem ok17 : compFunc Tryz.prog tab 17 = some c17 := by kernel_rfl
theorem ok21 : compFunc Tryz.prog tab 21 = some c21 := by kernel_rfl
theorem ok32 : compFunc Tryz.prog tab 32 = some c32 := by kernel_rfl
theorem ok48 : compFunc Tryz.prog tab 48 = some c48 := by kernel_rfl
theorem ok52 : compFunc Tryz.prog tab 52 = some c52 := by kernel_rfl
theorem ok56 : compFunc Tryz.prog tab 56 = some c56 := by kernel_rfl
theorem ok62 : compFunc Tryz.prog tab 62 = some c62 := by kernel_rfl
theorem ok67 : compFunc Tryz.prog tab 67 = some c67 := by kernel_rfl
theorem ok71 : compFunc Tryz.prog tab 71 = some c71 := by kernel_rfl
theorem ok75 : compFunc Tryz.prog tab 75 = some c75 := by kernel_rfl
theorem ok79 : compFunc Tryz.prog tab 79 = some c79 := by kernel_rfl
theorem ok104 : compFunc Tryz.prog tab 104 = some c104 := by kernel_rfl
theorem ok108 : compFunc Tryz.prog tab 108 = some c108 := by kernel_rfl
theorem ok112 : compFunc Tryz.prog tab 112 = some c112 := by kernel_rfl
theorem ok116 : compFunc Tryz.prog tab 116 = some c116 := by kernel_rfl
theorem ok121 : compFunc Tryz.prog tab 121 = some c121 := by kernel_rfl
theorem ok125 : compFunc Tryz.prog tab 125 = some c125 := by kernel_rfl
theorem ok132 : compFunc Tryz.prog tab 132 = some c132 := by kernel_rfl
theorem ok144 : compFunc Tryz.prog tab 144 = some c144 := by kernel_rfl
theorem ok148 : compFunc Tryz.prog tab 148 = some c148 := by kernel_rfl
theorem ok156 : compFunc Tryz.prog tab 156 = some c156 := by kernel_rfl
theorem ok161 : compFunc Tryz.prog tab 161 = some c161 := by kernel_rfl
theorem ok166 : compFunc Tryz.prog tab 166 = some c166 := by kernel_rfl
theorem ok171 : compFunc Tryz.prog tab 171 = some c171 := by kernel_rfl
theorem ok178 : compFunc Tryz.prog tab 178 = some c178 := by kernel_rfl
theorem ok183 : compFunc Tryz.prog tab 183 = some c183 := by kernel_rfl
theorem ok188 : compFunc Tryz.prog tab 188 = some c188 := by kernel_rfl
theorem ok199 : compFunc Tryz.prog tab 199 = some c199 := by kernel_rfl
theorem ok203 : compFunc Tryz.prog tab 203 = some c203 := by kernel_rfl
theorem ok208 : compFunc Tryz.prog tab 208 = some c208 := by kernel_rfl
theorem ok214 : compFunc Tryz.prog tab 214 = some c214 := by kernel_rfl
theorem ok223 : compFunc Tryz.prog tab 223 = some c223 := by kernel_rfl
theorem ok242 : compFunc Tryz.prog tab 242 = some c242 := by kernel_rfl
theorem ok251 : compFunc Tryz.prog tab 251 = some c251 := by kernel_rfl
theorem ok257 : compFunc Tryz.prog tab 257 = some c257 := by kernel_rfl
theorem ok270 : compFunc Tryz.prog tab 270 = some c270 := by kernel_rfl
theorem ok299 : compFunc Tryz.prog tab 299 = some c299 := by kernel_rfl
end Go.Proofs.YtikadibppimomaaGreat.Ev.ConnPing
