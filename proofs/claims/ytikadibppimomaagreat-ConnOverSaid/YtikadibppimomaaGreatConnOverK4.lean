/- The code is what the program's text comes to, part 4. -/
import Derived.Test.YtikadibppimomaaGreatConnOverT
import Derived.KernelRfl
namespace Go.Proofs.YtikadibppimomaaGreat.Ev.ConnOver
set_option maxRecDepth 1000000
theorem ok17 : compFunc Tryz.prog tab 17 = some c17 := by kernel_rfl
theorem ok25 : compFunc Tryz.prog tab 25 = some c25 := by kernel_rfl
theorem ok30 : compFunc Tryz.prog tab 30 = some c30 := by kernel_rfl
theorem ok34 : compFunc Tryz.prog tab 34 = some c34 := by kernel_rfl
theorem ok50 : compFunc Tryz.prog tab 50 = some c50 := by kernel_rfl
theorem ok54 : compFunc Tryz.prog tab 54 = some c54 := by kernel_rfl
theorem ok59 : compFunc Tryz.prog tab 59 = some c59 := by kernel_rfl
theorem ok64 : compFunc Tryz.prog tab 64 = some c64 := by kernel_rfl
theorem ok69 : compFunc Tryz.prog tab 69 = some c69 := by kernel_rfl
theorem ok73 : compFunc Tryz.prog tab 73 = some c73 := by kernel_rfl
theorem ok77 : compFunc Tryz.prog tab 77 = some c77 := by kernel_rfl
theorem ok81 : compFunc Tryz.prog tab 81 = some c81 := by kernel_rfl
theorem ok104 : compFunc Tryz.prog tab 104 = some c104 := by kernel_rfl
theorem ok108 : compFunc Tryz.prog tab 108 = some c108 := by kernel_rfl
theorem ok112 : compFunc Tryz.prog tab 112 = some c112 := by kernel_rfl
theorem ok116 : compFunc Tryz.prog tab 116 = some c116 := by kernel_rfl
theorem ok121 : compFunc Tryz.prog tab 121 = some c121 := by kernel_rfl
theorem ok125 : compFunc Tryz.prog tab 125 = some c125 := by kernel_rfl
theorem ok132 : compFunc Tryz.prog tab 132 = some c132 := by kernel_rfl
theorem ok139 : compFunc Tryz.prog tab 139 = some c139 := by kernel_rfl
theorem ok147 : compFunc Tryz.prog tab 147 = some c147 := by kernel_rfl
theorem ok154 : compFunc Tryz.prog tab 154 = some c154 := by kernel_rfl
theorem ok160 : compFunc Tryz.prog tab 160 = some c160 := by kernel_rfl
theorem ok165 : compFunc Tryz.prog tab 165 = some c165 := by kernel_rfl
theorem ok170 : compFunc Tryz.prog tab 170 = some c170 := by kernel_rfl
theorem ok176 : compFunc Tryz.prog tab 176 = some c176 := by kernel_rfl
theorem ok181 : compFunc Tryz.prog tab 181 = some c181 := by kernel_rfl
theorem ok189 : compFunc Tryz.prog tab 189 = some c189 := by kernel_rfl
theorem ok200 : compFunc Tryz.prog tab 200 = some c200 := by kernel_rfl
theorem ok205 : compFunc Tryz.prog tab 205 = some c205 := by kernel_rfl
theorem ok209 : compFunc Tryz.prog tab 209 = some c209 := by kernel_rfl
theorem ok216 : compFunc Tryz.prog tab 216 = some c216 := by kernel_rfl
theorem ok238 : compFunc Tryz.prog tab 238 = some c238 := by kernel_rfl
theorem ok251 : compFunc Tryz.prog tab 251 = some c251 := by kernel_rfl
theorem ok257 : compFunc Tryz.prog tab 257 = some c257 := by kernel_rfl
theorem ok270 : compFunc Tryz.prog tab 270 = some c270 := by kernel_rfl
theorem ok299 : compFunc Tryz.prog tab 299 = some c299 := by kernel_rfl
end Go.Proofs.YtikadibppimomaaGreat.Ev.ConnOver
