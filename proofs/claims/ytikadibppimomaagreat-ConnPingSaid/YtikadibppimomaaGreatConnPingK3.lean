/- The code is what the program's text comes to, part 3. -/
import Derived.Test.YtikadibppimomaaGreatConnPingT
import Derived.KernelRfl
namespace Go.Proofs.YtikadibppimomaaGreat.Ev.ConnPing
set_option maxRecDepth 1000000
theorem ok15 : compFunc Tryz.prog tab 15 = some c15 := by kernel_rfl
theorem ok19 : compFunc Tryz.prog tab 19 = some c19 := by kernel_rfl
theorem ok26 : compFunc Tryz.prog tab 26 = some c26 := by kernel_rfl
theorem ok34 : compFunc Tryz.prog tab 34 = some c34 := by kernel_rfl
theorem ok50 : compFunc Tryz.prog tab 50 = some c50 := by kernel_rfl
theorem ok54 : compFunc Tryz.prog tab 54 = some c54 := by kernel_rfl
theorem ok59 : compFunc Tryz.prog tab 59 = some c59 := by kernel_rfl
theorem ok64 : compFunc Tryz.prog tab 64 = some c64 := by kernel_rfl
theorem ok69 : compFunc Tryz.prog tab 69 = some c69 := by kernel_rfl
theorem ok73 : compFunc Tryz.prog tab 73 = some c73 := by kernel_rfl
theorem ok77 : compFunc Tryz.prog tab 77 = some c77 := by kernel_rfl
theorem ok102 : compFunc Tryz.prog tab 102 = some c102 := by kernel_rfl
theorem ok106 : compFunc Tryz.prog tab 106 = some c106 := by kernel_rfl
theorem ok110 : compFunc Tryz.prog tab 110 = some c110 := by kernel_rfl
theorem ok114 : compFunc Tryz.prog tab 114 = some c114 := by kernel_rfl
theorem ok119 : compFunc Tryz.prog tab 119 = some c119 := by kernel_rfl
theorem ok123 : compFunc Tryz.prog tab 123 = some c123 := by kernel_rfl
theorem ok128 : compFunc Tryz.prog tab 128 = some c128 := by kernel_rfl
theorem ok134 : compFunc Tryz.prog tab 134 = some c134 := by kernel_rfl
theorem ok146 : compFunc Tryz.prog tab 146 = some c146 := by kernel_rfl
theorem ok152 : compFunc Tryz.prog tab 152 = some c152 := by kernel_rfl
theorem ok159 : compFunc Tryz.prog tab 159 = some c159 := by kernel_rfl
theorem ok164 : compFunc Tryz.prog tab 164 = some c164 := by kernel_rfl
theorem ok169 : compFunc Tryz.prog tab 169 = some c169 := by kernel_rfl
theorem ok174 : compFunc Tryz.prog tab 174 = some c174 := by kernel_rfl
theorem ok180 : compFunc Tryz.prog tab 180 = some c180 := by kernel_rfl
theorem ok185 : compFunc Tryz.prog tab 185 = some c185 := by kernel_rfl
theorem ok192 : compFunc Tryz.prog tab 192 = some c192 := by kernel_rfl
theorem ok201 : compFunc Tryz.prog tab 201 = some c201 := by kernel_rfl
theorem ok206 : compFunc Tryz.prog tab 206 = some c206 := by kernel_rfl
theorem ok211 : compFunc Tryz.prog tab 211 = some c211 := by kernel_rfl
theorem ok218 : compFunc Tryz.prog tab 218 = some c218 := by kernel_rfl
theorem ok237 : compFunc Tryz.prog tab 237 = some c237 := by kernel_rfl
theorem ok246 : compFunc Tryz.prog tab 246 = some c246 := by kernel_rfl
theorem ok255 : compFunc Tryz.prog tab 255 = some c255 := by kernel_rfl
theorem ok261 : compFunc Tryz.prog tab 261 = some c261 := by kernel_rfl
theorem ok274 : compFunc Tryz.prog tab 274 = some c274 := by kernel_rfl
end Go.Proofs.YtikadibppimomaaGreat.Ev.ConnPing
