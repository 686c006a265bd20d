/- The code is what the program's text comes to, part 2. -/
import Derived.Test.YtikadibppimomaaGreatConnPingT
import Derived.KernelRfl
namespace Go.Proofs.YtikadibppimomaaGreat.Ev.ConnPing
set_option maxRecDepth 1000000
theorem ok10 : compFunc Tryz.prog tab 10 = some c10 := by kernel_rfl
theorem ok18 : compFunc Tryz.prog tab 18 = some c18 := by kernel_rfl
theorem ok25 : compFunc Tryz.prog tab 25 = some c25 := by kernel_rfl
theorem ok33 : compFunc Tryz.prog tab 33 = some c33 := by kernel_rfl
theorem ok49 : compFunc Tryz.prog tab 49 = some c49 := by kernel_rfl
theorem ok53 : compFunc Tryz.prog tab 53 = some c53 := by kernel_rfl
theorem ok57 : compFunc Tryz.prog tab 57 = some c57 := by kernel_rfl
theorem ok63 : compFunc Tryz.prog tab 63 = some c63 := by kernel_rfl
theorem ok68 : compFunc Tryz.prog tab 68 = some c68 := by kernel_rfl
theorem ok72 : compFunc Tryz.prog tab 72 = some c72 := by kernel_rfl
theorem ok76 : compFunc Tryz.prog tab 76 = some c76 := by kernel_rfl
theorem ok80 : compFunc Tryz.prog tab 80 = some c80 := by kernel_rfl
theorem ok105 : compFunc Tryz.prog tab 105 = some c105 := by kernel_rfl
theorem ok109 : compFunc Tryz.prog tab 109 = some c109 := by kernel_rfl
theorem ok113 : compFunc Tryz.prog tab 113 = some c113 := by kernel_rfl
theorem ok118 : compFunc Tryz.prog tab 118 = some c118 := by kernel_rfl
theorem ok122 : compFunc Tryz.prog tab 122 = some c122 := by kernel_rfl
theorem ok127 : compFunc Tryz.prog tab 127 = some c127 := by kernel_rfl
theorem ok133 : compFunc Tryz.prog tab 133 = some c133 := by kernel_rfl
theorem ok145 : compFunc Tryz.prog tab 145 = some c145 := by kernel_rfl
theorem ok149 : compFunc Tryz.prog tab 149 = some c149 := by kernel_rfl
theorem ok158 : compFunc Tryz.prog tab 158 = some c158 := by kernel_rfl
theorem ok162 : compFunc Tryz.prog tab 162 = some c162 := by kernel_rfl
theorem ok168 : compFunc Tryz.prog tab 168 = some c168 := by kernel_rfl
theorem ok173 : compFunc Tryz.prog tab 173 = some c173 := by kernel_rfl
theorem ok179 : compFunc Tryz.prog tab 179 = some c179 := by kernel_rfl
theorem ok184 : compFunc Tryz.prog tab 184 = some c184 := by kernel_rfl
theorem ok189 : compFunc Tryz.prog tab 189 = some c189 := by kernel_rfl
theorem ok200 : compFunc Tryz.prog tab 200 = some c200 := by kernel_rfl
theorem ok205 : compFunc Tryz.prog tab 205 = some c205 := by kernel_rfl
theorem ok209 : compFunc Tryz.prog tab 209 = some c209 := by kernel_rfl
theorem ok216 : compFunc Tryz.prog tab 216 = some c216 := by kernel_rfl
theorem ok236 : compFunc Tryz.prog tab 236 = some c236 := by kernel_rfl
theorem ok245 : compFunc Tryz.prog tab 245 = some c245 := by kernel_rfl
theorem ok254 : compFunc Tryz.prog tab 254 = some c254 := by kernel_rfl
theorem ok260 : compFunc Tryz.prog tab 260 = some c260 := by kernel_rfl
theorem ok271 : compFunc Tryz.prog tab 271 = some c271 := by kernel_rfl
end Go.Proofs.YtikadibppimomaaGreat.Ev.ConnPing
