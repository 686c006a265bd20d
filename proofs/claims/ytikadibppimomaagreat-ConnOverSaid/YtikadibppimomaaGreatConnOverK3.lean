/- The code is what the program's text comes to, part 3. -/
import Derived.Test.YtikadibppimomaaGreatConnOverT
import Derived.KernelRfl
namespace Go.Proofs.YtikadibppimomaaGreat.Ev.ConnOver
set_option maxRecDepth 1000000
theorem ok15 : compFunc Tryz.prog tab 15 = some c15 := by kernel_rfl
theorem ok21 : compFunc Tryz.prog tab 21 = some c21 := by kernel_rfl
theorem ok29 : compFunc Tryz.prog tab 29 = some c29 := by kernel_rfl
theorem ok33 : compFunc Tryz.prog tab 33 = some c33 := by kernel_rfl
theorem ok49 : compFunc Tryz.prog tab 49 = some c49 := by kernel_rfl
theorem ok53 : compFunc Tryz.prog tab 53 = some c53 := by kernel_rfl
theorem ok57 : compFunc Tryz.prog tab 57 = some c57 := by kernel_rfl
theorem ok63 : compFunc Tryz.prog tab 63 = some c63 := by kernel_rfl
theorem ok68 : compFunc Tryz.prog tab 68 = some c68 := by kernel_rfl
theorem ok72 : compFunc Tryz.prog tab 72 = some c72 := by kernel_rfl
theorem ok76 : compFunc Tryz.prog tab 76 = some c76 := by kernel_rfl
theorem ok80 : compFunc Tryz.prog tab 80 = some c80 := by kernel_rfl
theorem ok103 : compFunc Tryz.prog tab 103 = some c103 := by kernel_rfl
theorem ok107 : compFunc Tryz.prog tab 107 = some c107 := by kernel_rfl
theorem ok111 : compFunc Tryz.prog tab 111 = some c111 := by kernel_rfl
theorem ok115 : compFunc Tryz.prog tab 115 = some c115 := by kernel_rfl
theorem ok120 : compFunc Tryz.prog tab 120 = some c120 := by kernel_rfl
theorem ok124 : compFunc Tryz.prog tab 124 = some c124 := by kernel_rfl
theorem ok131 : compFunc Tryz.prog tab 131 = some c131 := by kernel_rfl
theorem ok135 : compFunc Tryz.prog tab 135 = some c135 := by kernel_rfl
theorem ok146 : compFunc Tryz.prog tab 146 = some c146 := by kernel_rfl
theorem ok152 : compFunc Tryz.prog tab 152 = some c152 := by kernel_rfl
theorem ok159 : compFunc Tryz.prog tab 159 = some c159 := by kernel_rfl
theorem ok164 : compFunc Tryz.prog tab 164 = some c164 := by kernel_rfl
theorem ok169 : compFunc Tryz.prog tab 169 = some c169 := by kernel_rfl
theorem ok174 : compFunc Tryz.prog tab 174 = some c174 := by kernel_rfl
theorem ok180 : compFunc Tryz.prog tab 180 = some c180 := by kernel_rfl
theorem ok188 : compFunc Tryz.prog tab 188 = some c188 := by kernel_rfl
theorem ok199 : compFunc Tryz.prog tab 199 = some c199 := by kernel_rfl
theorem ok203 : compFunc Tryz.prog tab 203 = some c203 := by kernel_rfl
theorem ok208 : compFunc Tryz.prog tab 208 = some c208 := by kernel_rfl
theorem ok214 : compFunc Tryz.prog tab 214 = some c214 := by kernel_rfl
theorem ok237 : compFunc Tryz.prog tab 237 = some c237 := by kernel_rfl
theorem ok250 : compFunc Tryz.prog tab 250 = some c250 := by kernel_rfl
theorem ok256 : compFunc Tryz.prog tab 256 = some c256 := by kernel_rfl
theorem ok268 : compFunc Tryz.prog tab 268 = some c268 := by kernel_rfl
theorem ok278 : compFunc Tryz.prog tab 278 = some c278 := by kernel_rfl
end Go.Proofs.YtikadibppimomaaGreat.Ev.ConnOver
