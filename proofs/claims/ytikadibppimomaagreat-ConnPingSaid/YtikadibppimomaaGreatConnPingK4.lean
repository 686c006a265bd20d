/- The code is what the program's text comes to, part 4. -/
import Derived.Test.YtikadibppimomaaGreatConnPingT
import Derived.KernelRfl
namespace Go.Proofs.YtikadibppimomaaGreat.Ev.ConnPing
set_option maxRecDepth 1000000
theorem ok16 : compFunc Tryz.prog tab 16 = some c16 := by kernel_rfl
theorem ok20 : compFunc Tryz.prog tab 20 = some c20 := by kernel_rfl
theorem ok28 : compFunc Tryz.prog tab 28 = some c28 := by kernel_rfl
theorem ok44 : compFunc Tryz.prog tab 44 = some c44 := by kernel_rfl
theorem ok51 : compFunc Tryz.prog tab 51 = some c51 := by kernel_rfl
theorem ok55 : compFunc Tryz.prog tab 55 = some c55 := by kernel_rfl
theorem ok60 : compFunc Tryz.prog tab 60 = some c60 := by kernel_rfl
theorem ok65 : compFunc Tryz.prog tab 65 = some c65 := by kernel_rfl
theorem ok70 : compFunc Tryz.prog tab 70 = some c70 := by kernel_rfl
theorem ok74 : compFunc Tryz.prog tab 74 = some c74 := by kernel_rfl
theorem ok78 : compFunc Tryz.prog tab 78 = some c78 := by kernel_rfl
theorem ok103 : compFunc Tryz.prog tab 103 = some c103 := by kernel_rfl
theorem ok107 : compFunc Tryz.prog tab 107 = some c107 := by kernel_rfl
theorem ok111 : compFunc Tryz.prog tab 111 = some c111 := by kernel_rfl
theorem ok115 : compFunc Tryz.prog tab 115 = some c115 := by kernel_rfl
theorem ok120 : compFunc Tryz.prog tab 120 = some c120 := by kernel_rfl
theorem ok124 : compFunc Tryz.prog tab 124 = some c124 := by kernel_rfl
theorem ok131 : compFunc Tryz.prog tab 131 = some c131 := by kernel_rfl
theorem ok139 : compFunc Tryz.prog tab 139 = some c139 := by kernel_rfl
theorem ok147 : compFunc Tryz.prog tab 147 = some c147 := by kernel_rfl
theorem ok154 : compFunc Tryz.prog tab 154 = some c154 := by kernel_rfl
theorem ok160 : compFunc Tryz.prog tab 160 = some c160 := by kernel_rfl
theorem ok165 : compFunc Tryz.prog tab 165 = some c165 := by kernel_rfl
theorem ok170 : compFunc Tryz.prog tab 170 = some c170 := by kernel_rfl
theorem ok176 : compFunc Tryz.prog tab 176 = some c176 := by kernel_rfl
theorem ok181 : compFunc Tryz.prog tab 181 = some c181 := by kernel_rfl
theorem ok187 : compFunc Tryz.prog tab 187 = some c187 := by kernel_rfl
theorem ok198 : compFunc Tryz.prog tab 198 = some c198 := by kernel_rfl
theorem ok202 : compFunc Tryz.prog tab 202 = some c202 := by kernel_rfl
theorem ok207 : compFunc Tryz.prog tab 207 = some c207 := by kernel_rfl
theorem ok212 : compFunc Tryz.prog tab 212 = some c212 := by kernel_rfl
theorem ok222 : compFunc Tryz.prog tab 222 = some c222 := by kernel_rfl
theorem ok238 : compFunc Tryz.prog tab 238 = some c238 := by kernel_rfl
theorem ok250 : compFunc Tryz.prog tab 250 = some c250 := by kernel_rfl
theorem ok256 : compFunc Tryz.prog tab 256 = some c256 := by kernel_rfl
theorem ok268 : compFunc Tryz.prog tab 268 = some c268 := by kernel_rfl
theorem ok278 : compFunc Tryz.prog tab 278 = some c278 := by kernel_rfl
end Go.Proofs.YtikadibppimomaaGreat.Ev.ConnPing
