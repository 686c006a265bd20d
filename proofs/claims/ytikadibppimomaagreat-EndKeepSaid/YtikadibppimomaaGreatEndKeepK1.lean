/- The code is what the program's text comes to, part 1. -/
import Derived.Test.YtikadibppimomaaGreatEndKeepT
import Derived.KernelRfl
namespace Go.Proofs.YtikadibppimomaaGreat.Ev.EndKeep
set_option maxRecDepth 1000000
theorem ok3 : compFunc Tryz.prog tab 3 = some c3 := by kernel_rfl
theorem ok11 : compFunc Tryz.prog tab 11 = some c11 := by kernel_rfl
theorem ok17 : compFunc Tryz.prog tab 17 = some c17 := by kernel_rfl
theorem ok26 : compFunc Tryz.prog tab 26 = some c26 := by kernel_rfl
theorem ok34 : compFunc Tryz.prog tab 34 = some c34 := by kernel_rfl
theorem ok38 : compFunc Tryz.prog tab 38 = some c38 := by kernel_rfl
theorem ok42 : compFunc Tryz.prog tab 42 = some c42 := by kernel_rfl
theorem ok46 : compFunc Tryz.prog tab 46 = some c46 := by kernel_rfl
theorem ok51 : compFunc Tryz.prog tab 51 = some c51 := by kernel_rfl
theorem ok55 : compFunc Tryz.prog tab 55 = some c55 := by kernel_rfl
theorem ok62 : compFunc Tryz.prog tab 62 = some c62 := by kernel_rfl
theorem ok72 : compFunc Tryz.prog tab 72 = some c72 := by kernel_rfl
theorem ok76 : compFunc Tryz.prog tab 76 = some c76 := by kernel_rfl
theorem ok80 : compFunc Tryz.prog tab 80 = some c80 := by kernel_rfl
theorem ok87 : compFunc Tryz.prog tab 87 = some c87 := by kernel_rfl
theorem ok91 : compFunc Tryz.prog tab 91 = some c91 := by kernel_rfl
theorem ok95 : compFunc Tryz.prog tab 95 = some c95 := by kernel_rfl
theorem ok99 : compFunc Tryz.prog tab 99 = some c99 := by kernel_rfl
theorem ok105 : compFunc Tryz.prog tab 105 = some c105 := by kernel_rfl
theorem ok109 : compFunc Tryz.prog tab 109 = some c109 := by kernel_rfl
theorem ok113 : compFunc Tryz.prog tab 113 = some c113 := by kernel_rfl
theorem ok118 : compFunc Tryz.prog tab 118 = some c118 := by kernel_rfl
theorem ok134 : compFunc Tryz.prog tab 134 = some c134 := by kernel_rfl
theorem ok140 : compFunc Tryz.prog tab 140 = some c140 := by kernel_rfl
theorem ok146 : compFunc Tryz.prog tab 146 = some c146 := by kernel_rfl
theorem ok152 : compFunc Tryz.prog tab 152 = some c152 := by kernel_rfl
theorem ok159 : compFunc Tryz.prog tab 159 = some c159 := by kernel_rfl
theorem ok165 : compFunc Tryz.prog tab 165 = some c165 := by kernel_rfl
theorem ok200 : compFunc Tryz.prog tab 200 = some c200 := by kernel_rfl
theorem ok207 : compFunc Tryz.prog tab 207 = some c207 := by kernel_rfl
theorem ok212 : compFunc Tryz.prog tab 212 = some c212 := by kernel_rfl
theorem ok237 : compFunc Tryz.prog tab 237 = some c237 := by kernel_rfl
theorem ok254 : compFunc Tryz.prog tab 254 = some c254 := by kernel_rfl
theorem ok268 : compFunc Tryz.prog tab 268 = some c268 := by kernel_rfl
end Go.Proofs.YtikadibppimomaaGreat.Ev.EndKeep
