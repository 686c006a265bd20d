/- The code is what the program's text comes to, part 2. -/
import Derived.Test.YtjjdminaacibeaaGreatConnFirstT
import Derived.KernelRfl
namespace Go.Proofs.YtjjdminaacibeaaGreat.Ev.ConnFirst
set_option maxRecDepth 1000000
theorem ok4 : compFunc Tryz.prog tab 4 = some c4 := by kernel_rfl
theorem ok8 : compFunc Tryz.prog tab 8 = some c8 := by kernel_rfl
theorem ok12 : compFunc Tryz.prog tab 12 = some c12 := by kernel_rfl
theorem ok16 : compFunc Tryz.prog tab 16 = some c16 := by kernel_rfl
theorem ok20 : compFunc Tryz.prog tab 20 = some c20 := by kernel_rfl
theorem ok24 : compFunc Tryz.prog tab 24 = some c24 := by kernel_rfl
theorem ok28 : compFunc Tryz.prog tab 28 = some c28 := by kernel_rfl
theorem ok32 : compFunc Tryz.prog tab 32 = some c32 := by kernel_rfl
theorem ok36 : compFunc Tryz.prog tab 36 = some c36 := by kernel_rfl
theorem ok40 : compFunc Tryz.prog tab 40 = some c40 := by kernel_rfl
theorem ok44 : compFunc Tryz.prog tab 44 = some c44 := by kernel_rfl
theorem ok48 : compFunc Tryz.prog tab 48 = some c48 := by kernel_rfl
theorem ok52 : compFunc Tryz.prog tab 52 = some c52 := by kernel_rfl
theorem ok56 : compFunc Tryz.prog tab 56 = some c56 := by kernel_rfl
theorem ok60 : compFunc Tryz.prog tab 60 = some c60 := by kernel_rfl
theorem ok64 : compFunc Tryz.prog tab 64 = some c64 := by kernel_rfl
theorem ok69 : compFunc Tryz.prog tab 69 = some c69 := by kernel_rfl
theorem ok73 : compFunc Tryz.prog tab 73 = some c73 := by kernel_rfl
theorem ok79 : compFunc Tryz.prog tab 79 = some c79 := by kernel_rfl
theorem ok86 : compFunc Tryz.prog tab 86 = some c86 := by kernel_rfl
theorem ok90 : compFunc Tryz.prog tab 90 = some c90 := by kernel_rfl
theorem ok95 : compFunc Tryz.prog tab 95 = some c95 := by kernel_rfl
theorem ok100 : compFunc Tryz.prog tab 100 = some c100 := by kernel_rfl
theorem ok107 : compFunc Tryz.prog tab 107 = some c107 := by kernel_rfl
theorem ok113 : compFunc Tryz.prog tab 113 = some c113 := by kernel_rfl
theorem ok118 : compFunc Tryz.prog tab 118 = some c118 := by kernel_rfl
theorem ok125 : compFunc Tryz.prog tab 125 = some c125 := by kernel_rfl
theorem ok131 : compFunc Tryz.prog tab 131 = some c131 := by kernel_rfl
theorem ok137 : compFunc Tryz.prog tab 137 = some c137 := by kernel_rfl
theorem ok145 : compFunc Tryz.prog tab 145 = some c145 := by kernel_rfl
theorem ok153 : compFunc Tryz.prog tab 153 = some c153 := by kernel_rfl
theorem ok161 : compFunc Tryz.prog tab 161 = some c161 := by kernel_rfl
theorem ok171 : compFunc Tryz.prog tab 171 = some c171 := by kernel_rfl
theorem ok177 : compFunc Tryz.prog tab 177 = some c177 := by kernel_rfl
theorem ok191 : compFunc Tryz.prog tab 191 = some c191 := by kernel_rfl
theorem ok198 : compFunc Tryz.prog tab 198 = some c198 := by kernel_rfl
end Go.Proofs.YtjjdminaacibeaaGreat.Ev.ConnFirst
