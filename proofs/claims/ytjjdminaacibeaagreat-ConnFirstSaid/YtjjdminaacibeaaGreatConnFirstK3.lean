/- The code is what the program's text comes to, part 3. -/
import Derived.Test.YtjjdminaacibeaaGreatConnFirstT
import Derived.KernelRfl
namespace Go.Proofs.YtjjdminaacibeaaGreat.Ev.ConnFirst
set_option maxRecDepth 1000000
theorem ok5 : compFunc Tryz.prog tab 5 = some c5 := by kernel_rfl
theorem ok9 : compFunc Tryz.prog tab 9 = some c9 := by kernel_rfl
theorem ok13 : compFunc Tryz.prog tab 13 = some c13 := by kernel_rfl
theorem ok17 : compFunc Tryz.prog tab 17 = some c17 := by kernel_rfl
theorem ok21 : compFunc Tryz.prog tab 21 = some c21 := by kernel_rfl
theorem ok25 : compFunc Tryz.prog tab 25 = some c25 := by kernel_rfl
theorem ok29 : compFunc Tryz.prog tab 29 = some c29 := by kernel_rfl
theorem ok33 : compFunc Tryz.prog tab 33 = some c33 := by kernel_rfl
theorem ok37 : compFunc Tryz.prog tab 37 = some c37 := by kernel_rfl
theorem ok41 : compFunc Tryz.prog tab 41 = some c41 := by kernel_rfl
theorem ok45 : compFunc Tryz.prog tab 45 = some c45 := by kernel_rfl
theorem ok49 : compFunc Tryz.prog tab 49 = some c49 := by kernel_rfl
theorem ok53 : compFunc Tryz.prog tab 53 = some c53 := by kernel_rfl
theorem ok57 : compFunc Tryz.prog tab 57 = some c57 := by kernel_rfl
theorem ok61 : compFunc Tryz.prog tab 61 = some c61 := by kernel_rfl
theorem ok65 : compFunc Tryz.prog tab 65 = some c65 := by kernel_rfl
theorem ok70 : compFunc Tryz.prog tab 70 = some c70 := by kernel_rfl
theorem ok74 : compFunc Tryz.prog tab 74 = some c74 := by kernel_rfl
theorem ok81 : compFunc Tryz.prog tab 81 = some c81 := by kernel_rfl
theorem ok87 : compFunc Tryz.prog tab 87 = some c87 := by kernel_rfl
theorem ok91 : compFunc Tryz.prog tab 91 = some c91 := by kernel_rfl
theorem ok96 : compFunc Tryz.prog tab 96 = some c96 := by kernel_rfl
theorem ok101 : compFunc Tryz.prog tab 101 = some c101 := by kernel_rfl
theorem ok109 : compFunc Tryz.prog tab 109 = some c109 := by kernel_rfl
theorem ok114 : compFunc Tryz.prog tab 114 = some c114 := by kernel_rfl
theorem ok120 : compFunc Tryz.prog tab 120 = some c120 := by kernel_rfl
theorem ok126 : compFunc Tryz.prog tab 126 = some c126 := by kernel_rfl
theorem ok133 : compFunc Tryz.prog tab 133 = some c133 := by kernel_rfl
theorem ok138 : compFunc Tryz.prog tab 138 = some c138 := by kernel_rfl
theorem ok146 : compFunc Tryz.prog tab 146 = some c146 := by kernel_rfl
theorem ok154 : compFunc Tryz.prog tab 154 = some c154 := by kernel_rfl
theorem ok164 : compFunc Tryz.prog tab 164 = some c164 := by kernel_rfl
theorem ok174 : compFunc Tryz.prog tab 174 = some c174 := by kernel_rfl
theorem ok180 : compFunc Tryz.prog tab 180 = some c180 := by kernel_rfl
theorem ok192 : compFunc Tryz.prog tab 192 = some c192 := by kernel_rfl
theorem ok201 : compFunc Tryz.prog tab 201 = some c201 := by kernel_rfl
end Go.Proofs.YtjjdminaacibeaaGreat.Ev.ConnFirst
