/- The code is what the program's text comes to, part 3. -/
import Derived.Test.YtjjdminaacibeaaGreatDoorEndNoneT
import Derived.KernelRfl
namespace Go.Proofs.YtjjdminaacibeaaGreatDoor.Ev.EndNone
set_option maxRecDepth 1000000
theorem ok7 : compFunc Tryz.prog tab 7 = some c7 := by kernel_rfl
theorem ok11 : compFunc Tryz.prog tab 11 = some c11 := by kernel_rfl
theorem ok15 : compFunc Tryz.prog tab 15 = some c15 := by kernel_rfl
theorem ok19 : compFunc Tryz.prog tab 19 = some c19 := by kernel_rfl
theorem ok23 : compFunc Tryz.prog tab 23 = some c23 := by kernel_rfl
theorem ok44 : compFunc Tryz.prog tab 44 = some c44 := by kernel_rfl
theorem ok48 : compFunc Tryz.prog tab 48 = some c48 := by kernel_rfl
theorem ok55 : compFunc Tryz.prog tab 55 = some c55 := by kernel_rfl
theorem ok60 : compFunc Tryz.prog tab 60 = some c60 := by kernel_rfl
theorem ok66 : compFunc Tryz.prog tab 66 = some c66 := by kernel_rfl
theorem ok91 : compFunc Tryz.prog tab 91 = some c91 := by kernel_rfl
theorem ok99 : compFunc Tryz.prog tab 99 = some c99 := by kernel_rfl
theorem ok106 : compFunc Tryz.prog tab 106 = some c106 := by kernel_rfl
theorem ok110 : compFunc Tryz.prog tab 110 = some c110 := by kernel_rfl
theorem ok115 : compFunc Tryz.prog tab 115 = some c115 := by kernel_rfl
theorem ok121 : compFunc Tryz.prog tab 121 = some c121 := by kernel_rfl
theorem ok127 : compFunc Tryz.prog tab 127 = some c127 := by kernel_rfl
theorem ok161 : compFunc Tryz.prog tab 161 = some c161 := by kernel_rfl
theorem ok167 : compFunc Tryz.prog tab 167 = some c167 := by kernel_rfl
theorem ok171 : compFunc Tryz.prog tab 171 = some c171 := by kernel_rfl
theorem ok175 : compFunc Tryz.prog tab 175 = some c175 := by kernel_rfl
theorem ok180 : compFunc Tryz.prog tab 180 = some c180 := by kernel_rfl
theorem ok186 : compFunc Tryz.prog tab 186 = some c186 := by kernel_rfl
theorem ok190 : compFunc Tryz.prog tab 190 = some c190 := by kernel_rfl
theorem ok194 : compFunc Tryz.prog tab 194 = some c194 := by kernel_rfl
theorem ok213 : compFunc Tryz.prog tab 213 = some c213 := by kernel_rfl
theorem ok246 : compFunc Tryz.prog tab 246 = some c246 := by kernel_rfl
theorem ok253 : compFunc Tryz.prog tab 253 = some c253 := by kernel_rfl
theorem ok258 : compFunc Tryz.prog tab 258 = some c258 := by kernel_rfl
theorem ok265 : compFunc Tryz.prog tab 265 = some c265 := by kernel_rfl
theorem ok277 : compFunc Tryz.prog tab 277 = some c277 := by kernel_rfl
theorem ok292 : compFunc Tryz.prog tab 292 = some c292 := by kernel_rfl
theorem ok300 : compFunc Tryz.prog tab 300 = some c300 := by kernel_rfl
theorem ok319 : compFunc Tryz.prog tab 319 = some c319 := by kernel_rfl
theorem ok327 : compFunc Tryz.prog tab 327 = some c327 := by kernel_rfl
end Go.Proofs.YtjjdminaacibeaaGreatDoor.Ev.EndNone
