/- The code is what the program's text comes to, part 1. -/
import Derived.Test.YtjjdminaacibeaaGreatDoorPairLongT
import Derived.KernelRfl
namespace Go.Proofs.YtjjdminaacibeaaGreatDoor.Ev.PairLong
set_option maxRecDepth 1000000
theorem ok4 : compFunc Tryz.prog tab 4 = some c4 := by kernel_rfl
theorem ok10 : compFunc Tryz.prog tab 10 = some c10 := by kernel_rfl
theorem ok19 : compFunc Tryz.prog tab 19 = some c19 := by kernel_rfl
theorem ok26 : compFunc Tryz.prog tab 26 = some c26 := by kernel_rfl
theorem ok31 : compFunc Tryz.prog tab 31 = some c31 := by kernel_rfl
theorem ok40 : compFunc Tryz.prog tab 40 = some c40 := by kernel_rfl
theorem ok46 : compFunc Tryz.prog tab 46 = some c46 := by kernel_rfl
theorem ok51 : compFunc Tryz.prog tab 51 = some c51 := by kernel_rfl
theorem ok59 : compFunc Tryz.prog tab 59 = some c59 := by kernel_rfl
theorem ok65 : compFunc Tryz.prog tab 65 = some c65 := by kernel_rfl
theorem ok70 : compFunc Tryz.prog tab 70 = some c70 := by kernel_rfl
theorem ok74 : compFunc Tryz.prog tab 74 = some c74 := by kernel_rfl
theorem ok84 : compFunc Tryz.prog tab 84 = some c84 := by kernel_rfl
theorem ok89 : compFunc Tryz.prog tab 89 = some c89 := by kernel_rfl
theorem ok93 : compFunc Tryz.prog tab 93 = some c93 := by kernel_rfl
theorem ok100 : compFunc Tryz.prog tab 100 = some c100 := by kernel_rfl
theorem ok108 : compFunc Tryz.prog tab 108 = some c108 := by kernel_rfl
theorem ok112 : compFunc Tryz.prog tab 112 = some c112 := by kernel_rfl
theorem ok118 : compFunc Tryz.prog tab 118 = some c118 := by kernel_rfl
theorem ok126 : compFunc Tryz.prog tab 126 = some c126 := by kernel_rfl
theorem ok130 : compFunc Tryz.prog tab 130 = some c130 := by kernel_rfl
theorem ok141 : compFunc Tryz.prog tab 141 = some c141 := by kernel_rfl
theorem ok146 : compFunc Tryz.prog tab 146 = some c146 := by kernel_rfl
theorem ok150 : compFunc Tryz.prog tab 150 = some c150 := by kernel_rfl
theorem ok157 : compFunc Tryz.prog tab 157 = some c157 := by kernel_rfl
theorem ok164 : compFunc Tryz.prog tab 164 = some c164 := by kernel_rfl
theorem ok169 : compFunc Tryz.prog tab 169 = some c169 := by kernel_rfl
theorem ok173 : compFunc Tryz.prog tab 173 = some c173 := by kernel_rfl
theorem ok177 : compFunc Tryz.prog tab 177 = some c177 := by kernel_rfl
theorem ok184 : compFunc Tryz.prog tab 184 = some c184 := by kernel_rfl
theorem ok188 : compFunc Tryz.prog tab 188 = some c188 := by kernel_rfl
theorem ok192 : compFunc Tryz.prog tab 192 = some c192 := by kernel_rfl
theorem ok196 : compFunc Tryz.prog tab 196 = some c196 := by kernel_rfl
theorem ok210 : compFunc Tryz.prog tab 210 = some c210 := by kernel_rfl
theorem ok215 : compFunc Tryz.prog tab 215 = some c215 := by kernel_rfl
theorem ok221 : compFunc Tryz.prog tab 221 = some c221 := by kernel_rfl
theorem ok227 : compFunc Tryz.prog tab 227 = some c227 := by kernel_rfl
theorem ok232 : compFunc Tryz.prog tab 232 = some c232 := by kernel_rfl
theorem ok242 : compFunc Tryz.prog tab 242 = some c242 := by kernel_rfl
theorem ok251 : compFunc Tryz.prog tab 251 = some c251 := by kernel_rfl
theorem ok257 : compFunc Tryz.prog tab 257 = some c257 := by kernel_rfl
theorem ok264 : compFunc Tryz.prog tab 264 = some c264 := by kernel_rfl
theorem ok269 : compFunc Tryz.prog tab 269 = some c269 := by kernel_rfl
theorem ok278 : compFunc Tryz.prog tab 278 = some c278 := by kernel_rfl
theorem ok290 : compFunc Tryz.prog tab 290 = some c290 := by kernel_rfl
theorem ok299 : compFunc Tryz.prog tab 299 = some c299 := by kernel_rfl
theorem ok306 : compFunc Tryz.prog tab 306 = some c306 := by kernel_rfl
theorem ok321 : compFunc Tryz.prog tab 321 = some c321 := by kernel_rfl
theorem ok326 : compFunc Tryz.prog tab 326 = some c326 := by kernel_rfl
theorem ok334 : compFunc Tryz.prog tab 334 = some c334 := by kernel_rfl
end Go.Proofs.YtjjdminaacibeaaGreatDoor.Ev.PairLong
