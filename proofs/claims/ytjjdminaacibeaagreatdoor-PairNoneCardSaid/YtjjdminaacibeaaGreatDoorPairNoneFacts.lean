/- The closed facts of the row of this law, each asked of the kernel alone. -/
import Derived.Test.YtjjdminaacibeaaGreatDoorRows
import Derived.JoinedOf
import Derived.KernelRfl
namespace Go.Proofs.YtjjdminaacibeaaGreatDoor.PairNoneDone
set_option maxRecDepth 100000
theorem k_inPlace : (Rows.pairNoneRow.inPlace == Tryz.prog.inPlace 5) = true := by kernel_rfl
theorem k_unfollowed : (Rows.pairNoneRow.unfollowed == Tryz.prog.unfollowed 5) = true := by kernel_rfl
theorem k_recurses : (Rows.pairNoneRow.recurses == Tryz.prog.recurses 5) = true := by kernel_rfl
theorem k_named : (Rows.pairNoneRow.named == Tryz.prog.varsNamed 5) = true := by kernel_rfl
theorem k_laidOut : laidOutB Tryz.prog = true := by kernel_rfl
theorem k_mapsRowed : mapsRowed Tryz.prog = true := by kernel_rfl
theorem k_plainKeys : (Rows.pairNoneRow.plainKeys == Tryz.prog.plainKeys) = true := by kernel_rfl
theorem k_stopsHeard : Tryz.prog.stopsHeard = true := by kernel_rfl
theorem k_mayEnter : Tryz.prog.mayEnter = true := by kernel_rfl
theorem closed : joinedFacts Tryz.prog 5 Tryz.f5 Rows.pairNoneSpec Rows.pairNoneRow = true := by
  unfold joinedFacts
  rw [k_inPlace, k_unfollowed, k_recurses, k_named, k_laidOut, k_mapsRowed, k_plainKeys, k_stopsHeard, k_mayEnter]
  kernel_rfl
end Go.Proofs.YtjjdminaacibeaaGreatDoor.PairNoneDone
