/- The closed facts of the row of this law, each asked of the kernel alone. -/
import Derived.Test.YtikadibppimomaaGreatRows
import Derived.JoinedOf
import Derived.KernelRfl
namespace Go.Proofs.YtikadibppimomaaGreat.ConnOverDone
set_option maxRecDepth 100000
theorem k_inPlace : (Rows.connOverRow.inPlace == Tryz.prog.inPlace 7) = true := by kernel_rfl
theorem k_unfollowed : (Rows.connOverRow.unfollowed == Tryz.prog.unfollowed 7) = true := by kernel_rfl
theorem k_recurses : (Rows.connOverRow.recurses == Tryz.prog.recurses 7) = true := by kernel_rfl
theorem k_named : (Rows.connOverRow.named == Tryz.prog.varsNamed 7) = true := by kernel_rfl
theorem k_laidOut : laidOutB Tryz.prog = true := by kernel_rfl
theorem k_mapsRowed : mapsRowed Tryz.prog = true := by kernel_rfl
theorem k_plainKeys : (Rows.connOverRow.plainKeys == Tryz.prog.plainKeys) = true := by kernel_rfl
theorem k_stopsHeard : Tryz.prog.stopsHeard = true := by kernel_rfl
theorem k_mayEnter : Tryz.prog.mayEnter = true := by kernel_rfl
theorem closed : joinedFacts Tryz.prog 7 Tryz.f7 Rows.connOverSpec Rows.connOverRow = true := by
  unfold joinedFacts
  rw [k_inPlace, k_unfollowed, k_recurses, k_named, k_laidOut, k_mapsRowed, k_plainKeys, k_stopsHeard, k_mayEnter]
  kernel_rfl
end Go.Proofs.YtikadibppimomaaGreat.ConnOverDone
