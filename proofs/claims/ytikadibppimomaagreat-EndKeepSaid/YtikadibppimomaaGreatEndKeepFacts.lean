/- The closed facts of the row of this law, each asked of the kernel alone. -/
import Derived.Test.YtikadibppimomaaGreatRows
import Derived.JoinedOf
import Derived.KernelRfl
namespace Go.Proofs.YtikadibppimomaaGreat.EndKeepDone
set_option maxRecDepth 100000
theorem k_inPlace : (Rows.endKeepRow.inPlace == Tryz.prog.inPlace 3) = true := by kernel_rfl
theorem k_unfollowed : (Rows.endKeepRow.unfollowed == Tryz.prog.unfollowed 3) = true := by kernel_rfl
theorem k_recurses : (Rows.endKeepRow.recurses == Tryz.prog.recurses 3) = true := by kernel_rfl
theorem k_named : (Rows.endKeepRow.named == Tryz.prog.varsNamed 3) = true := by kernel_rfl
theorem k_laidOut : laidOutB Tryz.prog = true := by kernel_rfl
theorem k_mapsRowed : mapsRowed Tryz.prog = true := by kernel_rfl
theorem k_plainKeys : (Rows.endKeepRow.plainKeys == Tryz.prog.plainKeys) = true := by kernel_rfl
theorem k_stopsHeard : Tryz.prog.stopsHeard = true := by kernel_rfl
theorem k_mayEnter : Tryz.prog.mayEnter = true := by kernel_rfl
theorem closed : joinedFacts Tryz.prog 3 Tryz.f3 Rows.endKeepSpec Rows.endKeepRow = true := by
  unfold joinedFacts
  rw [k_inPlace, k_unfollowed, k_recurses, k_named, k_laidOut, k_mapsRowed, k_plainKeys, k_stopsHeard, k_mayEnter]
  kernel_rfl
end Go.Proofs.YtikadibppimomaaGreat.EndKeepDone
