/- The rounds of the law's loop, and all of its run. -/
import Derived.Test.YtjjdminaacibeaaGreatConnFirstL4
namespace Go.Proofs.YtjjdminaacibeaaGreat.Ev.ConnFirst
set_option maxRecDepth 1000000
theorem follows : Tryz.prog.follows .mixedOrders = true := by kernel_rfl
theorem recok : RecOk Tryz.prog tab (run Γ 1000000) := rec_ok follows code _
theorem drawok : DrawOk Tryz.prog tab (run Γ 1000000) := rec_draw follows code _
theorem fin : isTrue (behindExit 1000000 (run Γ 1000000) (idOf c3) (fiOf c3).results (restOf c3) (codeE 1000000 (run Γ 1000000) (loopOf c3) E13 H13)) = true := by kernel_rfl
theorem chain (ex : Exit') (env' : Env) (h' : Heap) (h : RunsL Tryz.prog tab (fiOf c3).ntmps (loopOf c3) E13 H13 ex env' h') : RunsL Tryz.prog tab (fiOf c3).ntmps (loopOf c3) E0 H0 ex env' h' := by
  refine RunsL.chunk recok drawok _ _ (by kernel_rfl) ch1 ?_
  refine RunsL.chunk recok drawok _ _ (by kernel_rfl) ch2 ?_
  refine RunsL.chunk recok drawok _ _ (by kernel_rfl) ch3 ?_
  refine RunsL.chunk recok drawok _ _ (by kernel_rfl) ch4 ?_
  refine RunsL.chunk recok drawok _ _ (by kernel_rfl) ch5 ?_
  refine RunsL.chunk recok drawok _ _ (by kernel_rfl) ch6 ?_
  refine RunsL.chunk recok drawok _ _ (by kernel_rfl) ch7 ?_
  refine RunsL.chunk recok drawok _ _ (by kernel_rfl) ch8 ?_
  refine RunsL.chunk recok drawok _ _ (by kernel_rfl) ch9 ?_
  refine RunsL.chunk recok drawok _ _ (by kernel_rfl) ch10 ?_
  refine RunsL.chunk recok drawok _ _ (by kernel_rfl) ch11 ?_
  refine RunsL.chunk recok drawok _ _ (by kernel_rfl) ch12 ?_
  refine RunsL.chunk recok drawok _ _ (by kernel_rfl) ch13 ?_
  exact h
theorem calls (w : World) : Calls Tryz.prog 3 #[] w fun e w' => e = .returned (.bool true) ∧ Go.RowKit.Below w.heap.size w w' :=
  true_of_runs (fi := fiOf c3) ok3 (law_of_loop (a := aOf c3) (b := bOf c3) (c := cOf c3) (d := dOf c3) (rest := restOf c3) (id := idOf c3) recok drawok _ (by kernel_rfl) pre chain fin) w
end Go.Proofs.YtjjdminaacibeaaGreat.Ev.ConnFirst
