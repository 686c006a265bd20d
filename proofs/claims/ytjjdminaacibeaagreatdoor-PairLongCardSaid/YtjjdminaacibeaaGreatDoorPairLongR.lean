/- PairLong: all of it. -/
import Derived.Test.YtjjdminaacibeaaGreatDoorPairLongB
import Derived.Test.YtjjdminaacibeaaGreatDoorPairLongD
namespace Go.Proofs.YtjjdminaacibeaaGreatDoor.Ev.PairLong
set_option maxRecDepth 1000000
theorem kn (σ : Nat → Int) : KN.Holds σ := holds_of trivial
theorem body {B nt : Nat} {μ0 : Mu} {w0 : World} (hnt : Nat.ble nt 1022 = true) {σ : Nat → Int} :
    Wp Tryz.prog tab nt none (fiOf c4).body (At Tryz.prog tab B nt none μ0 w0 σ (argsEnv [] 0 (T.full 10)) heap0) (fun ex a w' => (ex = .ret ∨ ex = .normal) ∧ ∃ σ' E1 H1, E1.get 0 = some (.bool true) ∧ At Tryz.prog tab B nt none μ0 w0 σ' E1 H1 a w') := by
  show Wp Tryz.prog tab nt none fb _ _
  rw [shapeA]
  obtain ⟨E0, H0, hA, fe, fh⟩ := fitOut_ok fA
  refine Wp.seqs recokT drawokT preA [] hA (fun E2 H2 hd => ?_)
  cases hd
  refine Wp.pre (S := At Tryz.prog tab B nt none μ0 w0 (substVal [] σ) (mkEnv EPa) (mkHeap HPa NPa)) ?_ (fun a w h => At.refit rfl fe fh hnt rfl (kn _) h)
  rw [shapeB]
  obtain ⟨E1, H1, hB, ge, gh⟩ := fitOut_ok fB
  refine Wp.seqs recokT drawokT preB [] hB (fun E3 H3 hd => ?_)
  cases hd
  refine Wp.pre (S := At Tryz.prog tab B nt none μ0 w0 (substVal [] (substVal [] σ)) (mkEnv EPb) (mkHeap HPb NPb)) ?_ (fun a w h => At.refit rfl ge gh hnt rfl (kn _) h)
  exact (Wp.ret recokT drawokT fD).post fun ex a w h => ⟨.inl h.1, _, h.2⟩
theorem calls (w : World) : Calls Tryz.prog 4 #[] w fun e w' => e = .returned (.bool true) ∧ Go.RowKit.Below w.heap.size w w' :=
  calls_of_wp (fi := fiOf c4) ok4 results rfl (sim0 (fun _ => 0) w) (args' := #[]) (VRelL_nil.2 rfl) (body ntm) (fun a l h => by cases h)
end Go.Proofs.YtjjdminaacibeaaGreatDoor.Ev.PairLong
