/- The law EndKeep: its function returns true, whatever it is called with, and leaves all memory that was there as it was. -/
import Derived.Test.YtikadibppimomaaGreatRows
import Derived.WalkKit
import Derived.Test.YtikadibppimomaaGreatEndKeepL
import Derived.Test.YtikadibppimomaaGreatEndKeepFacts
import Derived.Below
import Derived.ProofKit
import Derived.OpenShut
import Derived.ShutString
import Derived.ChangeOld
import Derived.Below
namespace Go.Proofs.YtikadibppimomaaGreat.endKeep
open Go.ChangeShapes Go.WideShapes Go.ChangeAt Go.RowKit
open Go.ChangeMaps (open_string shut_string)
set_option linter.unusedVariables false

theorem own : ownKnob Tryz.prog.godebug = none := by kernel_rfl
theorem laidOut : laidOutB Tryz.prog = true := by kernel_rfl

/-- WHAT THE WALK IS TOLD OF A SLICE OF INTEGERS THAT CAME IN: it is nil; or it leads to a row of 'cap' cells, the numbers 'zs' (the first 'len' are its elements, the rest its spare room), each fitting its kind. -/
def IsRow (k : IntKind) (w : World) (a : Option Addr) (len cap : Nat) (zs : List Int) : Prop :=
  (a = none ∧ len = 0 ∧ cap = 0 ∧ zs = []) ∨
  ∃ x, a = some x ∧ len ≤ cap ∧ cap ≤ maxLen ∧ zs.length = cap ∧ (∀ i, i < zs.length → w.cell? (x.add i) = some (.int k (zs.getD i 0))) ∧ ∀ n ∈ zs, (Lit.int k n).wf = true

theorem walk (a0 : Int) (a1 : Int) (a2 : Int) (a3 : Option Addr) (len3 cap3 : Nat) (z3 : List Int) (w : World) (w0 : (Lit.int .i64 a0).wf = true) (w1 : (Lit.int .i64 a1).wf = true) (w2 : (Lit.int .i64 a2).wf = true) (w3 : IsRow .i64 w a3 len3 cap3 z3) :
    Calls Tryz.prog 3 #[.int .i64 a0, .int .i64 a1, .int .i64 a2, .slice a3 len3 cap3] w fun e w' => e = .returned (.bool true) ∧ Below w.heap.size w w' :=
  by
  have h0 := Ev.wf64 w0
  have h1 := Ev.wf64 w1
  have h2 := Ev.wf64 w2
  have hp : (0 : Int) ≤ (len3 : Int) := Int.natCast_nonneg _
  have hl : (len3 : Int) ≤ 9223372036854775807 := by
    rcases w3 with ⟨_, rfl, _, _⟩ | ⟨x, _, h3, h4, _⟩
    · decide
    · have : len3 ≤ 2 ^ 63 - 1 := Nat.le_trans h3 h4
      omega
  have hz : (0 : Int) ≤ 0 := Int.le_refl 0
  by_cases b1 : a1 ≤ 0
  · have hK := Ev.holds_of (σ := Ev.vals [a0, a1, a2, len3]) (l := [(-9223372036854775808, 9223372036854775807), (-9223372036854775808, 0), (-9223372036854775808, 9223372036854775807), (0, 9223372036854775807)]) ⟨h0, ⟨h1.1, b1⟩, h2, ⟨hp, hl⟩, trivial⟩
    exact Ev.true_of_run Ev.EndKeep.follows Ev.EndKeep.code (f := 3) rfl Ev.EndKeep.run1 (Ev.vals [a0, a1, a2, len3]) (Ev.rel_sint rfl hK (Ev.rel_sint rfl hK (Ev.rel_sint rfl hK (Ev.rel_osl rfl hK Ev.rel_nil)))) w
  by_cases b2 : 1001 ≤ a1
  · have hK := Ev.holds_of (σ := Ev.vals [a0, a1, a2, len3]) (l := [(-9223372036854775808, 9223372036854775807), (1001, 9223372036854775807), (-9223372036854775808, 9223372036854775807), (0, 9223372036854775807)]) ⟨h0, ⟨b2, h1.2⟩, h2, ⟨hp, hl⟩, trivial⟩
    exact Ev.true_of_run Ev.EndKeep.follows Ev.EndKeep.code (f := 3) rfl Ev.EndKeep.run2 (Ev.vals [a0, a1, a2, len3]) (Ev.rel_sint rfl hK (Ev.rel_sint rfl hK (Ev.rel_sint rfl hK (Ev.rel_osl rfl hK Ev.rel_nil)))) w
  have g1 : 1 ≤ a1 ∧ a1 ≤ 1000 := by omega
  by_cases b3 : a2 ≤ 0
  · have hK := Ev.holds_of (σ := Ev.vals [a0, a1, a2, len3]) (l := [(-9223372036854775808, 9223372036854775807), (1, 1000), (-9223372036854775808, 0), (0, 9223372036854775807)]) ⟨h0, g1, ⟨h2.1, b3⟩, ⟨hp, hl⟩, trivial⟩
    exact Ev.true_of_run Ev.EndKeep.follows Ev.EndKeep.code (f := 3) rfl Ev.EndKeep.run3 (Ev.vals [a0, a1, a2, len3]) (Ev.rel_sint rfl hK (Ev.rel_sint rfl hK (Ev.rel_sint rfl hK (Ev.rel_osl rfl hK Ev.rel_nil)))) w
  by_cases b4 : 1001 ≤ a2
  · have hK := Ev.holds_of (σ := Ev.vals [a0, a1, a2, len3]) (l := [(-9223372036854775808, 9223372036854775807), (1, 1000), (1001, 9223372036854775807), (0, 9223372036854775807)]) ⟨h0, g1, ⟨b4, h2.2⟩, ⟨hp, hl⟩, trivial⟩
    exact Ev.true_of_run Ev.EndKeep.follows Ev.EndKeep.code (f := 3) rfl Ev.EndKeep.run4 (Ev.vals [a0, a1, a2, len3]) (Ev.rel_sint rfl hK (Ev.rel_sint rfl hK (Ev.rel_sint rfl hK (Ev.rel_osl rfl hK Ev.rel_nil)))) w
  have g2 : 1 ≤ a2 ∧ a2 ≤ 1000 := by omega
  by_cases b5 : 3 ≤ a0
  · have hK := Ev.holds_of (σ := Ev.vals [a0, a1, a2, len3]) (l := [(3, 9223372036854775807), (1, 1000), (1, 1000), (0, 9223372036854775807)]) ⟨⟨b5, h0.2⟩, g1, g2, ⟨hp, hl⟩, trivial⟩
    exact Ev.true_of_run Ev.EndKeep.follows Ev.EndKeep.code (f := 3) rfl Ev.EndKeep.run5 (Ev.vals [a0, a1, a2, len3]) (Ev.rel_sint rfl hK (Ev.rel_sint rfl hK (Ev.rel_sint rfl hK (Ev.rel_osl rfl hK Ev.rel_nil)))) w
  by_cases b6 : a0 ≤ 0
  · have hK := Ev.holds_of (σ := Ev.vals [a0, a1, a2, len3]) (l := [(-9223372036854775808, 0), (1, 1000), (1, 1000), (0, 9223372036854775807)]) ⟨⟨h0.1, b6⟩, g1, g2, ⟨hp, hl⟩, trivial⟩
    exact Ev.true_of_run Ev.EndKeep.follows Ev.EndKeep.code (f := 3) rfl Ev.EndKeep.run6 (Ev.vals [a0, a1, a2, len3]) (Ev.rel_sint rfl hK (Ev.rel_sint rfl hK (Ev.rel_sint rfl hK (Ev.rel_osl rfl hK Ev.rel_nil)))) w
  have c0 : a0 = 1 ∨ a0 = 2 := by omega
  by_cases b7 : len3 = 0
  · subst b7
    have hK := Ev.holds_of (σ := Ev.vals [0, a1, a2, 0]) (l := [(0, 0), (1, 1000), (1, 1000), (0, 0)]) ⟨⟨hz, hz⟩, g1, g2, ⟨hz, hz⟩, trivial⟩
    rcases c0 with rfl | rfl
    · exact Ev.true_of_run Ev.EndKeep.follows Ev.EndKeep.code (f := 3) rfl Ev.EndKeep.run7 (Ev.vals [0, a1, a2, 0]) (Ev.rel_int (Ev.rel_sint rfl hK (Ev.rel_sint rfl hK (Ev.rel_osl rfl hK Ev.rel_nil)))) w
    · exact Ev.true_of_run Ev.EndKeep.follows Ev.EndKeep.code (f := 3) rfl Ev.EndKeep.run8 (Ev.vals [0, a1, a2, 0]) (Ev.rel_int (Ev.rel_sint rfl hK (Ev.rel_sint rfl hK (Ev.rel_osl rfl hK Ev.rel_nil)))) w
  rcases w3 with ⟨_, h3, _, _⟩ | ⟨x, rfl, hlc, _, hzl, hcell, _⟩
  · exact absurd h3 b7
  rcases c0 with rfl | rfl
  · exact Ev.EndKeep.calls 1 (.inl rfl) g1 g2 (by omega) (by omega) hl hcell
  · exact Ev.EndKeep.calls 2 (.inr rfl) g1 g2 (by omega) (by omega) hl hcell

/-! ### THE ROW's STEP: WRITTEN OUT: LEAVE IT -/
set_option maxRecDepth 100000 in
theorem lifted (os : Os) (started : os.Started) (H : Type) (enc : TypeId × Value → H) :
    ReturnsInHanded {} Tryz.checked os 3 .any (Rows.endKeepSpec.pre6 enc Tryz.prog Tryz.f3 Rows.endKeepRow.domain false) (Rows.endKeepSpec.post enc Tryz.prog Tryz.f3 false true false false) := by
  refine returnsInHanded_of_change (C := Tryz.checked) own started (by kernel_rfl) Tryz.func3
    (ChangeSpec.witness6 (enc := enc) (C := Tryz.checked) false ⟨#[], #[.int .i64 0, .int .i64 0, .int .i64 0, .slice none 0 0], []⟩ 8 (by kernel_rfl) (by kernel_rfl) (by kernel_rfl) (by kernel_rfl)) ?_
  intro W base args ds gs before hval0 hW hcnd _
  have hval : ∀ (j : Nat) t v, Tryz.f3.params[j]? = some t → args[j]? = some v → Value.okWide Tryz.prog W .any base t v := hval0
  have hW' := hW
  obtain ⟨p, q, hA0, hV, rfl, hfz, hnd⟩ := hW
  have hA : DataW.TrodAll enc Tryz.prog W 0 (fun _ => true) true Tryz.f3.params.toList args.toList ds p := hA0
  rw [Tryz.params3] at hA hval
  obtain ⟨v0, vs0, d0, ds0, p0, q0, hargs, rfl, rfl, h0, r0⟩ := trodAll_cons hA
  obtain ⟨v1, vs1, d1, ds1, p1, q1, rfl, rfl, rfl, h1, r1⟩ := trodAll_cons r0
  obtain ⟨v2, vs2, d2, ds2, p2, q2, rfl, rfl, rfl, h2, r2⟩ := trodAll_cons r1
  obtain ⟨v3, vs3, d3, ds3, p3, q3, rfl, rfl, rfl, h3, r3⟩ := trodAll_cons r2
  obtain ⟨rfl, rfl, rfl⟩ := trodAll_nil r3
  obtain rfl : args = #[v0, v1, v2, v3] := by cases args; simp_all
  obtain ⟨rfl, rfl⟩ := trodVars_none hV
  obtain ⟨a0, rfl, rfl, rfl, w0⟩ := open_int Tryz.underlying3 (hval 0 3 v0 rfl rfl) h0
  obtain ⟨a1, rfl, rfl, rfl, w1⟩ := open_int Tryz.underlying2 (hval 1 2 v1 rfl rfl) h1
  obtain ⟨a2, rfl, rfl, rfl, w2⟩ := open_int Tryz.underlying2 (hval 2 2 v2 rfl rfl) h2
  obtain ⟨a3, len3, cap3, rfl⟩ := okWide_slice Tryz.underlying22 (hval 3 22 v3 rfl rfl)
  have k3 := h3
  have lt3 : ∀ x ∈ p3, x.block < W.heap.size := by obtain ⟨m, hm⟩ := k3; exact DataW.trod_lt m _ _ _ hm
  obtain ⟨z3, w3⟩ : ∃ zs, IsRow .i64 W a3 len3 cap3 zs := by
    obtain ⟨fuel, hf⟩ := h3
    rcases open_ints Tryz.underlying22 Tryz.underlying2 (by kernel_rfl) hf with ⟨hcs, _⟩ | ⟨x, l, c, zs, hcs, _, hl, hm, hz, _, hcell, hwz⟩
    · simp [Value.cells] at hcs
      obtain ⟨rfl, rfl, rfl⟩ := hcs
      exact ⟨[], .inl ⟨rfl, rfl, rfl, rfl⟩⟩
    · simp [Value.cells] at hcs
      obtain ⟨rfl, rfl, rfl⟩ := hcs
      exact ⟨zs, .inr ⟨_, rfl, hl, hm, by simpa using hz, hcell, hwz⟩⟩
  clear hA0 hval0
  refine (walk a0 a1 a2 a3 len3 cap3 z3 W w0 w1 w2 w3).mono fun e W' ⟨he, bel⟩ => ?_
  subst he
  exact ⟨_, rfl, _, _, _, [], _, [], hW', trodAll_mk1 (shut_bool Tryz.underlying4 _), (trodAll_cons_mk (shut_int Tryz.underlying3 w0) (trodAll_cons_mk (shut_int Tryz.underlying2 w1) (trodAll_cons_mk (shut_int Tryz.underlying2 w2) (trodAll_cons_mk (Below.trod laidOut (by kernel_rfl) (of_decide_eq_true (by kernel_rfl)) k3 bel lt3) trodAll_mk0)))), rfl, bel.frame _, fun h => by cases h⟩

theorem over : Rows.endKeepRow.holds Tryz.pinned (OpenSpec.ofChange Rows.endKeepSpec) :=
  OpenClaim.holds_of_wide 3 Tryz.f3 rfl rfl rfl rfl rfl rfl rfl ⟨rfl, rfl, rfl, rfl, rfl⟩ rfl rfl rfl rfl rfl (by kernel_rfl) Tryz.func3 EndKeepDone.closed
    (of_decide_eq_true (by kernel_rfl)) (by unfold Func.isWrapper; first | (rw [if_pos (by decide +kernel)]; kernel_rfl) | (rw [if_neg (by decide +kernel)]; exact ⟨rfl, rfl⟩))
    (fun os started H enc _ => lifted os started H enc)

/-- The statement. -/
theorem proved : Rows.EndKeepSaid := over
end Go.Proofs.YtikadibppimomaaGreat.endKeep
namespace Go.Proofs.YtikadibppimomaaGreat
theorem endKeep_holds : Rows.EndKeepSaid := endKeep.proved
#print axioms endKeep_holds
end Go.Proofs.YtikadibppimomaaGreat
