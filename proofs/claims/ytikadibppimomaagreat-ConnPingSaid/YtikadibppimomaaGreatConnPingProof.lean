/- The law ConnPing: its function returns true, whatever it is called with, and leaves all memory that was there as it was. -/
import Derived.Test.YtikadibppimomaaGreatRows
import Derived.WalkKit
import Derived.Test.YtikadibppimomaaGreatConnPingR
import Derived.Test.YtikadibppimomaaGreatConnPingFacts
import Derived.Below
import Derived.ProofKit
import Derived.OpenShut
import Derived.ShutString
import Derived.ChangeOld
import Derived.Below
namespace Go.Proofs.YtikadibppimomaaGreat.connPing
open Go.ChangeShapes Go.WideShapes Go.ChangeAt Go.RowKit
open Go.ChangeMaps (open_string shut_string)
set_option linter.unusedVariables false

theorem own : ownKnob Tryz.prog.godebug = none := by kernel_rfl
theorem laidOut : laidOutB Tryz.prog = true := by kernel_rfl

/-- WHAT THE WALK IS TOLD OF A SLICE OF INTEGERS THAT CAME IN: it is nil; or it leads to a row of 'cap' cells, the numbers 'zs' (the first 'len' are its elements, the rest its spare room), each fitting its kind. -/
def IsRow (k : IntKind) (w : World) (a : Option Addr) (len cap : Nat) (zs : List Int) : Prop :=
  (a = none ∧ len = 0 ∧ cap = 0 ∧ zs = []) ∨
  ∃ x, a = some x ∧ len ≤ cap ∧ cap ≤ maxLen ∧ zs.length = cap ∧ (∀ i, i < zs.length → w.cell? (x.add i) = some (.int k (zs.getD i 0))) ∧ ∀ n ∈ zs, (Lit.int k n).wf = true

theorem walk (a0 : Option Addr) (len0 cap0 : Nat) (z0 : List Int) (a1 : Bool) (w : World) (w0 : IsRow .u8 w a0 len0 cap0 z0) :
    Calls Tryz.prog 4 #[.slice a0 len0 cap0, .bool a1] w fun e w' => e = .returned (.bool true) ∧ Below w.heap.size w w' :=
  by
  have hp : (0 : Int) ≤ (len0 : Int) := Int.natCast_nonneg _
  have hl : (len0 : Int) ≤ 9223372036854775807 := by
    rcases w0 with ⟨_, rfl, _, _⟩ | ⟨x, _, h3, h4, _⟩
    · decide
    · have : len0 ≤ 2 ^ 63 - 1 := Nat.le_trans h3 h4
      omega
  have hz : (0 : Int) ≤ 0 := Int.le_refl 0
  have c0 : len0 = 8 ∨ (len0 : Int) ≤ 7 ∨ 9 ≤ (len0 : Int) := by omega
  rcases c0 with rfl | h | h
  · rcases w0 with ⟨_, h8, _, _⟩ | ⟨x, rfl, hlc, _, hzl, hcell, _⟩
    · cases h8
    · obtain ⟨hs, c, t, fr, hb, hsz, hc⟩ := Ev.row_block (by omega) hcell
      have hcells : ∀ (i : Nat) (v : Ev.AV), ([.int .u8 (z0.getD 0 0), .int .u8 (z0.getD 1 0), .int .u8 (z0.getD 2 0), .int .u8 (z0.getD 3 0), .int .u8 (z0.getD 4 0), .int .u8 (z0.getD 5 0), .int .u8 (z0.getD 6 0), .int .u8 (z0.getD 7 0)] : List Ev.AV)[i]? = some v →
          v.scalar = true ∧ ∃ v', c[x.off + i]? = some v' ∧ Ev.VRel (Ev.muRo (Ev.vals []) x.block x.off) v v' := by
        intro i v hv
        have hv : ((List.range 8).map fun i => Ev.AV.int .u8 (z0.getD i 0))[i]? = some v := hv
        have hi : i < 8 := by have := (List.getElem?_eq_some_iff.1 hv).1; simpa using this
        rw [List.getElem?_map, List.getElem?_range hi] at hv
        simp only [Option.map_some, Option.some.injEq] at hv; subst hv
        exact ⟨rfl, _, hc i (by omega), Ev.VRel_int.2 rfl⟩
      cases a1 with
      | true => exact Ev.true_of_runRo Ev.ConnPing.follows Ev.ConnPing.code (f := 4) rfl ((Ev.ConnPing.run1 _ _ _ _ _ _ _ _ cap0).trans (by rw [Ev.beqBytes_self])) (Ev.vals []) (Ev.rel_ro hs hlc (Ev.rel_bool Ev.rel_nil)) w hb (by simp only [List.length_cons, List.length_nil]; omega) hcells
      | false => exact Ev.true_of_runRo Ev.ConnPing.follows Ev.ConnPing.code (f := 4) rfl ((Ev.ConnPing.run2 _ _ _ _ _ _ _ _ cap0).trans (by rw [Ev.beqBytes_self])) (Ev.vals []) (Ev.rel_ro hs hlc (Ev.rel_bool Ev.rel_nil)) w hb (by simp only [List.length_cons, List.length_nil]; omega) hcells
  · cases a1 with
    | true => exact Ev.true_of_run Ev.ConnPing.follows Ev.ConnPing.code (f := 4) rfl Ev.ConnPing.run3 (Ev.vals [len0, 0]) (Ev.rel_osl rfl (Ev.holds_of ⟨⟨hp, h⟩, ⟨hz, hz⟩, trivial⟩) (Ev.rel_bool Ev.rel_nil)) w
    | false => exact Ev.true_of_run Ev.ConnPing.follows Ev.ConnPing.code (f := 4) rfl Ev.ConnPing.run4 (Ev.vals [len0, 0]) (Ev.rel_osl rfl (Ev.holds_of ⟨⟨hp, h⟩, ⟨hz, hz⟩, trivial⟩) (Ev.rel_bool Ev.rel_nil)) w
  · cases a1 with
    | true => exact Ev.true_of_run Ev.ConnPing.follows Ev.ConnPing.code (f := 4) rfl Ev.ConnPing.run5 (Ev.vals [len0, 0]) (Ev.rel_osl rfl (Ev.holds_of ⟨⟨h, hl⟩, ⟨hz, hz⟩, trivial⟩) (Ev.rel_bool Ev.rel_nil)) w
    | false => exact Ev.true_of_run Ev.ConnPing.follows Ev.ConnPing.code (f := 4) rfl Ev.ConnPing.run6 (Ev.vals [len0, 0]) (Ev.rel_osl rfl (Ev.holds_of ⟨⟨h, hl⟩, ⟨hz, hz⟩, trivial⟩) (Ev.rel_bool Ev.rel_nil)) w

/-! ### THE ROW's STEP: WRITTEN OUT: LEAVE IT -/
set_option maxRecDepth 100000 in
theorem lifted (os : Os) (started : os.Started) (H : Type) (enc : TypeId × Value → H) :
    ReturnsInHanded {} Tryz.checked os 4 .any (Rows.connPingSpec.pre6 enc Tryz.prog Tryz.f4 Rows.connPingRow.domain false) (Rows.connPingSpec.post enc Tryz.prog Tryz.f4 false true false false) := by
  refine returnsInHanded_of_change (C := Tryz.checked) own started (by kernel_rfl) Tryz.func4
    (ChangeSpec.witness6 (enc := enc) (C := Tryz.checked) false ⟨#[], #[.slice none 0 0, .bool false], []⟩ 8 (by kernel_rfl) (by kernel_rfl) (by kernel_rfl) (by kernel_rfl)) ?_
  intro W base args ds gs before hval0 hW hcnd _
  have hval : ∀ (j : Nat) t v, Tryz.f4.params[j]? = some t → args[j]? = some v → Value.okWide Tryz.prog W .any base t v := hval0
  have hW' := hW
  obtain ⟨p, q, hA0, hV, rfl, hfz, hnd⟩ := hW
  have hA : DataW.TrodAll enc Tryz.prog W 0 (fun _ => true) true Tryz.f4.params.toList args.toList ds p := hA0
  rw [Tryz.params4] at hA hval
  obtain ⟨v0, vs0, d0, ds0, p0, q0, hargs, rfl, rfl, h0, r0⟩ := trodAll_cons hA
  obtain ⟨v1, vs1, d1, ds1, p1, q1, rfl, rfl, rfl, h1, r1⟩ := trodAll_cons r0
  obtain ⟨rfl, rfl, rfl⟩ := trodAll_nil r1
  obtain rfl : args = #[v0, v1] := by cases args; simp_all
  obtain ⟨rfl, rfl⟩ := trodVars_none hV
  obtain ⟨a0, len0, cap0, rfl⟩ := okWide_slice Tryz.underlying33 (hval 0 33 v0 rfl rfl)
  have k0 := h0
  have lt0 : ∀ x ∈ p0, x.block < W.heap.size := by obtain ⟨m, hm⟩ := k0; exact DataW.trod_lt m _ _ _ hm
  obtain ⟨z0, w0⟩ : ∃ zs, IsRow .u8 W a0 len0 cap0 zs := by
    obtain ⟨fuel, hf⟩ := h0
    rcases open_ints Tryz.underlying33 Tryz.underlying5 (by kernel_rfl) hf with ⟨hcs, _⟩ | ⟨x, l, c, zs, hcs, _, hl, hm, hz, _, hcell, hwz⟩
    · simp [Value.cells] at hcs
      obtain ⟨rfl, rfl, rfl⟩ := hcs
      exact ⟨[], .inl ⟨rfl, rfl, rfl, rfl⟩⟩
    · simp [Value.cells] at hcs
      obtain ⟨rfl, rfl, rfl⟩ := hcs
      exact ⟨zs, .inr ⟨_, rfl, hl, hm, by simpa using hz, hcell, hwz⟩⟩
  obtain ⟨a1, rfl, rfl, rfl⟩ := open_bool Tryz.underlying4 (hval 1 4 v1 rfl rfl) h1
  clear hA0 hval0
  refine (walk a0 len0 cap0 z0 a1 W w0).mono fun e W' ⟨he, bel⟩ => ?_
  subst he
  exact ⟨_, rfl, _, _, _, [], _, [], hW', trodAll_mk1 (shut_bool Tryz.underlying4 _), (trodAll_cons_mk (Below.trod laidOut (by kernel_rfl) (of_decide_eq_true (by kernel_rfl)) k0 bel lt0) (trodAll_cons_mk (shut_bool Tryz.underlying4 _) trodAll_mk0)), rfl, bel.frame _, fun h => by cases h⟩

theorem over : Rows.connPingRow.holds Tryz.pinned (OpenSpec.ofChange Rows.connPingSpec) :=
  OpenClaim.holds_of_wide 4 Tryz.f4 rfl rfl rfl rfl rfl rfl rfl ⟨rfl, rfl, rfl, rfl, rfl⟩ rfl rfl rfl rfl rfl (by kernel_rfl) Tryz.func4 ConnPingDone.closed
    (of_decide_eq_true (by kernel_rfl)) (by unfold Func.isWrapper; first | (rw [if_pos (by decide +kernel)]; kernel_rfl) | (rw [if_neg (by decide +kernel)]; exact ⟨rfl, rfl⟩))
    (fun os started H enc _ => lifted os started H enc)

/-- The statement. -/
theorem proved : Rows.ConnPingSaid := over
end Go.Proofs.YtikadibppimomaaGreat.connPing
namespace Go.Proofs.YtikadibppimomaaGreat
theorem connPing_holds : Rows.ConnPingSaid := connPing.proved
#print axioms connPing_holds
end Go.Proofs.YtikadibppimomaaGreat
