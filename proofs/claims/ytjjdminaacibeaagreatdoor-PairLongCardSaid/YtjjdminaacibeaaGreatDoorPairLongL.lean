/- PairLong: the closure's contract: called with a loop's yield over ticks alone it hands back nothing, and leaves all memory as it was. -/
import Derived.Test.YtjjdminaacibeaaGreatDoorPairLongS
namespace Go.Proofs.YtjjdminaacibeaaGreatDoor.Ev.PairLong
set_option maxRecDepth 1000000
theorem follows : Tryz.prog.follows .mixedOrders = true := by kernel_rfl
theorem recok : RecOk Tryz.prog tab (run Γ 1000000) := rec_ok follows code _
theorem drawok : DrawOk Tryz.prog tab (run Γ 1000000) := rec_draw follows code _
theorem codeL_one {n : Nat} {rec : Rec} {x : ICode} {E E1 : Env} {H H1 : Heap} (h : codeL n rec [x] E H = some (.mk .normal E1 H1)) : codeE n rec x E H = some (.mk .normal E1 H1) := by
  have h : seqOn (codeL n rec []) (codeE n rec x E H) = some (.mk .normal E1 H1) := h
  cases ho : codeE n rec x E H with
  | none => rw [ho] at h; cases h
  | some o =>
    obtain ⟨ex, E2, H2⟩ := o
    rw [ho] at h
    cases ex with
    | normal => exact h
    | exit id => cases h
    | ret => cases h
theorem exitAt_ok {id : Nat} {o : Option Out} (h : exitAt id o = true) : ∃ E H, o = some (.mk (.exit id) E H) := by
  unfold exitAt at h
  split at h
  · have := Nat.eq_of_beq_eq_true h; subst this; exact ⟨_, _, rfl⟩
  · cases h
theorem hR (σ : Nat → Int) : rngsHold σ 0 R ↔ (0 ≤ σ 0 ∧ σ 0 ≤ 4096) ∧ True := Iff.rfl
theorem k0 {σ : Nat → Int} (h : rngsHold σ 0 R) : K0.Holds σ := holds_of h
section
variable {B nt : Nat} {μ0 : Mu} {w0 : World}
/-- The states of the loop. -/
def St (B nt : Nat) (μ0 : Mu) (w0 : World) (m : Nat) (a : Act) (w : World) : Prop :=
  ∃ σ, m = (4096 - σ 0).toNat ∧ rngsHold σ 0 R ∧ At Tryz.prog tab B nt none μ0 w0 σ (mkEnv (EL K0)) (mkHeap (HL K0) NL) a w
/-- How it ends. -/
def QL (B nt : Nat) (μ0 : Mu) (w0 : World) (ex : Exit') (a : Act) (w : World) : Prop :=
  ex = .exit 0 ∧ ∃ σ E1 H1, At Tryz.prog tab B nt none μ0 w0 σ E1 H1 a w
theorem step (hnt : Nat.ble nt 1022 = true) (m : Nat) : Wp Tryz.prog tab nt none lp (St B nt μ0 w0 m) (fun ex a w => (ex = .normal → ∃ m', m' < m ∧ St B nt μ0 w0 m' a w) ∧ (ex ≠ .normal → QL B nt μ0 w0 ex a w)) := by
  intro x hc hn a w ⟨σ, hm, hr, h⟩
  obtain ⟨⟨r0, r0b⟩, _⟩ := (hR σ).1 hr
  by_cases c1 : σ 0 < 4096
  · have u0 : substVal s1 σ 0 = σ 0 + 1 := rfl
    have hr' : rngsHold (substVal s1 σ) 0 R := (hR _).2 (by rw [u0]; exact ⟨⟨by omega, by omega⟩, trivial⟩)
    refine ((Wp.fit recok drawok rfl xS hnt rfl (k0 hr')).post fun ex a w h => ⟨fun _ => ⟨_, ?_, _, rfl, hr', h.2⟩, fun e => absurd h.1 e⟩) x hc hn a w (At.know eS hS hnt rfl (holdsF hr (List.forall_mem_cons.2 ⟨by simp only [SE.eval]; omega, fun _ h => absurd h List.not_mem_nil⟩)) h)
    rw [u0, hm]; omega
  · obtain ⟨E1, H1, hd⟩ := exitAt_ok xX
    exact ((Wp.run recok drawok hd).post fun ex a w h => ⟨fun e => absurd (h.1.symm.trans e) (by simp), fun _ => ⟨h.1, σ, E1, H1, h.2⟩⟩) x hc hn a w (At.know eX hX hnt rfl (holdsF hr (List.forall_mem_cons.2 ⟨by simp only [SE.eval]; omega, fun _ h => absurd h List.not_mem_nil⟩)) h)
theorem whole (hnt : Nat.ble nt 1022 = true) {σ : Nat → Int} :
    Wp Tryz.prog tab nt none (fiOf c71).body (At Tryz.prog tab B nt none μ0 w0 σ (argsEnv [.func (.yield 3) [] [], .ptr (some (0, 0)), .ptr (some (1, 0))] 0 (T.full 10)) (mkHeap (seen3 plain 12 4096 12 tick 4097) 4)) (fun ex a w' => (ex = .ret ∨ ex = .normal) ∧ ∃ σ' E1 H1, finFn (fiOf c71).results E1 H1 = some (.tuple [], H1) ∧ At Tryz.prog tab B nt none μ0 w0 σ' E1 H1 a w') := by
  rw [shapeC, resultsC]
  obtain ⟨E0, H0, hpre, fe, fh⟩ := fitOut_ok pre
  refine Wp.scope (Wp.seqs recok drawok preC [dC] hpre (fun E2 H2 hd => ?_))
  have hd := codeL_one hd
  have u0 : substVal s0 σ 0 = 0 := rfl
  have hr' : rngsHold (substVal s0 σ) 0 R := (hR _).2 (by rw [u0]; exact ⟨⟨by omega, by omega⟩, trivial⟩)
  refine Wp.seq (M := St B nt μ0 w0 4096) ((Wp.run recok drawok hd).post ?_) (Wp.block ((Wp.loop (step hnt) 4096).post ?_))
  · rintro ex a w ⟨rfl, h⟩
    refine ⟨fun _ => ⟨_, ?_, hr', At.refit rfl fe fh hnt rfl (k0 hr') h⟩, fun e => absurd rfl e⟩
    rw [u0]; rfl
  · rintro ex a w ⟨rfl, σ', E1, H1, h⟩
    exact ⟨.inr (by simp [outOf]), σ', E1, H1, rfl, h⟩
end
theorem contract (σ : Nat → Int) (l0 l1 l2 : Nat × Nat) (w : World) (args' : Array Value) (hs : Sim Tryz.prog tab (mu3 σ l0 l1 l2) (mkHeap (seen3 plain 12 4096 12 tick 4097) 4) w)
    (hv : VRelL (mu3 σ l0 l1 l2) [.func (.yield 3) [] [], .ptr (some (0, 0)), .ptr (some (1, 0))] args'.toList) : Calls Tryz.prog 71 args' w fun e w' => e = .returned (.tuple #[]) ∧ Go.RowKit.Below w.heap.size w w' := by
  refine calls_of_wpv (fi := fiOf c71) ok71 (v := .tuple []) (val := .tuple #[]) (fun μ v' h => ?_) rfl hs hv (whole ntC) (fun a l h => ?_)
  · simp only [VRel] at h
    obtain ⟨cs, rfl, h⟩ := h
    have h := VRelL_nil.1 h
    rw [Array.ext' (xs := cs) (ys := #[]) (by simpa using h)]
  · simp only [mu3] at h
    repeat' split at h
    all_goals first | (simp only [Option.some.injEq] at h; subst h; rfl) | (cases h; done)
/-- The run, with the closure's call known. -/
noncomputable def tbl : Tbl := tbl3 71 plain 12 4096 12 tick 4097
theorem tblok : RecOk Tryz.prog tab tbl := tbl3_ok ok71 (by kernel_rfl) (by kernel_rfl) contract
theorem recokT : RecOk Tryz.prog tab (runT Γ tbl 1000000) := runT_ok follows code tblok _
theorem drawokT : DrawOk Tryz.prog tab (runT Γ tbl 1000000) := draw_sound follows recokT
end Go.Proofs.YtjjdminaacibeaaGreatDoor.Ev.PairLong
