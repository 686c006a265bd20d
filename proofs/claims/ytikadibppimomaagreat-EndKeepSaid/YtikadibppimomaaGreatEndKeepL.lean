/- EndKeep: its loop by the steps, and so its run, whatever the ticks are. -/
import Derived.Test.YtikadibppimomaaGreatEndKeepS
namespace Go.Proofs.YtikadibppimomaaGreat.Ev.EndKeep
set_option maxRecDepth 1000000
theorem recok : RecOk Tryz.prog tab (run Γ 1000000) := rec_ok follows code _
theorem drawok : DrawOk Tryz.prog tab (run Γ 1000000) := rec_draw follows code _
theorem codeL_one {n : Nat} {rec : Rec} {x : ICode} {E E1 : Env} {H H1 : Heap} (h : codeL n rec [x] E H = some (.mk .normal E1 H1)) : codeE n rec x E H = some (.mk .normal E1 H1) := by
  have h : seqOn (codeL n rec []) (codeE n rec x E H) = some (.mk .normal E1 H1) := h
  cases ho : codeE n rec x E H with
  | none => rw [ho] at h; cases h
  | some o =>
    obtain ⟨ex, E2, H2⟩ := o
    rw [ho] at h
    cases ex with
    | normal => exact h
    | exit id => cases h
    | ret => cases h
theorem hR (σ : Nat → Int) : rngsHold σ 0 R ↔ (0 ≤ σ 0 ∧ σ 0 ≤ 30) ∧ (1 ≤ σ 1 ∧ σ 1 ≤ 9223372036854775807) ∧ (1 ≤ σ 2 ∧ σ 2 ≤ 1000) ∧ (1 ≤ σ 3 ∧ σ 3 ≤ 1000) ∧ (0 ≤ σ 4 ∧ σ 4 ≤ 1073741824) ∧ (0 ≤ σ 5 ∧ σ 5 ≤ 1073741824) ∧ True := Iff.rfl
theorem v1 (σ : Nat → Int) : substVal s1 σ 0 = σ 0 + 1 ∧ substVal s1 σ 1 = σ 1 ∧ substVal s1 σ 2 = σ 2 ∧ substVal s1 σ 3 = σ 3 ∧ substVal s1 σ 4 = σ 4 ∧ substVal s1 σ 5 = σ 5 := ⟨rfl, rfl, rfl, rfl, rfl, rfl⟩
theorem v4 (σ : Nat → Int) : substVal s4 σ 0 = σ 0 + 1 ∧ substVal s4 σ 1 = σ 1 ∧ substVal s4 σ 2 = σ 2 ∧ substVal s4 σ 3 = σ 3 ∧ substVal s4 σ 4 = σ (100 + 0 + (σ 0).toNat) ∧ substVal s4 σ 5 = σ 5 := ⟨rfl, rfl, rfl, rfl, rfl, rfl⟩
theorem v45 (σ : Nat → Int) : substVal s45 σ 0 = σ 0 + 1 ∧ substVal s45 σ 1 = σ 1 ∧ substVal s45 σ 2 = σ 2 ∧ substVal s45 σ 3 = σ 3 ∧ substVal s45 σ 4 = σ (100 + 0 + (σ 0).toNat) ∧ substVal s45 σ 5 = σ (100 + 0 + (σ 0).toNat) := ⟨rfl, rfl, rfl, rfl, rfl, rfl⟩
theorem v0 (σ : Nat → Int) : substVal s0 σ 0 = 0 ∧ substVal s0 σ 1 = σ 1 ∧ substVal s0 σ 2 = σ 2 ∧ substVal s0 σ 3 = σ 3 ∧ substVal s0 σ 4 = 0 ∧ substVal s0 σ 5 = 0 := ⟨rfl, rfl, rfl, rfl, rfl, rfl⟩
theorem k0 {σ : Nat → Int} (h : rngsHold σ 0 R) : K0.Holds σ := holds_of h
section
variable {B nt : Nat} {μ0 : Mu} {w0 : World}
/-- How the loop ends. -/
def QL (B nt : Nat) (μ0 : Mu) (w0 : World) (ex : Exit') (a : Act) (w : World) : Prop :=
  (ex = .exit 0 ∧ ∃ σ E1 H1, retOk 8 (codeE 1000000 (run Γ 1000000) rest E1 H1) = true ∧ At Tryz.prog tab B nt none μ0 w0 σ E1 H1 a w) ∨ (ex = .ret ∧ ∃ σ E1 H1, E1.get 8 = some (.bool true) ∧ At Tryz.prog tab B nt none μ0 w0 σ E1 H1 a w)
/-- The states of the loop. -/
def St1 (B nt : Nat) (μ0 : Mu) (w0 : World) (m : Nat) (a : Act) (w : World) : Prop :=
  ∃ σ, m = (30 - σ 0).toNat ∧ rngsHold σ 0 R ∧ ((σ 4 < σ 2 ∧ At Tryz.prog tab B nt none μ0 w0 σ (mkEnv (EA1 K0)) (mkHeap (HA1 K0) N1) a w) ∨ (σ 5 ≤ σ 4 ∧ σ 4 < σ 5 + σ 3 ∧ At Tryz.prog tab B nt none μ0 w0 σ (mkEnv (EB1 K0)) (mkHeap (HB1 K0) N1) a w))
theorem step1 (hnt : Nat.ble nt 1022 = true) (m : Nat) : Wp Tryz.prog tab nt none lp (St1 B nt μ0 w0 m) (fun ex a w => (ex = .normal → ∃ m', m' < m ∧ St1 B nt μ0 w0 m' a w) ∧ (ex ≠ .normal → QL B nt μ0 w0 ex a w)) := by
  intro x hc hn a w ⟨σ, hm, hr, hst⟩
  obtain ⟨⟨r0, r0b⟩, ⟨r1, r1b⟩, ⟨r2, r2b⟩, ⟨r3, r3b⟩, ⟨r4, r4b⟩, ⟨r5, r5b⟩, _⟩ := (hR σ).1 hr
  rcases hst with ⟨g, h⟩ | ⟨g, g2, h⟩
  · by_cases c1 : σ 0 < σ 1
    · by_cases c2 : σ 0 < 30
      · by_cases c3 : σ (100 + 0 + (σ 0).toNat) < σ 4
        · exact (by
        obtain ⟨u0, u1, u2, u3, u4, u5⟩ := v1 σ
        have hr' : rngsHold (substVal s1 σ) 0 R := (hR _).2 (by rw [u0, u1, u2, u3, u4, u5]; exact ⟨⟨by omega, by omega⟩, ⟨by omega, by omega⟩, ⟨by omega, by omega⟩, ⟨by omega, by omega⟩, ⟨by omega, by omega⟩, ⟨by omega, by omega⟩, trivial⟩)
        refine ((Wp.fit recok drawok rfl xA1S1 hnt rfl (k0 hr')).post fun ex a w h => ⟨fun _ => ⟨_, ?_, _, rfl, hr', .inl ⟨by rw [u2, u4]; omega, h.2⟩⟩, fun e => absurd h.1 e⟩) x hc hn a w (At.know eA1S1 hA1S1 hnt rfl (holdsF hr (List.forall_mem_cons.2 ⟨by simp only [SE.eval, tk]; omega, List.forall_mem_cons.2 ⟨by simp only [SE.eval, tk]; omega, List.forall_mem_cons.2 ⟨by simp only [SE.eval, tk]; omega, fun _ h => absurd h List.not_mem_nil⟩⟩⟩)) h)
        rw [u0, hm]; omega)
        · by_cases c4 : 1073741824 < σ (100 + 0 + (σ 0).toNat)
          · exact (by
        obtain ⟨u0, u1, u2, u3, u4, u5⟩ := v1 σ
        have hr' : rngsHold (substVal s1 σ) 0 R := (hR _).2 (by rw [u0, u1, u2, u3, u4, u5]; exact ⟨⟨by omega, by omega⟩, ⟨by omega, by omega⟩, ⟨by omega, by omega⟩, ⟨by omega, by omega⟩, ⟨by omega, by omega⟩, ⟨by omega, by omega⟩, trivial⟩)
        refine ((Wp.fit recok drawok rfl xA1S2 hnt rfl (k0 hr')).post fun ex a w h => ⟨fun _ => ⟨_, ?_, _, rfl, hr', .inl ⟨by rw [u2, u4]; omega, h.2⟩⟩, fun e => absurd h.1 e⟩) x hc hn a w (At.know eA1S2 hA1S2 hnt rfl (holdsF hr (List.forall_mem_cons.2 ⟨by simp only [SE.eval, tk]; omega, List.forall_mem_cons.2 ⟨by simp only [SE.eval, tk]; omega, List.forall_mem_cons.2 ⟨by simp only [SE.eval, tk]; omega, List.forall_mem_cons.2 ⟨by simp only [SE.eval, tk]; omega, fun _ h => absurd h List.not_mem_nil⟩⟩⟩⟩)) h)
        rw [u0, hm]; omega)
          · by_cases c5 : σ (100 + 0 + (σ 0).toNat) < σ 2
            · exact (by
        obtain ⟨u0, u1, u2, u3, u4, u5⟩ := v4 σ
        have hr' : rngsHold (substVal s4 σ) 0 R := (hR _).2 (by rw [u0, u1, u2, u3, u4, u5]; exact ⟨⟨by omega, by omega⟩, ⟨by omega, by omega⟩, ⟨by omega, by omega⟩, ⟨by omega, by omega⟩, ⟨by omega, by omega⟩, ⟨by omega, by omega⟩, trivial⟩)
        refine ((Wp.fit recok drawok rfl xA1A3 hnt rfl (k0 hr')).post fun ex a w h => ⟨fun _ => ⟨_, ?_, _, rfl, hr', .inl ⟨by rw [u2, u4]; omega, h.2⟩⟩, fun e => absurd h.1 e⟩) x hc hn a w (At.know eA1A3 hA1A3 hnt rfl (holdsF hr (List.forall_mem_cons.2 ⟨by simp only [SE.eval, tk]; omega, List.forall_mem_cons.2 ⟨by simp only [SE.eval, tk]; omega, List.forall_mem_cons.2 ⟨by simp only [SE.eval, tk]; omega, List.forall_mem_cons.2 ⟨by simp only [SE.eval, tk]; omega, List.forall_mem_cons.2 ⟨by simp only [SE.eval, tk]; omega, fun _ h => absurd h List.not_mem_nil⟩⟩⟩⟩⟩)) h)
        rw [u0, hm]; omega)
            · exact (by
        obtain ⟨u0, u1, u2, u3, u4, u5⟩ := v45 σ
        have hr' : rngsHold (substVal s45 σ) 0 R := (hR _).2 (by rw [u0, u1, u2, u3, u4, u5]; exact ⟨⟨by omega, by omega⟩, ⟨by omega, by omega⟩, ⟨by omega, by omega⟩, ⟨by omega, by omega⟩, ⟨by omega, by omega⟩, ⟨by omega, by omega⟩, trivial⟩)
        refine ((Wp.fit recok drawok rfl xA1A4 hnt rfl (k0 hr')).post fun ex a w h => ⟨fun _ => ⟨_, ?_, _, rfl, hr', .inr ⟨by rw [u4, u5]; omega, by rw [u3, u4, u5]; omega, h.2⟩⟩, fun e => absurd h.1 e⟩) x hc hn a w (At.know eA1A4 hA1A4 hnt rfl (holdsF hr (List.forall_mem_cons.2 ⟨by simp only [SE.eval, tk]; omega, List.forall_mem_cons.2 ⟨by simp only [SE.eval, tk]; omega, List.forall_mem_cons.2 ⟨by simp only [SE.eval, tk]; omega, List.forall_mem_cons.2 ⟨by simp only [SE.eval, tk]; omega, List.forall_mem_cons.2 ⟨by simp only [SE.eval, tk]; omega, fun _ h => absurd h List.not_mem_nil⟩⟩⟩⟩⟩)) h)
        rw [u0, hm]; omega)
      · exact ((Wp.exit recok drawok xA1X2).post fun ex a w h => ⟨fun e => absurd (h.1.symm.trans e) (by simp), fun _ => .inl ⟨h.1, σ, h.2⟩⟩) x hc hn a w (At.know eA1X2 hA1X2 hnt rfl (holdsF hr (List.forall_mem_cons.2 ⟨by simp only [SE.eval, tk]; omega, List.forall_mem_cons.2 ⟨by simp only [SE.eval, tk]; omega, fun _ h => absurd h List.not_mem_nil⟩⟩)) h)
    · exact ((Wp.exit recok drawok xA1X1).post fun ex a w h => ⟨fun e => absurd (h.1.symm.trans e) (by simp), fun _ => .inl ⟨h.1, σ, h.2⟩⟩) x hc hn a w (At.know eA1X1 hA1X1 hnt rfl (holdsF hr (List.forall_mem_cons.2 ⟨by simp only [SE.eval, tk]; omega, fun _ h => absurd h List.not_mem_nil⟩)) h)
  · by_cases c1 : σ 0 < σ 1
    · by_cases c2 : σ 0 < 30
      · by_cases c3 : σ (100 + 0 + (σ 0).toNat) < σ 4
        · exact (by
        obtain ⟨u0, u1, u2, u3, u4, u5⟩ := v1 σ
        have hr' : rngsHold (substVal s1 σ) 0 R := (hR _).2 (by rw [u0, u1, u2, u3, u4, u5]; exact ⟨⟨by omega, by omega⟩, ⟨by omega, by omega⟩, ⟨by omega, by omega⟩, ⟨by omega, by omega⟩, ⟨by omega, by omega⟩, ⟨by omega, by omega⟩, trivial⟩)
        refine ((Wp.fit recok drawok rfl xB1S1 hnt rfl (k0 hr')).post fun ex a w h => ⟨fun _ => ⟨_, ?_, _, rfl, hr', .inr ⟨by rw [u4, u5]; omega, by rw [u3, u4, u5]; omega, h.2⟩⟩, fun e => absurd h.1 e⟩) x hc hn a w (At.know eB1S1 hB1S1 hnt rfl (holdsF hr (List.forall_mem_cons.2 ⟨by simp only [SE.eval, tk]; omega, List.forall_mem_cons.2 ⟨by simp only [SE.eval, tk]; omega, List.forall_mem_cons.2 ⟨by simp only [SE.eval, tk]; omega, fun _ h => absurd h List.not_mem_nil⟩⟩⟩)) h)
        rw [u0, hm]; omega)
        · by_cases c4 : 1073741824 < σ (100 + 0 + (σ 0).toNat)
          · exact (by
        obtain ⟨u0, u1, u2, u3, u4, u5⟩ := v1 σ
        have hr' : rngsHold (substVal s1 σ) 0 R := (hR _).2 (by rw [u0, u1, u2, u3, u4, u5]; exact ⟨⟨by omega, by omega⟩, ⟨by omega, by omega⟩, ⟨by omega, by omega⟩, ⟨by omega, by omega⟩, ⟨by omega, by omega⟩, ⟨by omega, by omega⟩, trivial⟩)
        refine ((Wp.fit recok drawok rfl xB1S2 hnt rfl (k0 hr')).post fun ex a w h => ⟨fun _ => ⟨_, ?_, _, rfl, hr', .inr ⟨by rw [u4, u5]; omega, by rw [u3, u4, u5]; omega, h.2⟩⟩, fun e => absurd h.1 e⟩) x hc hn a w (At.know eB1S2 hB1S2 hnt rfl (holdsF hr (List.forall_mem_cons.2 ⟨by simp only [SE.eval, tk]; omega, List.forall_mem_cons.2 ⟨by simp only [SE.eval, tk]; omega, List.forall_mem_cons.2 ⟨by simp only [SE.eval, tk]; omega, List.forall_mem_cons.2 ⟨by simp only [SE.eval, tk]; omega, fun _ h => absurd h List.not_mem_nil⟩⟩⟩⟩)) h)
        rw [u0, hm]; omega)
          · by_cases c5 : σ (100 + 0 + (σ 0).toNat) < σ 5 + σ 3
            · exact (by
        obtain ⟨u0, u1, u2, u3, u4, u5⟩ := v4 σ
        have hr' : rngsHold (substVal s4 σ) 0 R := (hR _).2 (by rw [u0, u1, u2, u3, u4, u5]; exact ⟨⟨by omega, by omega⟩, ⟨by omega, by omega⟩, ⟨by omega, by omega⟩, ⟨by omega, by omega⟩, ⟨by omega, by omega⟩, ⟨by omega, by omega⟩, trivial⟩)
        refine ((Wp.fit recok drawok rfl xB1B3 hnt rfl (k0 hr')).post fun ex a w h => ⟨fun _ => ⟨_, ?_, _, rfl, hr', .inr ⟨by rw [u4, u5]; omega, by rw [u3, u4, u5]; omega, h.2⟩⟩, fun e => absurd h.1 e⟩) x hc hn a w (At.know eB1B3 hB1B3 hnt rfl (holdsF hr (List.forall_mem_cons.2 ⟨by simp only [SE.eval, tk]; omega, List.forall_mem_cons.2 ⟨by simp only [SE.eval, tk]; omega, List.forall_mem_cons.2 ⟨by simp only [SE.eval, tk]; omega, List.forall_mem_cons.2 ⟨by simp only [SE.eval, tk]; omega, List.forall_mem_cons.2 ⟨by simp only [SE.eval, tk]; omega, fun _ h => absurd h List.not_mem_nil⟩⟩⟩⟩⟩)) h)
        rw [u0, hm]; omega)
            · exact ((Wp.ret recok drawok xB1B4).post fun ex a w h => ⟨fun e => absurd (h.1.symm.trans e) (by simp), fun _ => .inr ⟨h.1, σ, h.2⟩⟩) x hc hn a w (At.know eB1B4 hB1B4 hnt rfl (holdsF hr (List.forall_mem_cons.2 ⟨by simp only [SE.eval, tk]; omega, List.forall_mem_cons.2 ⟨by simp only [SE.eval, tk]; omega, List.forall_mem_cons.2 ⟨by simp only [SE.eval, tk]; omega, List.forall_mem_cons.2 ⟨by simp only [SE.eval, tk]; omega, List.forall_mem_cons.2 ⟨by simp only [SE.eval, tk]; omega, fun _ h => absurd h List.not_mem_nil⟩⟩⟩⟩⟩)) h)
      · exact ((Wp.exit recok drawok xB1X2).post fun ex a w h => ⟨fun e => absurd (h.1.symm.trans e) (by simp), fun _ => .inl ⟨h.1, σ, h.2⟩⟩) x hc hn a w (At.know eB1X2 hB1X2 hnt rfl (holdsF hr (List.forall_mem_cons.2 ⟨by simp only [SE.eval, tk]; omega, List.forall_mem_cons.2 ⟨by simp only [SE.eval, tk]; omega, fun _ h => absurd h List.not_mem_nil⟩⟩)) h)
    · exact ((Wp.exit recok drawok xB1X1).post fun ex a w h => ⟨fun e => absurd (h.1.symm.trans e) (by simp), fun _ => .inl ⟨h.1, σ, h.2⟩⟩) x hc hn a w (At.know eB1X1 hB1X1 hnt rfl (holdsF hr (List.forall_mem_cons.2 ⟨by simp only [SE.eval, tk]; omega, fun _ h => absurd h List.not_mem_nil⟩)) h)
theorem whole1 (hnt : Nat.ble nt 1022 = true) {σ : Nat → Int} (h1 : 1 ≤ σ 1 ∧ σ 1 ≤ 9223372036854775807) (h2 : 1 ≤ σ 2 ∧ σ 2 ≤ 1000) (h3 : 1 ≤ σ 3 ∧ σ 3 ≤ 1000) :
    Wp Tryz.prog tab nt none fb (At Tryz.prog tab B nt none μ0 w0 σ (argsEnv [.int .i64 1, .sint .i64 (.var 2) K0, .sint .i64 (.var 3) K0, .ssl 0 0 (.var 1) K0] 0 (T.full 10)) (heapArr .i64 (.var 1))) (fun ex a w' => (ex = .ret ∨ ex = .normal) ∧ ∃ σ' E1 H1, E1.get 8 = some (.bool true) ∧ At Tryz.prog tab B nt none μ0 w0 σ' E1 H1 a w') := by
  rw [shape]
  obtain ⟨E0, H0, hpre, fe, fh⟩ := fitOut_ok pre1
  refine Wp.seqs recok drawok pre8 [dC] hpre (fun E2 H2 hd => ?_)
  have hd := codeL_one hd
  obtain ⟨u0, u1, u2, u3, u4, u5⟩ := v0 σ
  have hr' : rngsHold (substVal s0 σ) 0 R := (hR _).2 (by rw [u0, u1, u2, u3, u4, u5]; exact ⟨⟨by omega, by omega⟩, ⟨by omega, by omega⟩, ⟨by omega, by omega⟩, ⟨by omega, by omega⟩, ⟨by omega, by omega⟩, ⟨by omega, by omega⟩, trivial⟩)
  refine Wp.seq (M := fun a w => ∃ σ E1 H1, retOk 8 (codeE 1000000 (run Γ 1000000) rest E1 H1) = true ∧ At Tryz.prog tab B nt none μ0 w0 σ E1 H1 a w) (Wp.seq (M := St1 B nt μ0 w0 30) ((Wp.run recok drawok hd).post ?_) (Wp.block ((Wp.loop (step1 hnt) 30).post ?_))) ?_
  · rintro ex a w ⟨rfl, h⟩
    refine ⟨fun _ => ⟨_, ?_, hr', .inl ⟨?_, At.refit rfl fe fh hnt rfl (k0 hr') h⟩⟩, fun e => absurd rfl e⟩
    · rw [u0]; rfl
    · rw [u2, u4]; omega
  · rintro ex a w (⟨rfl, h⟩ | ⟨rfl, h⟩)
    · exact ⟨fun _ => h, fun e => absurd rfl e⟩
    · exact ⟨fun e => absurd e (by simp [outOf]), fun _ => ⟨.inl rfl, h⟩⟩
  · intro x hc hn a w ⟨σ, E1, H1, hr, h⟩
    exact ((Wp.ret recok drawok hr).post fun ex a w h => ⟨.inl h.1, σ, h.2⟩) x hc hn a w h
/-- The states of the loop. -/
def St2 (B nt : Nat) (μ0 : Mu) (w0 : World) (m : Nat) (a : Act) (w : World) : Prop :=
  ∃ σ, m = (30 - σ 0).toNat ∧ rngsHold σ 0 R ∧ ((σ 4 < σ 2 ∧ At Tryz.prog tab B nt none μ0 w0 σ (mkEnv (EA2 K0)) (mkHeap (HA2 K0) N2) a w) ∨ (σ 5 ≤ σ 4 ∧ σ 4 < σ 5 + σ 3 ∧ At Tryz.prog tab B nt none μ0 w0 σ (mkEnv (EB2 K0)) (mkHeap (HB2 K0) N2) a w))
theorem step2 (hnt : Nat.ble nt 1022 = true) (m : Nat) : Wp Tryz.prog tab nt none lp (St2 B nt μ0 w0 m) (fun ex a w => (ex = .normal → ∃ m', m' < m ∧ St2 B nt μ0 w0 m' a w) ∧ (ex ≠ .normal → QL B nt μ0 w0 ex a w)) := by
  intro x hc hn a w ⟨σ, hm, hr, hst⟩
  obtain ⟨⟨r0, r0b⟩, ⟨r1, r1b⟩, ⟨r2, r2b⟩, ⟨r3, r3b⟩, ⟨r4, r4b⟩, ⟨r5, r5b⟩, _⟩ := (hR σ).1 hr
  rcases hst with ⟨g, h⟩ | ⟨g, g2, h⟩
  · by_cases c1 : σ 0 < σ 1
    · by_cases c2 : σ 0 < 30
      · by_cases c3 : σ (100 + 0 + (σ 0).toNat) < σ 4
        · exact (by
        obtain ⟨u0, u1, u2, u3, u4, u5⟩ := v1 σ
        have hr' : rngsHold (substVal s1 σ) 0 R := (hR _).2 (by rw [u0, u1, u2, u3, u4, u5]; exact ⟨⟨by omega, by omega⟩, ⟨by omega, by omega⟩, ⟨by omega, by omega⟩, ⟨by omega, by omega⟩, ⟨by omega, by omega⟩, ⟨by omega, by omega⟩, trivial⟩)
        refine ((Wp.fit recok drawok rfl xA2S1 hnt rfl (k0 hr')).post fun ex a w h => ⟨fun _ => ⟨_, ?_, _, rfl, hr', .inl ⟨by rw [u2, u4]; omega, h.2⟩⟩, fun e => absurd h.1 e⟩) x hc hn a w (At.know eA2S1 hA2S1 hnt rfl (holdsF hr (List.forall_mem_cons.2 ⟨by simp only [SE.eval, tk]; omega, List.forall_mem_cons.2 ⟨by simp only [SE.eval, tk]; omega, List.forall_mem_cons.2 ⟨by simp only [SE.eval, tk]; omega, fun _ h => absurd h List.not_mem_nil⟩⟩⟩)) h)
        rw [u0, hm]; omega)
        · by_cases c4 : 1073741824 < σ (100 + 0 + (σ 0).toNat)
          · exact (by
        obtain ⟨u0, u1, u2, u3, u4, u5⟩ := v1 σ
        have hr' : rngsHold (substVal s1 σ) 0 R := (hR _).2 (by rw [u0, u1, u2, u3, u4, u5]; exact ⟨⟨by omega, by omega⟩, ⟨by omega, by omega⟩, ⟨by omega, by omega⟩, ⟨by omega, by omega⟩, ⟨by omega, by omega⟩, ⟨by omega, by omega⟩, trivial⟩)
        refine ((Wp.fit recok drawok rfl xA2S2 hnt rfl (k0 hr')).post fun ex a w h => ⟨fun _ => ⟨_, ?_, _, rfl, hr', .inl ⟨by rw [u2, u4]; omega, h.2⟩⟩, fun e => absurd h.1 e⟩) x hc hn a w (At.know eA2S2 hA2S2 hnt rfl (holdsF hr (List.forall_mem_cons.2 ⟨by simp only [SE.eval, tk]; omega, List.forall_mem_cons.2 ⟨by simp only [SE.eval, tk]; omega, List.forall_mem_cons.2 ⟨by simp only [SE.eval, tk]; omega, List.forall_mem_cons.2 ⟨by simp only [SE.eval, tk]; omega, fun _ h => absurd h List.not_mem_nil⟩⟩⟩⟩)) h)
        rw [u0, hm]; omega)
          · by_cases c5 : σ (100 + 0 + (σ 0).toNat) < σ 2
            · exact (by
        obtain ⟨u0, u1, u2, u3, u4, u5⟩ := v4 σ
        have hr' : rngsHold (substVal s4 σ) 0 R := (hR _).2 (by rw [u0, u1, u2, u3, u4, u5]; exact ⟨⟨by omega, by omega⟩, ⟨by omega, by omega⟩, ⟨by omega, by omega⟩, ⟨by omega, by omega⟩, ⟨by omega, by omega⟩, ⟨by omega, by omega⟩, trivial⟩)
        refine ((Wp.fit recok drawok rfl xA2A3 hnt rfl (k0 hr')).post fun ex a w h => ⟨fun _ => ⟨_, ?_, _, rfl, hr', .inl ⟨by rw [u2, u4]; omega, h.2⟩⟩, fun e => absurd h.1 e⟩) x hc hn a w (At.know eA2A3 hA2A3 hnt rfl (holdsF hr (List.forall_mem_cons.2 ⟨by simp only [SE.eval, tk]; omega, List.forall_mem_cons.2 ⟨by simp only [SE.eval, tk]; omega, List.forall_mem_cons.2 ⟨by simp only [SE.eval, tk]; omega, List.forall_mem_cons.2 ⟨by simp only [SE.eval, tk]; omega, List.forall_mem_cons.2 ⟨by simp only [SE.eval, tk]; omega, fun _ h => absurd h List.not_mem_nil⟩⟩⟩⟩⟩)) h)
        rw [u0, hm]; omega)
            · exact (by
        obtain ⟨u0, u1, u2, u3, u4, u5⟩ := v45 σ
        have hr' : rngsHold (substVal s45 σ) 0 R := (hR _).2 (by rw [u0, u1, u2, u3, u4, u5]; exact ⟨⟨by omega, by omega⟩, ⟨by omega, by omega⟩, ⟨by omega, by omega⟩, ⟨by omega, by omega⟩, ⟨by omega, by omega⟩, ⟨by omega, by omega⟩, trivial⟩)
        refine ((Wp.fit recok drawok rfl xA2A4 hnt rfl (k0 hr')).post fun ex a w h => ⟨fun _ => ⟨_, ?_, _, rfl, hr', .inr ⟨by rw [u4, u5]; omega, by rw [u3, u4, u5]; omega, h.2⟩⟩, fun e => absurd h.1 e⟩) x hc hn a w (At.know eA2A4 hA2A4 hnt rfl (holdsF hr (List.forall_mem_cons.2 ⟨by simp only [SE.eval, tk]; omega, List.forall_mem_cons.2 ⟨by simp only [SE.eval, tk]; omega, List.forall_mem_cons.2 ⟨by simp only [SE.eval, tk]; omega, List.forall_mem_cons.2 ⟨by simp only [SE.eval, tk]; omega, List.forall_mem_cons.2 ⟨by simp only [SE.eval, tk]; omega, fun _ h => absurd h List.not_mem_nil⟩⟩⟩⟩⟩)) h)
        rw [u0, hm]; omega)
      · exact ((Wp.exit recok drawok xA2X2).post fun ex a w h => ⟨fun e => absurd (h.1.symm.trans e) (by simp), fun _ => .inl ⟨h.1, σ, h.2⟩⟩) x hc hn a w (At.know eA2X2 hA2X2 hnt rfl (holdsF hr (List.forall_mem_cons.2 ⟨by simp only [SE.eval, tk]; omega, List.forall_mem_cons.2 ⟨by simp only [SE.eval, tk]; omega, fun _ h => absurd h List.not_mem_nil⟩⟩)) h)
    · exact ((Wp.exit recok drawok xA2X1).post fun ex a w h => ⟨fun e => absurd (h.1.symm.trans e) (by simp), fun _ => .inl ⟨h.1, σ, h.2⟩⟩) x hc hn a w (At.know eA2X1 hA2X1 hnt rfl (holdsF hr (List.forall_mem_cons.2 ⟨by simp only [SE.eval, tk]; omega, fun _ h => absurd h List.not_mem_nil⟩)) h)
  · by_cases c1 : σ 0 < σ 1
    · by_cases c2 : σ 0 < 30
      · by_cases c3 : σ (100 + 0 + (σ 0).toNat) < σ 4
        · exact (by
        obtain ⟨u0, u1, u2, u3, u4, u5⟩ := v1 σ
        have hr' : rngsHold (substVal s1 σ) 0 R := (hR _).2 (by rw [u0, u1, u2, u3, u4, u5]; exact ⟨⟨by omega, by omega⟩, ⟨by omega, by omega⟩, ⟨by omega, by omega⟩, ⟨by omega, by omega⟩, ⟨by omega, by omega⟩, ⟨by omega, by omega⟩, trivial⟩)
        refine ((Wp.fit recok drawok rfl xB2S1 hnt rfl (k0 hr')).post fun ex a w h => ⟨fun _ => ⟨_, ?_, _, rfl, hr', .inr ⟨by rw [u4, u5]; omega, by rw [u3, u4, u5]; omega, h.2⟩⟩, fun e => absurd h.1 e⟩) x hc hn a w (At.know eB2S1 hB2S1 hnt rfl (holdsF hr (List.forall_mem_cons.2 ⟨by simp only [SE.eval, tk]; omega, List.forall_mem_cons.2 ⟨by simp only [SE.eval, tk]; omega, List.forall_mem_cons.2 ⟨by simp only [SE.eval, tk]; omega, fun _ h => absurd h List.not_mem_nil⟩⟩⟩)) h)
        rw [u0, hm]; omega)
        · by_cases c4 : 1073741824 < σ (100 + 0 + (σ 0).toNat)
          · exact (by
        obtain ⟨u0, u1, u2, u3, u4, u5⟩ := v1 σ
        have hr' : rngsHold (substVal s1 σ) 0 R := (hR _).2 (by rw [u0, u1, u2, u3, u4, u5]; exact ⟨⟨by omega, by omega⟩, ⟨by omega, by omega⟩, ⟨by omega, by omega⟩, ⟨by omega, by omega⟩, ⟨by omega, by omega⟩, ⟨by omega, by omega⟩, trivial⟩)
        refine ((Wp.fit recok drawok rfl xB2S2 hnt rfl (k0 hr')).post fun ex a w h => ⟨fun _ => ⟨_, ?_, _, rfl, hr', .inr ⟨by rw [u4, u5]; omega, by rw [u3, u4, u5]; omega, h.2⟩⟩, fun e => absurd h.1 e⟩) x hc hn a w (At.know eB2S2 hB2S2 hnt rfl (holdsF hr (List.forall_mem_cons.2 ⟨by simp only [SE.eval, tk]; omega, List.forall_mem_cons.2 ⟨by simp only [SE.eval, tk]; omega, List.forall_mem_cons.2 ⟨by simp only [SE.eval, tk]; omega, List.forall_mem_cons.2 ⟨by simp only [SE.eval, tk]; omega, fun _ h => absurd h List.not_mem_nil⟩⟩⟩⟩)) h)
        rw [u0, hm]; omega)
          · by_cases c5 : σ (100 + 0 + (σ 0).toNat) < σ 5 + σ 3
            · exact (by
        obtain ⟨u0, u1, u2, u3, u4, u5⟩ := v4 σ
        have hr' : rngsHold (substVal s4 σ) 0 R := (hR _).2 (by rw [u0, u1, u2, u3, u4, u5]; exact ⟨⟨by omega, by omega⟩, ⟨by omega, by omega⟩, ⟨by omega, by omega⟩, ⟨by omega, by omega⟩, ⟨by omega, by omega⟩, ⟨by omega, by omega⟩, trivial⟩)
        refine ((Wp.fit recok drawok rfl xB2B3 hnt rfl (k0 hr')).post fun ex a w h => ⟨fun _ => ⟨_, ?_, _, rfl, hr', .inr ⟨by rw [u4, u5]; omega, by rw [u3, u4, u5]; omega, h.2⟩⟩, fun e => absurd h.1 e⟩) x hc hn a w (At.know eB2B3 hB2B3 hnt rfl (holdsF hr (List.forall_mem_cons.2 ⟨by simp only [SE.eval, tk]; omega, List.forall_mem_cons.2 ⟨by simp only [SE.eval, tk]; omega, List.forall_mem_cons.2 ⟨by simp only [SE.eval, tk]; omega, List.forall_mem_cons.2 ⟨by simp only [SE.eval, tk]; omega, List.forall_mem_cons.2 ⟨by simp only [SE.eval, tk]; omega, fun _ h => absurd h List.not_mem_nil⟩⟩⟩⟩⟩)) h)
        rw [u0, hm]; omega)
            · exact ((Wp.ret recok drawok xB2B4).post fun ex a w h => ⟨fun e => absurd (h.1.symm.trans e) (by simp), fun _ => .inr ⟨h.1, σ, h.2⟩⟩) x hc hn a w (At.know eB2B4 hB2B4 hnt rfl (holdsF hr (List.forall_mem_cons.2 ⟨by simp only [SE.eval, tk]; omega, List.forall_mem_cons.2 ⟨by simp only [SE.eval, tk]; omega, List.forall_mem_cons.2 ⟨by simp only [SE.eval, tk]; omega, List.forall_mem_cons.2 ⟨by simp only [SE.eval, tk]; omega, List.forall_mem_cons.2 ⟨by simp only [SE.eval, tk]; omega, fun _ h => absurd h List.not_mem_nil⟩⟩⟩⟩⟩)) h)
      · exact ((Wp.exit recok drawok xB2X2).post fun ex a w h => ⟨fun e => absurd (h.1.symm.trans e) (by simp), fun _ => .inl ⟨h.1, σ, h.2⟩⟩) x hc hn a w (At.know eB2X2 hB2X2 hnt rfl (holdsF hr (List.forall_mem_cons.2 ⟨by simp only [SE.eval, tk]; omega, List.forall_mem_cons.2 ⟨by simp only [SE.eval, tk]; omega, fun _ h => absurd h List.not_mem_nil⟩⟩)) h)
    · exact ((Wp.exit recok drawok xB2X1).post fun ex a w h => ⟨fun e => absurd (h.1.symm.trans e) (by simp), fun _ => .inl ⟨h.1, σ, h.2⟩⟩) x hc hn a w (At.know eB2X1 hB2X1 hnt rfl (holdsF hr (List.forall_mem_cons.2 ⟨by simp only [SE.eval, tk]; omega, fun _ h => absurd h List.not_mem_nil⟩)) h)
theorem whole2 (hnt : Nat.ble nt 1022 = true) {σ : Nat → Int} (h1 : 1 ≤ σ 1 ∧ σ 1 ≤ 9223372036854775807) (h2 : 1 ≤ σ 2 ∧ σ 2 ≤ 1000) (h3 : 1 ≤ σ 3 ∧ σ 3 ≤ 1000) :
    Wp Tryz.prog tab nt none fb (At Tryz.prog tab B nt none μ0 w0 σ (argsEnv [.int .i64 2, .sint .i64 (.var 2) K0, .sint .i64 (.var 3) K0, .ssl 0 0 (.var 1) K0] 0 (T.full 10)) (heapArr .i64 (.var 1))) (fun ex a w' => (ex = .ret ∨ ex = .normal) ∧ ∃ σ' E1 H1, E1.get 8 = some (.bool true) ∧ At Tryz.prog tab B nt none μ0 w0 σ' E1 H1 a w') := by
  rw [shape]
  obtain ⟨E0, H0, hpre, fe, fh⟩ := fitOut_ok pre2
  refine Wp.seqs recok drawok pre8 [dC] hpre (fun E2 H2 hd => ?_)
  have hd := codeL_one hd
  obtain ⟨u0, u1, u2, u3, u4, u5⟩ := v0 σ
  have hr' : rngsHold (substVal s0 σ) 0 R := (hR _).2 (by rw [u0, u1, u2, u3, u4, u5]; exact ⟨⟨by omega, by omega⟩, ⟨by omega, by omega⟩, ⟨by omega, by omega⟩, ⟨by omega, by omega⟩, ⟨by omega, by omega⟩, ⟨by omega, by omega⟩, trivial⟩)
  refine Wp.seq (M := fun a w => ∃ σ E1 H1, retOk 8 (codeE 1000000 (run Γ 1000000) rest E1 H1) = true ∧ At Tryz.prog tab B nt none μ0 w0 σ E1 H1 a w) (Wp.seq (M := St2 B nt μ0 w0 30) ((Wp.run recok drawok hd).post ?_) (Wp.block ((Wp.loop (step2 hnt) 30).post ?_))) ?_
  · rintro ex a w ⟨rfl, h⟩
    refine ⟨fun _ => ⟨_, ?_, hr', .inl ⟨?_, At.refit rfl fe fh hnt rfl (k0 hr') h⟩⟩, fun e => absurd rfl e⟩
    · rw [u0]; rfl
    · rw [u2, u4]; omega
  · rintro ex a w (⟨rfl, h⟩ | ⟨rfl, h⟩)
    · exact ⟨fun _ => h, fun e => absurd rfl e⟩
    · exact ⟨fun e => absurd e (by simp [outOf]), fun _ => ⟨.inl rfl, h⟩⟩
  · intro x hc hn a w ⟨σ, E1, H1, hr, h⟩
    exact ((Wp.ret recok drawok hr).post fun ex a w h => ⟨.inl h.1, σ, h.2⟩) x hc hn a w h
end
theorem calls (r : Nat) (hr : r = 1 ∨ r = 2) {a1 a2 : Int} (h1 : 1 ≤ a1 ∧ a1 ≤ 1000) (h2 : 1 ≤ a2 ∧ a2 ≤ 1000) {x : Addr} {n cp : Nat} {zs : List Int} {w : World} (hpos : 0 < n) (hn : n ≤ zs.length) (hmax : (n : Int) ≤ 9223372036854775807)
    (hc : ∀ i, i < zs.length → w.cell? (x.add i) = some (.int .i64 (zs.getD i 0))) : Calls Tryz.prog 3 #[.int .i64 r, .int .i64 a1, .int .i64 a2, .slice (some x) n cp] w fun e w' => e = .returned (.bool true) ∧ Go.RowKit.Below w.heap.size w w' := by
  obtain ⟨hs, c, t, fr, hb, hsz, hcc⟩ := row_block (by omega) hc
  have hK : K0.Holds (valsR [0, n, a1, a2, 0, 0] zs) := k0 ((hR _).2 ⟨⟨by show (0 : Int) ≤ 0; omega, by show (0 : Int) ≤ 30; omega⟩, ⟨by show (1 : Int) ≤ n; omega, hmax⟩, h1, h2, ⟨by show (0 : Int) ≤ 0; omega, by show (0 : Int) ≤ 1073741824; omega⟩, ⟨by show (0 : Int) ≤ 0; omega, by show (0 : Int) ≤ 1073741824; omega⟩, trivial⟩)
  have hsim : Sim Tryz.prog tab (muRo (valsR [0, n, a1, a2, 0, 0] zs) x.block x.off) (heapArr .i64 (.var 1)) w := by
    refine simArr _ w hb (fun j hj => ?_)
    have hj : (j : Int) < n := hj
    rw [hcc j (by omega)]
    congr 2
    show zs.getD j 0 = if 100 + 0 + j < 100 then _ else zs.getD (100 + 0 + j - 100) 0
    rw [if_neg (by omega)]
    congr 1; omega
  have hv : ∀ m : Int, VRelL (muRo (valsR [0, n, a1, a2, 0, 0] zs) x.block x.off) [.int .i64 m, .sint .i64 (.var 2) K0, .sint .i64 (.var 3) K0, .ssl 0 0 (.var 1) K0] [.int .i64 m, .int .i64 a1, .int .i64 a2, .slice (some x) n cp] := fun m =>
    rel_int (rel_sint rfl hK (rel_sint rfl hK (rel_ssl hs rfl hK rel_nil)))
  rcases hr with rfl | rfl
  · exact calls_of_wp (fi := fiOf c3) ok3 results rfl hsim (hv 1) (whole1 ntm ⟨by show (1 : Int) ≤ n; omega, hmax⟩ h1 h2) (fun a l h => by obtain ⟨_, rfl⟩ := muRo_some h; rfl)
  · exact calls_of_wp (fi := fiOf c3) ok3 results rfl hsim (hv 2) (whole2 ntm ⟨by show (1 : Int) ≤ n; omega, hmax⟩ h1 h2) (fun a l h => by obtain ⟨_, rfl⟩ := muRo_some h; rfl)
end Go.Proofs.YtikadibppimomaaGreat.Ev.EndKeep
