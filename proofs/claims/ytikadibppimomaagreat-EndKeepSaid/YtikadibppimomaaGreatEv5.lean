/- A verified evaluator of the model's code, part 5: what it is, and that its runs are the model's runs. -/
import Derived.Test.YtikadibppimomaaGreatEv4
/- States that fit; pieces of code over states. -/
namespace Go.Proofs.YtikadibppimomaaGreat.Ev

noncomputable def fitEnt (s : List (Nat × SE)) (K : SK) (N : Nat) : List (List UInt8 × AV) → List (List UInt8 × AV) → Bool
  | [], [] => true
  | (k1, v1) :: l1, (k, v) :: l => beqBytes k1 k && fit1 s K N v1 v && fitEnt s K N l1 l
  | _, _ => false
/-- ob1 as it is fits ob as it is to be. -/
noncomputable def fitObj (s : List (Nat × SE)) (K : SK) (N : Nat) : AObj → AObj → Bool
  | .row c1, .row c => fitL s K N c1 c
  | .ro c1, .ro c => fitL s K N c1 c
  | .arr k1 b1 l1, .arr k b l => kEq k1 k && Nat.beq b1 b && sameS s l l1
  | .map e1, .map e => fitEnt s K N e1 e
  | .sit s1 p1, .sit t p => beqBytes s1 t && Nat.beq p1 p
  | _, _ => false
noncomputable def fitAt (s : List (Nat × SE)) (K : SK) (N : Nat) (ob : AObj) : Option AObj → Bool
  | some ob1 => fitObj s K N ob1 ob
  | none => false
noncomputable def fitHeap (s : List (Nat × SE)) (K : SK) (N : Nat) (H1 : Heap) (l : List (Nat × AObj)) : Bool :=
  l.all fun p => Nat.blt p.1 N && fitAt s K N p.2 (H1.get p.1)
noncomputable def fitVar (s : List (Nat × SE)) (K : SK) (N : Nat) (v : AV) : Option AV → Bool
  | some v1 => fit1 s K N v1 v
  | none => false
noncomputable def fitEnv (s : List (Nat × SE)) (K : SK) (N : Nat) (E1 : Env) (l : List (Nat × AV)) : Bool :=
  l.all fun p => fitVar s K N p.2 (E1.get p.1)

noncomputable def mkEnv (l : List (Nat × AV)) : Env := T.build 10 l
noncomputable def mkHeap (l : List (Nat × AObj)) (N : Nat) : Heap := { mem := T.build 20 l, next := N }

section
variable {P : Program} {tab : String → List (TypeId × FuncId)}
section
variable {s : List (Nat × SE)} (hs : substOk s = true) {K : SK} {N : Nat} {μ μ' : Mu} (hv : μ'.val = substVal s μ.val) (hK : K.Holds μ'.val) (hu : Under N μ μ')
include hs hv hK hu

theorem fitEnt_ok : ∀ {l1 l : List (List UInt8 × AV)} {es : List MapEntry}, fitEnt s K N l1 l = true → entRel μ l1 es → entRel μ' l es
  | [], [], es, _, h => h
  | (k1, v1) :: l1, (k, v) :: l, es, hf, h => by
    simp only [fitEnt, Bool.and_eq_true, beqBytes_eq, decide_eq_true_eq] at hf
    obtain ⟨⟨rfl, h2⟩, h3⟩ := hf
    simp only [entRel] at h ⊢
    obtain ⟨e, es', e1, e2, e3, e4⟩ := h
    exact ⟨e, es', e1, e2, fit1_ok hs hv hK hu h2 e3, fitEnt_ok h3 e4⟩
  | [], _ :: _, _, hf, _ => by cases hf
  | _ :: _, [], _, hf, _ => by cases hf

theorem fitObj_ok {w : World} {l : Loc} {ob1 ob : AObj} (hf : fitObj s K N ob1 ob = true) (h : ObjRel P tab μ w l ob1) : ObjRel P tab μ' w l ob := by
  unfold fitObj at hf
  split at hf <;> try (cases hf; done)
  · obtain ⟨f1, f2⟩ := fitL_ok hf
    cases l <;> simp only [ObjRel] at h ⊢ <;> try (exact h.elim)
    obtain ⟨c, t, fr, h1, h2, h3, h4, h5⟩ := h
    refine ⟨c, t, fr, h1, h2, by omega, h4, fun i v hi => ?_⟩
    obtain ⟨v1, g1, g2⟩ := f2 i v hi
    obtain ⟨p1, v', p2, p3⟩ := h5 i v1 g1
    exact ⟨fit1_scalar g2 p1, v', p2, fit1_ok hs hv hK hu g2 p3⟩
  · obtain ⟨f1, f2⟩ := fitL_ok hf
    cases l <;> simp only [ObjRel] at h ⊢ <;> try (exact h.elim)
    obtain ⟨c, t, fr, h1, h2, h5⟩ := h
    refine ⟨c, t, fr, h1, by omega, fun i v hi => ?_⟩
    obtain ⟨v1, g1, g2⟩ := f2 i v hi
    obtain ⟨p1, v', p2, p3⟩ := h5 i v1 g1
    exact ⟨fit1_scalar g2 p1, v', p2, fit1_ok hs hv hK hu g2 p3⟩
  · rename_i k1 b1 l1 k b l2
    simp only [Bool.and_eq_true, kEq_eq, decide_eq_true_eq, Nat.beq_eq] at hf
    obtain ⟨⟨rfl, rfl⟩, h3⟩ := hf
    cases l <;> simp only [ObjRel] at h ⊢ <;> try (exact h.elim)
    obtain ⟨c, t, fr, h1, h2⟩ := h
    refine ⟨c, t, fr, h1, fun j hj => ?_⟩
    rw [hv, sameS_ok hs h3] at hj
    rw [hv, substVal_high hs _ (by omega)]
    exact h2 j hj
  · cases l <;> simp only [ObjRel] at h ⊢ <;> try (exact h.elim)
    obtain ⟨es', k, h1, h2⟩ := h
    exact ⟨es', k, h1, fitEnt_ok hs hv hK hu hf h2⟩
  · simp only [Bool.and_eq_true, beqBytes_eq, decide_eq_true_eq, Nat.beq_eq] at hf
    obtain ⟨rfl, rfl⟩ := hf
    cases l <;> simp only [ObjRel] at h ⊢ <;> try (exact h.elim)
    exact h
end

/-! ### States -/
/-- What has become of the memory since a start. -/
structure Fr (μ0 : Mu) (w0 : World) (μ : Mu) (w : World) : Prop where
  size : w0.heap.size ≤ w.heap.size
  cfr : ∀ b, b < w0.heap.size → (∀ a l, μ0 a = some l → l.blk ≠ some b) → w.heap[b]? = w0.heap[b]? ∧ ∀ a l, μ a = some l → l.blk ≠ some b
  os : w.os = w0.os
  output : w.output = w0.output
  tape : w.tape = w0.tape

variable (P tab) in
/-- The memory and the frame stand as (E, H) say, under the values σ of the variables. -/
def At (B nt : Nat) (ro : Option Nat) (μ0 : Mu) (w0 : World) (σ : Nat → Int) (E : Env) (H : Heap) (a : Act) (w : World) : Prop :=
  ∃ μ, μ.val = σ ∧ Fr μ0 w0 μ w ∧ Sim P tab μ H w ∧ ActRel B μ nt w ro E a

variable {B nt : Nat} {ro : Option Nat} {μ0 : Mu} {w0 : World}

/-- A state is fitted to another. -/
theorem At.refit {s : List (Nat × SE)} (hs : substOk s = true) {K : SK} {N : Nat} {E1 : Env} {H1 : Heap} {LE : List (Nat × AV)} {LH : List (Nat × AObj)} (hE : fitEnv s K N E1 LE = true) (hH : fitHeap s K N H1 LH = true) (hnt : Nat.ble nt 1022 = true) (hN : Nat.ble N 1048575 = true)
    {σ : Nat → Int} (hK : K.Holds (substVal s σ)) {a : Act} {w : World} (h : At P tab B nt ro μ0 w0 σ E1 H1 a w) : At P tab B nt ro μ0 w0 (substVal s σ) (mkEnv LE) (mkHeap LH N) a w := by
  obtain ⟨μ, rfl, hf, hsim, ha⟩ := h
  let μ' : Mu := ⟨fun a => if (lookL LH a).isSome then μ a else match μ a with | some _ => if a < N then some .dead else none | none => none, substVal s μ.val⟩
  have hlisted : ∀ a ob, lookL LH a = some ob → a < N ∧ ∃ ob1, H1.get a = some ob1 ∧ fitObj s K N ob1 ob = true := by
    intro a ob hl
    have := List.all_eq_true.1 hH _ (lookL_mem hl)
    simp only [Bool.and_eq_true] at this
    obtain ⟨h1, h2⟩ := this
    refine ⟨Nat.le_of_ble_eq_true h1, ?_⟩
    unfold fitAt at h2
    split at h2 <;> try (cases h2; done)
    rename_i ob1 hg
    exact ⟨ob1, hg, h2⟩
  have hat : ∀ a, μ' a = if (lookL LH a).isSome then μ a else match μ a with | some _ => if a < N then some .dead else none | none => none := fun _ => rfl
  have hlive : ∀ a l, μ' a = some l → l ≠ .dead → ∃ ob, lookL LH a = some ob ∧ μ a = some l := by
    intro a l ha hne
    rw [hat] at ha
    cases hl : lookL LH a with
    | some ob => rw [hl] at ha; simp at ha; exact ⟨ob, rfl, ha⟩
    | none =>
      rw [hl] at ha
      simp only [Option.isSome_none, Bool.false_eq_true, if_false] at ha
      split at ha
      · split at ha
        · simp only [Option.some.injEq] at ha; exact absurd ha.symm hne
        · cases ha
      · cases ha
  have hu : Under N μ μ' := by
    intro a l han hal
    rw [hat]
    cases hl : lookL LH a with
    | some ob => left; simp [hal]
    | none => right; simp [hal, han]
  have hget : ∀ a, (mkHeap LH N).get a = if a + 1 < 2 ^ 20 then lookL LH a else none := fun a => T.build_get 20 LH a
  have hNle := Nat.le_of_ble_eq_true hN
  have hgetN : ∀ a ob, lookL LH a = some ob → (mkHeap LH N).get a = some ob := by
    intro a ob hl
    have := (hlisted a ob hl).1
    rw [hget, if_pos (by omega)]; exact hl
  have hfit : ∀ {w : World} {l : Loc} {ob1 ob : AObj}, fitObj s K N ob1 ob = true → ObjRel P tab μ w l ob1 → ObjRel P tab μ' w l ob := fun h1 h2 => fitObj_ok hs (μ' := μ') rfl hK hu h1 h2
  refine ⟨μ', rfl, ⟨hf.size, fun b hb hn => ?_, hf.os, hf.output, hf.tape⟩, ?_, ?_⟩
  · obtain ⟨h1, h2⟩ := hf.cfr b hb hn
    refine ⟨h1, fun a l ha => ?_⟩
    cases l with
    | dead => simp [Loc.blk]
    | row b' o e => obtain ⟨_, _, h3⟩ := hlive a _ ha (by simp); exact h2 a _ h3
    | obj b' => obtain ⟨_, _, h3⟩ := hlive a _ ha (by simp); exact h2 a _ h3
    | ro b' o => simp [Loc.blk]
  · exact {
      live := fun a l ha hl => by
        obtain ⟨ob, h1, h2⟩ := hlive a l ha (fun e => by subst e; simp [Loc.blk] at hl)
        obtain ⟨_, ob1, h3, h4⟩ := hlisted a ob h1
        obtain ⟨ob1', h5, h6⟩ := hsim.live a l h2 hl
        rw [h3] at h5; cases h5
        exact ⟨ob, hgetN a ob h1, hfit h4 h6⟩
      inj := fun a a' l l' b ha ha' hb hb' => by
        obtain ⟨_, _, h2⟩ := hlive a l ha (fun e => by subst e; simp [Loc.blk] at hb)
        obtain ⟨_, _, h2'⟩ := hlive a' l' ha' (fun e => by subst e; simp [Loc.blk] at hb')
        exact hsim.inj a a' l l' b h2 h2' hb hb'
      ro := fun a b o ha => by
        obtain ⟨ob, h1, h2⟩ := hlive a _ ha (by simp)
        obtain ⟨_, ob1, h3, h4⟩ := hlisted a ob h1
        obtain ⟨ob1', h5, h6⟩ := hsim.ro a b o h2
        rw [h3] at h5; cases h5
        exact ⟨ob, hgetN a ob h1, hfit h4 h6⟩
      apart := fun a b o a' l' ha ha' hb => by
        obtain ⟨_, _, h2⟩ := hlive a _ ha (by simp)
        obtain ⟨_, _, h2'⟩ := hlive a' l' ha' (fun e => by subst e; simp [Loc.blk] at hb)
        exact hsim.apart a b o a' l' h2 h2' hb
      dead := fun a ha => by
        cases hl : lookL LH a with
        | none => rw [hget]; split; exact hl; rfl
        | some ob =>
          rw [hat, hl] at ha
          simp only [Option.isSome_some, if_true] at ha
          obtain ⟨_, ob1, h3, _⟩ := hlisted a ob hl
          rw [hsim.dead a ha] at h3; cases h3
      dom := fun a l ha => by
        cases hl : lookL LH a with
        | some ob => exact (hlisted a ob hl).1
        | none =>
          rw [hat, hl] at ha
          simp only [Option.isSome_none, Bool.false_eq_true, if_false] at ha
          split at ha
          · split at ha
            · rename_i hlt; exact hlt
            · cases ha
          · cases ha
      full := fun a ha => T.build_has 20 LH a (by simp only [lim] at ha; omega)
      fresh := fun a ha => by
        have ha : N ≤ a := ha
        rw [hget]
        split
        · cases hl : lookL LH a with
          | none => rfl
          | some ob => have := (hlisted a ob hl).1; omega
        · rfl }
  · refine ⟨ha.size, ?_, fun t ht => T.build_has 10 LE t (by have := Nat.le_of_ble_eq_true hnt; omega), ?_⟩
    · intro t v ht
      have ht : T.get (T.build 10 LE) t = some v := ht
      rw [T.build_get] at ht
      split at ht <;> try (cases ht; done)
      have := List.all_eq_true.1 hE _ (lookL_mem ht)
      unfold fitVar at this
      split at this <;> try (cases this; done)
      rename_i v1 hv1
      obtain ⟨v', h1, h2⟩ := ha.rel t v1 hv1
      exact ⟨v', h1, fit1_ok hs (μ' := μ') rfl hK hu this h2⟩
    · obtain ⟨q0, rs, q1, q2, q3, q4⟩ := ha.defs
      refine ⟨q0, rs, q1, q2, q3, fun r hr => ?_⟩
      obtain ⟨k1, k2, k3⟩ := q4 r hr
      refine ⟨k1, k2, fun x l hx => ?_⟩
      cases l with
      | dead => simp [Loc.blk]
      | row b' o e => obtain ⟨_, _, h3⟩ := hlive x _ hx (by simp); exact k3 x _ h3
      | obj b' => obtain ⟨_, _, h3⟩ := hlive x _ hx (by simp); exact k3 x _ h3
      | ro b' o => simp [Loc.blk]

/-! ### Pieces of code over states -/
variable (P tab) in
/-- From the states S the code ends in Q. -/
def Wp (nt : Nat) (ro : Option Nat) (ic : ICode) (S : Act → World → Prop) (Q : Exit' → Act → World → Prop) : Prop :=
  ∀ c, compCode P tab nt c = ic → (ro ≠ none → noRange c = true) → ∀ a w, S a w → c.wpIn (fence ro) 0 P (fun e a' w' => ∃ ex, e = exOf ex ∧ Q ex a' w') a w

variable {S M : Act → World → Prop} {Q Q' : Exit' → Act → World → Prop}

theorem Wp.pre {ic : ICode} {S' : Act → World → Prop} (h : Wp P tab nt ro ic S Q) (hs : ∀ a w, S' a w → S a w) : Wp P tab nt ro ic S' Q := fun c hc hn a w h' => h c hc hn a w (hs a w h')
theorem Wp.post {ic : ICode} (h : Wp P tab nt ro ic S Q) (hq : ∀ ex a w, Q ex a w → Q' ex a w) : Wp P tab nt ro ic S Q' :=
  fun c hc hn a w h' => wpIn_mono (h c hc hn a w h') fun _ a w ⟨ex, e, q⟩ => ⟨ex, e, hq ex a w q⟩

theorem Fr.goes {μ μ' : Mu} {H H1 : Heap} {w w1 : World} (hf : Fr μ0 w0 μ w) (g : Goes P tab μ H w μ' H1 w1) : Fr μ0 w0 μ' w1 where
  size := Nat.le_trans hf.size g.size
  cfr := fun b hb hn => by
    obtain ⟨h1, h2⟩ := hf.cfr b hb hn
    obtain ⟨h3, h4⟩ := g.cfr b (Nat.lt_of_lt_of_le hb hf.size) h2
    exact ⟨h3.trans h1, h4⟩
  os := g.os.trans hf.os
  output := g.output.trans hf.output
  tape := g.tape.trans hf.tape

/-- What the evaluator runs. -/
theorem Wp.run {rec : Rec} (hr : RecOk P tab rec) (hd : DrawOk P tab rec) {n : Nat} {ic : ICode} {E : Env} {H : Heap} {ex : Exit'} {E1 : Env} {H1 : Heap} (he : codeE n rec ic E H = some (.mk ex E1 H1)) {σ : Nat → Int} :
    Wp P tab nt ro ic (At P tab B nt ro μ0 w0 σ E H) (fun ex' a w => ex' = ex ∧ At P tab B nt ro μ0 w0 σ E1 H1 a w) := by
  intro c hc hn a w ⟨μ, hσ, hf, hsim, ha⟩
  subst hc
  refine wpIn_mono (code_sound hr hd nt n c ro hn μ H w E a ex E1 H1 he hsim ha) ?_
  rintro e a' w' ⟨rfl, μ', g, ha'⟩
  exact ⟨ex, rfl, rfl, μ', g.ext.val.trans hσ, hf.goes g, g.sim, ha'⟩

theorem exOf_inj {x y : Exit'} (h : exOf x = exOf y) : x = y := by
  cases x <;> cases y <;> simp [exOf] at h ⊢
  exact h

theorem Wp.seq {x y : ICode} (hx : Wp P tab nt ro x S (fun ex a w => (ex = .normal → M a w) ∧ (ex ≠ .normal → Q ex a w))) (hy : Wp P tab nt ro y M Q) : Wp P tab nt ro (.seq x y) S Q := by
  intro c hc hn a w hs
  obtain ⟨cx, cy, rfl, hcx, hcy⟩ := compCode_seq hc
  refine wpIn_seq (wpIn_mono (hx cx hcx (fun h => ?_) a w hs) ?_)
  · have := hn h; simp only [noRange, Bool.and_eq_true] at this; exact this.1
  · rintro e a1 w1 ⟨ex, rfl, h1, h2⟩
    cases ex with
    | normal => exact hy cy hcy (fun h => by have := hn h; simp only [noRange, Bool.and_eq_true] at this; exact this.2) a1 w1 (h1 rfl)
    | exit id => exact ⟨_, rfl, h2 (by simp)⟩
    | ret => exact ⟨_, rfl, h2 (by simp)⟩

/-- Out of a block. -/
def outOf (id : Nat) : Exit' → Exit'
  | .exit j => if j = id then .normal else .exit j
  | e => e
theorem Wp.block {id : Nat} {x : ICode} (hx : Wp P tab nt ro x S (fun ex a w => Q (outOf id ex) a w)) : Wp P tab nt ro (.block id x) S Q := by
  intro c hc hn a w hs
  obtain ⟨cx, rfl, hcx⟩ := compCode_block hc
  refine wpIn_block (wpIn_mono (hx cx hcx hn a w hs) ?_)
  rintro e a1 w1 ⟨ex, rfl, h1⟩
  cases ex with
  | normal => exact ⟨_, rfl, h1⟩
  | exit j =>
    simp only [exOf, Exit.inBlock]
    simp only [outOf] at h1
    split
    · rename_i hj; rw [if_pos hj] at h1; exact ⟨_, rfl, h1⟩
    · rename_i hj; rw [if_neg hj] at h1; exact ⟨_, rfl, h1⟩
  | ret => exact ⟨_, rfl, h1⟩

/-- A loop, by a measure of its states. -/
theorem Wp.loop {x : ICode} {S : Nat → Act → World → Prop} (step : ∀ m, Wp P tab nt ro x (S m) (fun ex a w => (ex = .normal → ∃ m', m' < m ∧ S m' a w) ∧ (ex ≠ .normal → Q ex a w))) (m : Nat) : Wp P tab nt ro (.loop x) (S m) Q := by
  intro c hc hn a w hs b k cs hro hb hr
  obtain ⟨cx, rfl, hcx⟩ := compCode_loop hc
  have key : ∀ (m : Nat) (a : Act) (w : World), S m a w → ∃ e a' w', (∃ ex, e = exOf ex ∧ Q ex a' w') ∧ ArrivesIn (Machine.fenced P (fence ro)) P (lone (b.atR a (.code cx :: .inLoop cx :: k)) cs w) b k cs e a' w' := by
    intro m
    induction m using Nat.strongRecOn with
    | _ m ih =>
      intro a w hs
      obtain ⟨e, a1, w1, ⟨ex, rfl, h1, h2⟩, harr⟩ := step m cx hcx hn a w hs b (.inLoop cx :: k) cs hro hb hr
      cases ex with
      | normal =>
        obtain ⟨m', hm, hs'⟩ := h1 rfl
        obtain ⟨e2, a2, w2, hp2, harr2⟩ := ih m' hm a1 w1 hs'
        exact ⟨e2, a2, w2, hp2, .of_steps (StepsIn.trans harr (.one (fenced_calm hb hr rfl) stepR_inLoop)) harr2⟩
      | exit id => exact ⟨_, a1, w1, ⟨_, rfl, h2 (by simp)⟩, .pass (x := .inLoop cx) rfl (fun _ _ => .inl (by simp [exOf])) harr⟩
      | ret => exact ⟨_, a1, w1, ⟨_, rfl, h2 (by simp)⟩, .pass (x := .inLoop cx) rfl (fun _ _ => .inl (by simp [exOf])) harr⟩
  obtain ⟨e, a', w', hq, harr⟩ := key m a w hs
  exact ⟨e, a', w', hq, .of_steps (.one (fenced_calm hb hr rfl) stepR_loop) harr⟩

/-- A function that hands back one bool: by its body. -/
theorem calls_of_wp {f : FuncId} {fi : IFunc} (hc : compFunc P tab f = some (.fn fi)) {t : Nat} (hres : fi.results = [.tmp t]) {args : List AV} {args' : Array Value} {H : Heap} {σ : Nat → Int} {μ : Mu} (hσ : μ.val = σ) {w : World} (hs : Sim P tab μ H w) (hv : VRelL μ args args'.toList)
    (hb : Wp P tab fi.ntmps none fi.body (At P tab w.heap.size fi.ntmps none μ w σ (argsEnv args 0 (T.full 10)) H) (fun ex a w' => (ex = .ret ∨ ex = .normal) ∧ ∃ σ' E1 H1, E1.get t = some (.bool true) ∧ At P tab w.heap.size fi.ntmps none μ w σ' E1 H1 a w'))
    (hro : ∀ a l, μ a = some l → l.blk = none) : Calls P f args' w fun e w' => e = .returned (.bool true) ∧ Go.RowKit.Below w.heap.size w w' := by
  unfold compFunc at hc
  split at hc <;> try (cases hc; done)
  rename_i fn hfn
  split at hc
  · rename_i c hbody
    split at hc <;> try (cases hc; done)
    rename_i hcond
    rw [Option.map_eq_some_iff] at hc
    obtain ⟨rs, hrs, hfi⟩ := hc
    simp only [Code'.fn.injEq] at hfi; subst hfi
    simp only [Bool.or_eq_true, beq_iff_eq, not_or] at hcond
    obtain ⟨hname, hnt⟩ := hcond
    have hnt : fn.ntmps ≤ 1022 := by
      have : ¬ 1022 < fn.ntmps := by simpa using hnt
      omega
    have hrel : ActRel w.heap.size μ fn.ntmps w none (argsEnv args 0 (T.full 10)) { tmps := args' ++ Array.replicate (fn.ntmps - args'.size) undef, defers := [] } := by
      refine ⟨by simp; omega, argsEnv_rel args args'.toList 0 _ hv (fun t v ht => by simp only [T.get_full] at ht; cases ht) ?_, argsEnv_full _ _ _ _ (fun t ht => T.has_full 10 t (by omega)), ⟨Nat.le_refl _, [], rfl, List.nodup_nil, fun _ => rfl, fun r hr => by cases hr⟩⟩
      intro j v' hj
      have hj : args'[j]? = some v' := by simpa using hj
      rw [Nat.zero_add, Array.getElem?_append_left (Array.getElem?_eq_some_iff.1 hj).1]
      exact hj
    have hfr0 : Fr μ w μ w := ⟨Nat.le_refl _, fun _ _ h => ⟨rfl, h⟩, rfl, rfl, rfl⟩
    refine (callsIn_wide (n := 0)).1 ?_
    refine callsIn_of_wp_marks (F := Fence.wide) hfn hbody trivial ?_
    refine wpIn_mono (hb c rfl (fun h => absurd rfl h) _ w ⟨μ, hσ, hfr0, hs, hrel⟩) ?_
    rintro e a w2 ⟨ex, rfl, hex, σ', E1, H1, hg, μ2, rfl, hfr, hsim, ha⟩
    have hleave : LeavesInM (fence none) 0 P fn a.tmps (fun e w' => e = .returned (.bool true) ∧ Go.RowKit.Below w.heap.size w w') a.defers .returning w2 := by
      obtain ⟨_, rs2, q1, q2, q3, q4⟩ := ha.defs
      rw [q1]
      have g0 : GoesW P tab μ2 w2 μ2 H1 w2 := GoesW.refl hsim
      have hleave : ∀ (rs2 : List Nat) (w3 : World), rs2.Nodup → (∀ r ∈ rs2, w.heap.size ≤ r ∧ w3.heap[r]? = some (.deferred (some [])) ∧ ∀ x l, μ2 x = some l → l.blk ≠ some r) → Fr μ w μ2 w3 → Sim P tab μ2 H1 w3 →
          LeavesInM (fence none) 0 P fn a.tmps (fun e w' => e = .returned (.bool true) ∧ Go.RowKit.Below w.heap.size w w') (rs2.map markOf) .returning w3 := by
        intro rs2
        induction rs2 with
        | nil =>
          intro w3 _ _ hfr3 hsim3
          simp only [List.map_nil, LeavesInM, LeavesIn]
          have hres' : rs = [.tmp t] := hres
          have hfin : finFn rs E1 H1 = some (.bool true, H1) := by
            rw [hres']
            simp only [finFn, resultsOf, resultOf, hg, packRes]
          obtain ⟨_, v', k1, k2⟩ := fin_rel hsim3 ha.rel hrs hfin
          rw [VRel_bool] at k2; subst k2
          refine ⟨_, k1, rfl, hfr3.os, hfr3.tape, hfr3.output, hfr3.size, fun k hk => (hfr3.cfr k hk (fun a l hal => ?_)).1⟩
          rw [hro a l hal]; simp
        | cons r rs2 ih =>
          intro w3 hn hr hfr3 hs3
          obtain ⟨hb3, h1, h2⟩ := hr r (by simp)
          obtain ⟨hn1, hn2⟩ := List.nodup_cons.1 hn
          simp only [List.map_cons, LeavesInM]
          refine ⟨by simp, .inl ⟨r, { w3 with heap := w3.heap.setIfInBounds r (.deferred none) }, rfl, ?_, ?_⟩⟩
          · unfold Instr.takeDeferred
            simp only [Sem.run_bind, run_getObj h1 (by simp), Result.andThen_ok, run_setObj h1 (by simp), Sem.run_pure]
          · have hother : ∀ b, b ≠ r → ({ w3 with heap := w3.heap.setIfInBounds r (.deferred none) } : World).heap[b]? = w3.heap[b]? := by
              intro b hb
              exact (turned_set (w := w3) (b := r)).other b hb
            refine ih _ hn2 (fun r' hr' => ?_) ?_ ?_
            · obtain ⟨h30, h3, h4⟩ := hr r' (by simp [hr'])
              exact ⟨h30, by rw [hother r' (fun e => hn1 (by rw [← e]; exact hr'))]; exact h3, h4⟩
            · exact ⟨by simp; exact hfr3.size, fun b hb' hne => by
                obtain ⟨h3, h4⟩ := hfr3.cfr b hb' hne
                exact ⟨(hother b (by omega)).trans h3, h4⟩, hfr3.os, hfr3.output, hfr3.tape⟩
            · exact { live := fun a l ha hl => by
                        obtain ⟨ob, k1, k2⟩ := hs3.live a l ha hl
                        exact ⟨ob, k1, k2.mono (.refl _) (fun b hb => hother b (fun e => h2 a l ha (by rw [← e]; exact seen_blk hl hb)))⟩
                      inj := hs3.inj
                      ro := fun a b o ha => by
                        obtain ⟨ob, k1, k2⟩ := hs3.ro a b o ha
                        refine ⟨ob, k1, k2.mono (.refl _) (fun b2 hb2 => hother b2 (fun e => ?_))⟩
                        simp only [Loc.seen, Option.some.injEq] at hb2; subst hb2; subst e
                        cases ob <;> simp only [ObjRel] at k2 <;> (obtain ⟨c, t, fr, k3, _⟩ := k2; rw [h1] at k3; cases k3)
                      apart := hs3.apart, dead := hs3.dead, dom := hs3.dom, full := hs3.full, fresh := hs3.fresh }
      exact hleave rs2 w2 q2 q4 hfr hsim
    rcases hex with rfl | rfl
    · exact hleave
    · exact hleave
  · split at hc
    · cases hc
    · cases hc

/-! ### Steps that the kernel looks at -/
noncomputable def fitOut (s : List (Nat × SE)) (K : SK) (N : Nat) (LE : List (Nat × AV)) (LH : List (Nat × AObj)) : Option Out → Bool
  | some (.mk .normal E H) => bcase (fitEnv s K N E LE) (fitHeap s K N H LH) false
  | _ => false
def isTV : Option AV → Bool
  | some (.bool b) => b
  | _ => false
noncomputable def retOk (t : Nat) : Option Out → Bool
  | some (.mk .ret E _) => isTV (E.get t)
  | _ => false
noncomputable def exitOk (n : Nat) (rec : Rec) (id t : Nat) (rest : ICode) : Option Out → Bool
  | some (.mk (.exit j) E H) => bcase (Nat.beq j id) (retOk t (codeE n rec rest E H)) false
  | _ => false

theorem isTV_ok {o : Option AV} (h : isTV o = true) : o = some (.bool true) := by
  unfold isTV at h
  split at h
  · rw [h]
  · cases h
theorem retOk_ok {t : Nat} {o : Option Out} (h : retOk t o = true) : ∃ E H, o = some (.mk .ret E H) ∧ E.get t = some (.bool true) := by
  unfold retOk at h
  split at h
  · exact ⟨_, _, rfl, isTV_ok h⟩
  · cases h
theorem exitOk_ok {n : Nat} {rec : Rec} {id t : Nat} {rest : ICode} {o : Option Out} (h : exitOk n rec id t rest o = true) : ∃ E H E2 H2, o = some (.mk (.exit id) E H) ∧ codeE n rec rest E H = some (.mk .ret E2 H2) ∧ E2.get t = some (.bool true) := by
  unfold exitOk at h
  split at h <;> try (cases h; done)
  rename_i j E H
  rw [bcase_ite] at h
  split at h <;> try (cases h; done)
  rename_i hj
  have := Nat.eq_of_beq_eq_true hj; subst this
  obtain ⟨E2, H2, h1, h2⟩ := retOk_ok h
  exact ⟨E, H, E2, H2, rfl, h1, h2⟩
theorem fitOut_ok {s : List (Nat × SE)} {K : SK} {N : Nat} {LE : List (Nat × AV)} {LH : List (Nat × AObj)} {o : Option Out} (h : fitOut s K N LE LH o = true) : ∃ E H, o = some (.mk .normal E H) ∧ fitEnv s K N E LE = true ∧ fitHeap s K N H LH = true := by
  unfold fitOut at h
  split at h <;> try (cases h; done)
  rw [bcase_ite] at h
  split at h <;> try (cases h; done)
  rename_i h1
  exact ⟨_, _, rfl, h1, h⟩

theorem substVal_nil (σ : Nat → Int) : substVal [] σ = σ := rfl

/-- A state under more knowledge. -/
theorem At.know {K K' : SK} {N : Nat} {LE : SK → List (Nat × AV)} {LH : SK → List (Nat × AObj)} (hE : fitEnv [] K' N (mkEnv (LE K)) (LE K') = true) (hH : fitHeap [] K' N (mkHeap (LH K) N) (LH K') = true) (hnt : Nat.ble nt 1022 = true) (hN : Nat.ble N 1048575 = true)
    {σ : Nat → Int} (hK : K'.Holds σ) {a : Act} {w : World} (h : At P tab B nt ro μ0 w0 σ (mkEnv (LE K)) (mkHeap (LH K) N) a w) : At P tab B nt ro μ0 w0 σ (mkEnv (LE K')) (mkHeap (LH K') N) a w :=
  At.refit (s := []) rfl hE hH hnt hN hK h

/-- A piece that ends plainly, in a state that fits. -/
theorem Wp.fit {rec : Rec} (hr : RecOk P tab rec) (hd : DrawOk P tab rec) {n : Nat} {ic : ICode} {s : List (Nat × SE)} (hs : substOk s = true) {K1 : SK} {N : Nat} {E : Env} {H : Heap} {LE1 : List (Nat × AV)} {LH1 : List (Nat × AObj)} (h3 : fitOut s K1 N LE1 LH1 (codeE n rec ic E H) = true)
    (hnt : Nat.ble nt 1022 = true) (hN : Nat.ble N 1048575 = true) {σ : Nat → Int} (hk : K1.Holds (substVal s σ)) :
    Wp P tab nt ro ic (At P tab B nt ro μ0 w0 σ E H) (fun ex a w => ex = .normal ∧ At P tab B nt ro μ0 w0 (substVal s σ) (mkEnv LE1) (mkHeap LH1 N) a w) := by
  obtain ⟨E1, H1, h1, h2, h4⟩ := fitOut_ok h3
  refine (Wp.run hr hd h1).post ?_
  rintro ex a w ⟨rfl, h⟩
  exact ⟨rfl, At.refit hs h2 h4 hnt hN hk h⟩
/-- A piece that ends by an exit, behind which the rest hands back true. -/
theorem Wp.exit {rec : Rec} (hr : RecOk P tab rec) (hd : DrawOk P tab rec) {n id t : Nat} {ic rest : ICode} {E : Env} {H : Heap} (h3 : exitOk n rec id t rest (codeE n rec ic E H) = true) {σ : Nat → Int} :
    Wp P tab nt ro ic (At P tab B nt ro μ0 w0 σ E H) (fun ex a w => ex = .exit id ∧ ∃ E1 H1, retOk t (codeE n rec rest E1 H1) = true ∧ At P tab B nt ro μ0 w0 σ E1 H1 a w) := by
  obtain ⟨E1, H1, E2, H2, h1, h2, h4⟩ := exitOk_ok h3
  refine (Wp.run hr hd h1).post ?_
  rintro ex a w ⟨rfl, h⟩
  exact ⟨rfl, E1, H1, by rw [h2]; show isTV (E2.get t) = true; rw [h4]; rfl, h⟩
/-- A piece that hands back true. -/
theorem Wp.ret {rec : Rec} (hr : RecOk P tab rec) (hd : DrawOk P tab rec) {n t : Nat} {ic : ICode} {E : Env} {H : Heap} (h3 : retOk t (codeE n rec ic E H) = true) {σ : Nat → Int} :
    Wp P tab nt ro ic (At P tab B nt ro μ0 w0 σ E H) (fun ex a w => ex = .ret ∧ ∃ E1 H1, E1.get t = some (.bool true) ∧ At P tab B nt ro μ0 w0 σ E1 H1 a w) := by
  obtain ⟨E1, H1, h1, h2⟩ := retOk_ok h3
  refine (Wp.run hr hd h1).post ?_
  rintro ex a w ⟨rfl, h⟩
  exact ⟨rfl, E1, H1, h2, h⟩

/-- Pieces one behind the other. -/
noncomputable def codeL (n : Nat) (rec : Rec) (l : List ICode) : Env → Heap → Option Out :=
  List.rec (motive := fun _ => Env → Heap → Option Out) (fun env h => some (.mk .normal env h)) (fun c _ ih env h => seqOn ih (codeE n rec c env h)) l
def seqsT (q : ICode) : List ICode → ICode
  | [] => q
  | c :: l => .seq c (seqsT q l)
theorem Wp.seqs {rec : Rec} (hr : RecOk P tab rec) (hd : DrawOk P tab rec) {n : Nat} {q : ICode} {σ : Nat → Int} : ∀ (l l2 : List ICode) {E E1 : Env} {H H1 : Heap}, codeL n rec (l ++ l2) E H = some (.mk .normal E1 H1) →
    (∀ E2 H2, codeL n rec l2 E2 H2 = some (.mk .normal E1 H1) → Wp P tab nt ro q (At P tab B nt ro μ0 w0 σ E2 H2) Q) → Wp P tab nt ro (seqsT q l) (At P tab B nt ro μ0 w0 σ E H) Q
  | [], l2, E, E1, H, H1, he, hq => hq E H he
  | c :: l, l2, E, E1, H, H1, he, hq => by
    have he : seqOn (codeL n rec (l ++ l2)) (codeE n rec c E H) = some (.mk .normal E1 H1) := he
    cases ho : codeE n rec c E H with
    | none => rw [ho] at he; cases he
    | some o =>
      obtain ⟨ex, E2, H2⟩ := o
      rw [ho] at he
      cases ex with
      | normal =>
        refine Wp.seq (M := At P tab B nt ro μ0 w0 σ E2 H2) ((Wp.run hr hd ho).post ?_) (Wp.seqs hr hd l l2 he hq)
        rintro ex a w ⟨rfl, h⟩
        exact ⟨fun _ => h, fun hne => absurd rfl hne⟩
      | exit id => cases he
      | ret => cases he

/-! ### A row of numbers that came in -/
noncomputable def heapArr (k : IntKind) (ln : SE) : Heap := { mem := T.set (T.full 20) 0 (some (.arr k 0 ln)), next := 1 }
theorem simArr {k : IntKind} {ln : SE} (σ : Nat → Int) (w : World) {b o : Nat} {c : Array Value} {t : TypeId} {fr : Nat × Nat} (hb : w.heap[b]? = some (.cells c t fr))
    (hc : ∀ j : Nat, Int.ofNat j < ln.eval σ → c[o + j]? = some (.int k (σ (100 + 0 + j)))) : Sim P tab (muRo σ b o) (heapArr k ln) w := by
  have hfull : ∀ a, a < lim → T.has (T.full (α := AObj) 20) a := fun a ha => T.has_full 20 a (by simp only [lim] at ha; omega)
  have hget : ∀ a, (heapArr k ln).get a = if a = 0 then some (.arr k 0 ln) else none := by
    intro a
    simp only [heapArr, Heap.get, T.get_set (hfull 0 (by decide))]
    split
    · rfl
    · exact T.get_full 20 a
  exact {
    live := fun a l ha hbl => by obtain ⟨_, rfl⟩ := muRo_some ha; simp [Loc.blk] at hbl
    inj := fun a a' l l' b' ha ha' hbl hbl' => by obtain ⟨_, rfl⟩ := muRo_some ha; simp [Loc.blk] at hbl
    ro := fun a b' o' ha => by
      obtain ⟨rfl, e⟩ := muRo_some ha
      cases e
      refine ⟨.arr k 0 ln, by rw [hget, if_pos rfl], ?_⟩
      simp only [ObjRel]
      exact ⟨c, t, fr, hb, hc⟩
    apart := fun a b' o' a' l' ha ha' => by obtain ⟨_, rfl⟩ := muRo_some ha'; simp [Loc.blk]
    dead := fun a ha => by obtain ⟨_, e⟩ := muRo_some ha; cases e
    dom := fun a l ha => by obtain ⟨rfl, _⟩ := muRo_some ha; exact Nat.one_pos
    full := fun a ha => by
      show T.has (T.set (T.full 20) 0 (some (.arr k 0 ln))) a
      exact (T.has_set _ _ _).2 (hfull a ha)
    fresh := fun a ha => by
      have ha : 1 ≤ a := ha
      rw [hget, if_neg (by omega)] }
theorem rel_ssl {σ : Nat → Int} {x : Addr} (hs : x.spot = none) {n c : Nat} {e : SE} {K : SK} (he : Int.ofNat n = e.eval σ) (hK : K.Holds σ) {vs : List AV} {vs' : List Value} (h : VRelL (muRo σ x.block x.off) vs vs') : VRelL (muRo σ x.block x.off) (.ssl 0 0 e K :: vs) (.slice (some x) n c :: vs') :=
  VRelL_cons'.2 ⟨by
    simp only [VRel]
    refine ⟨x, n, c, .ro x.block x.off, rfl, rfl, ?_, he, hK⟩
    obtain ⟨b, o, sp⟩ := x
    simp only at hs; subst hs
    rfl, h⟩
/-- The values of the variables, those of a row from 100 on. -/
def valsR (l zs : List Int) (j : Nat) : Int := if j < 100 then l.getD j 0 else zs.getD (j - 100) 0
theorem holdsF {σ : Nat → Int} {l : List (Int × Int)} {fs : List SE} (h : rngsHold σ 0 l) (hf : ∀ f ∈ fs, 0 ≤ f.eval σ) : SK.Holds σ ⟨l, fs⟩ :=
  ⟨fun i lo hi hr => by have := rngsHold_at h i lo hi hr; rwa [Nat.zero_add] at this, hf⟩
end
end Go.Proofs.YtikadibppimomaaGreat.Ev
