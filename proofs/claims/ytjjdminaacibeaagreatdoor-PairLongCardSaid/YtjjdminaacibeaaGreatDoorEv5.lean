/- A verified evaluator of the model's code, part 5: what it is, and that its runs are the model's runs. -/
import Derived.Test.YtjjdminaacibeaaGreatDoorEv4
/- Loops over symbolic states: a state is fitted to another under new values of the variables; a loop by a measure. -/
namespace Go.Proofs.YtjjdminaacibeaaGreatDoor.Ev

/-! ### Trees out of lists -/
noncomputable def lookL {α : Type} (l : List (Nat × α)) (k : Nat) : Option α :=
  List.rec (motive := fun _ => Option α) none (fun x _ r => bcase (Nat.beq x.1 k) (some x.2) r) l

theorem lookL_cons {α : Type} (x : Nat × α) (l : List (Nat × α)) (k : Nat) : lookL (x :: l) k = if x.1 = k then some x.2 else lookL l k := by
  show bcase (Nat.beq x.1 k) (some x.2) (lookL l k) = _
  rw [bcase_ite]; simp only [Nat.beq_eq]
theorem lookL_nil {α : Type} (k : Nat) : lookL ([] : List (Nat × α)) k = none := rfl
theorem lookL_mem {α : Type} : ∀ {l : List (Nat × α)} {k : Nat} {x : α}, lookL l k = some x → (k, x) ∈ l
  | [], _, _, h => by cases h
  | y :: l, k, x, h => by
    rw [lookL_cons] at h
    split at h
    · rename_i e
      simp only [Option.some.injEq] at h; subst h; subst e
      exact List.mem_cons_self ..
    · exact List.mem_cons_of_mem _ (lookL_mem h)

namespace T
variable {α : Type}
theorem subH_eq : ∀ l : List (Nat × α), T.build.subH l = lookL l 0
  | [] => rfl
  | x :: l => by
    show bcase (Nat.beq x.1 0) (some x.2) (T.build.subH l) = _
    rw [bcase_ite, lookL_cons, subH_eq l]; simp only [Nat.beq_eq]
theorem subO_eq : ∀ (l : List (Nat × α)) (j : Nat), lookL (T.build.subO l) j = lookL l (2 * j + 1)
  | [], _ => rfl
  | x :: l, j => by
    have ih := subO_eq l j
    show lookL (bcase (Nat.beq (Nat.mod x.1 2) 1) ((Nat.div x.1 2, x.2) :: T.build.subO l) (T.build.subO l)) j = _
    rw [bcase_ite, lookL_cons]
    simp only [Nat.beq_eq]
    have e1 : Nat.mod x.1 2 = x.1 % 2 := rfl
    have e2 : Nat.div x.1 2 = x.1 / 2 := rfl
    rw [e1, e2]
    by_cases h : x.1 % 2 = 1
    · rw [if_pos h, lookL_cons]
      simp only
      by_cases h2 : x.1 / 2 = j
      · rw [if_pos h2, if_pos (by omega)]
      · rw [if_neg h2, if_neg (by omega)]; exact ih
    · rw [if_neg h, if_neg (by omega)]; exact ih
theorem subE_eq : ∀ (l : List (Nat × α)) (j : Nat), lookL (T.build.subE l) j = lookL l (2 * j + 2)
  | [], _ => rfl
  | x :: l, j => by
    have ih := subE_eq l j
    show lookL (bcase (Nat.beq (Nat.mod x.1 2) 1) (T.build.subE l) (bcase (Nat.beq x.1 0) (T.build.subE l) ((Nat.pred (Nat.div x.1 2), x.2) :: T.build.subE l))) j = _
    rw [bcase_ite, bcase_ite, lookL_cons]
    simp only [Nat.beq_eq]
    have e1 : Nat.mod x.1 2 = x.1 % 2 := rfl
    have e2 : Nat.pred (Nat.div x.1 2) = x.1 / 2 - 1 := rfl
    rw [e1, e2]
    by_cases h : x.1 % 2 = 1
    · rw [if_pos h, if_neg (by omega)]; exact ih
    · rw [if_neg h]
      by_cases h0 : x.1 = 0
      · rw [if_pos h0, if_neg (by omega)]; exact ih
      · rw [if_neg h0, lookL_cons]
        simp only
        by_cases h2 : x.1 / 2 - 1 = j
        · rw [if_pos h2, if_pos (by omega)]
        · rw [if_neg h2, if_neg (by omega)]; exact ih

theorem build_zero (l : List (Nat × α)) : T.build 0 l = .leaf := rfl
theorem build_nil (d : Nat) : T.build (d + 1) ([] : List (Nat × α)) = T.full (d + 1) := rfl
theorem build_cons (d : Nat) (x : Nat × α) (l : List (Nat × α)) : T.build (d + 1) (x :: l) = .node (T.build d (T.build.subO (x :: l))) (T.build.subH (x :: l)) (T.build d (T.build.subE (x :: l))) := rfl

theorem build_has (d : Nat) (l : List (Nat × α)) (k : Nat) (h : k + 1 < 2 ^ d) : (T.build d l).has k := by
  induction d generalizing l k with
  | zero => simp at h
  | succ d ih =>
    cases l with
    | nil => rw [build_nil]; exact T.has_full _ _ h
    | cons x l =>
      rw [build_cons]
      simp only [has]
      rw [Nat.pow_succ] at h
      by_cases h0 : k = 0
      · simp [h0]
      · simp only [h0, if_false]
        by_cases h1 : k % 2 = 1
        · rw [if_pos h1]; exact ih _ _ (by omega)
        · rw [if_neg h1]; exact ih _ _ (by omega)

theorem build_get (d : Nat) (l : List (Nat × α)) (k : Nat) : (T.build d l).get k = if k + 1 < 2 ^ d then lookL l k else none := by
  induction d generalizing l k with
  | zero =>
    rw [build_zero, get_leaf, if_neg (by simp)]
  | succ d ih =>
    cases l with
    | nil => rw [build_nil, T.get_full, lookL_nil]; split <;> rfl
    | cons x l =>
      rw [build_cons, get_node, ih, ih, subH_eq, subO_eq, subE_eq, Nat.pow_succ]
      have hp := Nat.two_pow_pos d
      by_cases h0 : k = 0
      · subst h0; rw [if_pos rfl, if_pos (by omega)]
      · rw [if_neg h0]
        by_cases h1 : k % 2 = 1
        · rw [if_pos h1]
          by_cases hk : k + 1 < 2 ^ d * 2
          · rw [if_pos hk, if_pos (by omega)]; congr 1; omega
          · rw [if_neg hk, if_neg (by omega)]
        · rw [if_neg h1]
          by_cases hk : k + 1 < 2 ^ d * 2
          · rw [if_pos hk, if_pos (by omega)]; congr 1; omega
          · rw [if_neg hk, if_neg (by omega)]
end T

/-! ### New values of the variables -/
noncomputable def SE.subst (s : List (Nat × SE)) : SE → SE
  | .var i => (lookL s i).getD (.var i)
  | .lit n => .lit n
  | .add a b => .add (a.subst s) (b.subst s)
  | .sub a b => .sub (a.subst s) (b.subst s)
  | .mulc c a => .mulc c (a.subst s)
  | .fld l n h a => .fld l n h (a.subst s)
  | .sel b a => .sel b (a.subst s)
/-- The new values: those below 100 may turn. -/
noncomputable def substVal (s : List (Nat × SE)) (σ : Nat → Int) (j : Nat) : Int := match lookL s j with | some e => e.eval σ | none => σ j
def substOk (s : List (Nat × SE)) : Bool := s.all fun p => Nat.blt p.1 100

theorem substVal_high {s : List (Nat × SE)} (hs : substOk s = true) (σ : Nat → Int) {j : Nat} (hj : 100 ≤ j) : substVal s σ j = σ j := by
  unfold substVal
  split
  · rename_i e he
    have := List.all_eq_true.1 hs _ (lookL_mem he)
    have : j < 100 := by simpa using this
    omega
  · rfl
theorem subst_eval {s : List (Nat × SE)} (hs : substOk s = true) (σ : Nat → Int) : ∀ e : SE, (e.subst s).eval σ = e.eval (substVal s σ)
  | .var i => by
    simp only [SE.subst, SE.eval, substVal]
    cases lookL s i <;> rfl
  | .lit _ => rfl
  | .add a b => by simp only [SE.subst, SE.eval, subst_eval hs σ a, subst_eval hs σ b]
  | .sub a b => by simp only [SE.subst, SE.eval, subst_eval hs σ a, subst_eval hs σ b]
  | .mulc c a => by simp only [SE.subst, SE.eval, subst_eval hs σ a]
  | .fld l n h a => by simp only [SE.subst, SE.eval, subst_eval hs σ a]
  | .sel b a => by
    simp only [SE.subst, SE.eval, subst_eval hs σ a]
    rw [substVal_high hs σ (by omega)]

def zeroL (x : LT) : Bool := iEq x.1 0 && x.2.all fun p => iEq p.2 0
theorem evL_zero {σ : Nat → Int} : ∀ l : List (SE × Int), (l.all fun p => decide (p.2 = 0)) = true → LT.evL σ l = 0
  | [], _ => rfl
  | p :: l, h => by
    simp only [List.all_cons, Bool.and_eq_true, decide_eq_true_eq] at h
    simp only [LT.evL, evL_zero l h.2, h.1]; omega
theorem zeroL_ok {σ : Nat → Int} {x : LT} (h : zeroL x = true) : LT.ev σ x = 0 := by
  simp only [zeroL, Bool.and_eq_true, iEq_eq, decide_eq_true_eq] at h
  obtain ⟨h1, h2⟩ := h
  simp only [LT.ev, h1, evL_zero _ h2]; omega
/-- The same number, before and after. -/
noncomputable def sameS (s : List (Nat × SE)) (e e1 : SE) : Bool := zeroL (SE.sub (e.subst s) e1).lin
theorem sameS_ok {s : List (Nat × SE)} (hs : substOk s = true) {σ : Nat → Int} {e e1 : SE} (h : sameS s e e1 = true) : e.eval (substVal s σ) = e1.eval σ := by
  have := zeroL_ok (σ := σ) h
  rw [SE.lin_ok] at this
  simp only [SE.eval] at this
  rw [← subst_eval hs]; omega

/-! ### Values that fit -/
mutual
/-- No symbolic part, no block at or above N. -/
def AV.low (N : Nat) : AV → Bool
  | .bool _ => true
  | .int _ _ => true
  | .sint _ _ _ => false
  | .osl _ _ => false
  | .ssl _ _ _ _ => false
  | .sptr _ _ _ _ _ => false
  | .str _ => true
  | .ptr none => true
  | .ptr (some (a, _)) => Nat.blt a N
  | .slice none _ _ _ => true
  | .slice (some (a, _)) _ _ _ => Nat.blt a N
  | .map none => true
  | .map (some a) => Nat.blt a N
  | .func (.yield a) x y => Nat.blt a N && AV.lowL N x && AV.lowL N y
  | .func _ x y => AV.lowL N x && AV.lowL N y
  | .nilFunc => true
  | .iface _ v => AV.low N v
  | .nilIface => true
  | .agg cs => AV.lowL N cs
  | .tuple vs => AV.lowL N vs
def AV.lowL (N : Nat) : List AV → Bool
  | [] => true
  | a :: as => AV.low N a && AV.lowL N as
end

/-- μ' says of the blocks below N what μ said, or that they are dead. -/
def Under (N : Nat) (μ μ' : Mu) : Prop := ∀ a l, a < N → μ a = some l → μ' a = some l ∨ μ' a = some .dead

mutual
theorem VRel.under {N : Nat} {μ μ' : Mu} (he : Under N μ μ') : ∀ (v : AV) (v' : Value), AV.low N v = true → VRel μ v v' → VRel μ' v v'
  | .bool b, v', _, h => by simpa [VRel] using h
  | .int k n, v', _, h => by simpa [VRel] using h
  | .sint _ _ _, _, hl, _ => by simp [AV.low] at hl
  | .osl _ _, _, hl, _ => by simp [AV.low] at hl
  | .ssl _ _ _ _, _, hl, _ => by simp [AV.low] at hl
  | .sptr _ _ _ _ _, _, hl, _ => by simp [AV.low] at hl
  | .str s, v', _, h => by simpa [VRel] using h
  | .ptr none, v', _, h => by simpa [VRel] using h
  | .ptr (some (a, off)), v', hl, h => by
    simp only [VRel] at h ⊢
    have hl : a < N := by simpa [AV.low] using hl
    obtain ⟨ad, l, h1, h2, h3⟩ := h
    rcases he a l hl h2 with h4 | h4
    · exact ⟨ad, l, h1, h4, h3⟩
    · exact ⟨ad, .dead, h1, h4, trivial⟩
  | .slice none n c o, v', _, h => by simpa [VRel] using h
  | .slice (some (a, off)) n c o, v', hl, h => by
    simp only [VRel] at h ⊢
    have hl : a < N := by simpa [AV.low] using hl
    obtain ⟨ad, c', l, h1, h2, h3, h4, h5, h6⟩ := h
    rcases he a l hl h2 with h7 | h7
    · exact ⟨ad, c', l, h1, h7, h3, h4, h5, h6⟩
    · exact ⟨ad, c', .dead, h1, h7, h3, h4, h5, trivial⟩
  | .map none, v', _, h => by simpa [VRel] using h
  | .map (some a), v', hl, h => by
    simp only [VRel] at h ⊢
    have hl : a < N := by simpa [AV.low] using hl
    obtain ⟨b, l, h1, h2, h3⟩ := h
    rcases he a l hl h2 with h4 | h4
    · exact ⟨b, l, h1, h4, h3⟩
    · exact ⟨b, .dead, h1, h4, trivial⟩
  | .func (.func f) x y, v', hl, h => by
    simp only [VRel] at h ⊢
    simp only [AV.low, Bool.and_eq_true] at hl
    obtain ⟨x', y', h1, h2, h3⟩ := h
    exact ⟨x', y', h1, VRelL.under he x _ hl.1 h2, VRelL.under he y _ hl.2 h3⟩
  | .func (.yield a) x y, v', hl, h => by
    simp only [VRel] at h ⊢
    simp only [AV.low, Bool.and_eq_true] at hl
    have hla : a < N := by simpa using hl.1.1
    obtain ⟨hx, hy, b, l, h1, h2, h3⟩ := h
    rcases he a l hla h2 with h4 | h4
    · exact ⟨hx, hy, b, l, h1, h4, h3⟩
    · exact ⟨hx, hy, b, .dead, h1, h4, trivial⟩
  | .func (.method _) x y, v', _, h => by simp [VRel] at h
  | .func (.methodOf _ _) x y, v', _, h => by simp [VRel] at h
  | .func (.via _ _ _ _) x y, v', _, h => by simp [VRel] at h
  | .nilFunc, v', _, h => by simpa [VRel] using h
  | .iface t x, v', hl, h => by
    simp only [VRel] at h ⊢
    simp only [AV.low] at hl
    obtain ⟨x', h1, h2⟩ := h
    exact ⟨x', h1, VRel.under he x _ hl h2⟩
  | .nilIface, v', _, h => by simpa [VRel] using h
  | .agg cs, v', hl, h => by
    simp only [VRel] at h ⊢
    simp only [AV.low] at hl
    obtain ⟨cs', h1, h2, h3⟩ := h
    exact ⟨cs', h1, VRelL.under he cs _ hl h2, h3⟩
  | .tuple vs, v', hl, h => by
    simp only [VRel] at h ⊢
    simp only [AV.low] at hl
    obtain ⟨vs', h1, h2⟩ := h
    exact ⟨vs', h1, VRelL.under he vs _ hl h2⟩
theorem VRelL.under {N : Nat} {μ μ' : Mu} (he : Under N μ μ') : ∀ (v : List AV) (v' : List Value), AV.lowL N v = true → VRelL μ v v' → VRelL μ' v v'
  | [], v', _, h => by simpa [VRelL] using h
  | a :: as, v', hl, h => by
    simp only [VRelL] at h ⊢
    simp only [AV.lowL, Bool.and_eq_true] at hl
    obtain ⟨b, bs, h1, h2, h3⟩ := h
    exact ⟨b, bs, h1, VRel.under he a _ hl.1 h2, VRelL.under he as _ hl.2 h3⟩
end

noncomputable def fitInt (s : List (Nat × SE)) (K : SK) (k : IntKind) (e : SE) (K' : SK) : AV → Bool
  | .sint j e1 _ => kEq j k && K'.beq K && sameS s e e1
  | .int j n => kEq j k && K'.beq K && sameS s e (.lit n)
  | _ => false
noncomputable def fitSl (s : List (Nat × SE)) (K : SK) (N a off : Nat) (e : SE) (K' : SK) : AV → Bool
  | .ssl b p e1 _ => Nat.beq b a && Nat.beq p off && K'.beq K && sameS s e e1 && Nat.blt a N
  | _ => false
/-- v1 as it is fits v as it is to be. -/
noncomputable def fit1 (s : List (Nat × SE)) (K : SK) (N : Nat) (v1 v : AV) : Bool :=
  match v with
  | .sint k e K' => fitInt s K k e K' v1
  | .ssl a off e K' => fitSl s K N a off e K' v1
  | v => AV.beq v1 v && AV.low N v
noncomputable def fitL (s : List (Nat × SE)) (K : SK) (N : Nat) : List AV → List AV → Bool
  | [], [] => true
  | a :: as, b :: bs => fit1 s K N a b && fitL s K N as bs
  | _, _ => false

section
variable {s : List (Nat × SE)} (hs : substOk s = true) {K : SK} {N : Nat} {μ μ' : Mu} (hv : μ'.val = substVal s μ.val) (hK : K.Holds μ'.val) (hu : Under N μ μ')
include hs hv hK hu

theorem fit1_ok {v1 v : AV} (h : fit1 s K N v1 v = true) {x : Value} (hx : VRel μ v1 x) : VRel μ' v x := by
  unfold fit1 at h
  split at h
  · rename_i k e K'
    unfold fitInt at h
    split at h <;> try (cases h; done)
    · simp only [Bool.and_eq_true, kEq_eq, decide_eq_true_eq] at h
      obtain ⟨⟨rfl, h2⟩, h3⟩ := h
      have := SK.beq_ok h2; subst this
      simp only [VRel] at hx ⊢
      refine ⟨?_, hK⟩
      rw [hv, sameS_ok hs h3]; exact hx.1
    · simp only [Bool.and_eq_true, kEq_eq, decide_eq_true_eq] at h
      obtain ⟨⟨rfl, h2⟩, h3⟩ := h
      have := SK.beq_ok h2; subst this
      simp only [VRel] at hx ⊢
      refine ⟨?_, hK⟩
      rw [hv, sameS_ok hs h3]; exact hx
  · rename_i a off e K'
    unfold fitSl at h
    split at h <;> try (cases h; done)
    simp only [Bool.and_eq_true, Nat.beq_eq] at h
    obtain ⟨⟨⟨⟨e1, e2⟩, h2⟩, h3⟩, h4⟩ := h
    subst e1; subst e2
    have := SK.beq_ok h2; subst this
    have h4 := Nat.le_of_ble_eq_true h4
    simp only [VRel] at hx ⊢
    obtain ⟨ad, n, c, l, p1, p2, p3, p4, _⟩ := hx
    rw [hv, sameS_ok hs h3]
    rcases hu _ l (by omega) p2 with p5 | p5
    · exact ⟨ad, n, c, l, p1, p5, p3, p4, by rw [← hv]; exact hK⟩
    · exact ⟨ad, n, c, .dead, p1, p5, trivial, p4, by rw [← hv]; exact hK⟩
  · simp only [Bool.and_eq_true] at h
    have := AV.beq_sound _ _ h.1; subst this
    exact VRel.under hu _ _ h.2 hx

omit hs hv hK hu in
theorem fit1_scalar {v1 v : AV} (h : fit1 s K N v1 v = true) (hx : v1.scalar = true) : v.scalar = true := by
  unfold fit1 at h
  split at h
  · rfl
  · rfl
  · simp only [Bool.and_eq_true] at h
    have := AV.beq_sound _ _ h.1; subst this
    exact hx

omit hs hv hK hu in
theorem fitL_ok : ∀ {l1 l : List AV}, fitL s K N l1 l = true → l1.length = l.length ∧ ∀ (i : Nat) (v : AV), l[i]? = some v → ∃ v1, l1[i]? = some v1 ∧ fit1 s K N v1 v = true
  | [], [], _ => ⟨rfl, fun i v h => by simp at h⟩
  | a :: as, b :: bs, h => by
    simp only [fitL, Bool.and_eq_true] at h
    obtain ⟨h1, h2⟩ := fitL_ok h.2
    refine ⟨by simp [h1], fun i v hi => ?_⟩
    cases i with
    | zero => simp only [List.getElem?_cons_zero, Option.some.injEq] at hi; subst hi; exact ⟨a, rfl, h.1⟩
    | succ i => exact h2 i v (by simpa using hi)
  | [], _ :: _, h => by cases h
  | _ :: _, [], h => by cases h
end
end Go.Proofs.YtjjdminaacibeaaGreatDoor.Ev
/- States that fit; pieces of code over states. -/
namespace Go.Proofs.YtjjdminaacibeaaGreatDoor.Ev

noncomputable def fitEnt (s : List (Nat × SE)) (K : SK) (N : Nat) : List (List UInt8 × AV) → List (List UInt8 × AV) → Bool
  | [], [] => true
  | (k1, v1) :: l1, (k, v) :: l => beqBytes k1 k && fit1 s K N v1 v && fitEnt s K N l1 l
  | _, _ => false
noncomputable def sameSegs (N : Nat) : List (List AV × Nat) → List (List AV × Nat) → Bool
  | [], [] => true
  | (p1, c1) :: l1, (p, c) :: l => AV.beqL p1 p && AV.lowL N p && Nat.beq c1 c && sameSegs N l1 l
  | _, _ => false
/-- ob1 as it is fits ob as it is to be. -/
noncomputable def fitObj (s : List (Nat × SE)) (K : SK) (N : Nat) : AObj → AObj → Bool
  | .row c1, .row c => fitL s K N c1 c
  | .ro c1, .ro c => fitL s K N c1 c
  | .rle s1 l1, .rle s2 l2 => Nat.beq s1 s2 && sameSegs N l1 l2
  | .rrle s1 l1, .rrle s2 l2 => Nat.beq s1 s2 && sameSegs N l1 l2
  | .arr k1 b1 l1, .arr k b l => kEq k1 k && Nat.beq b1 b && sameS s l l1
  | .map e1, .map e => fitEnt s K N e1 e
  | .sit s1 p1, .sit t p => beqBytes s1 t && Nat.beq p1 p
  | _, _ => false
noncomputable def fitAt (s : List (Nat × SE)) (K : SK) (N : Nat) (ob : AObj) : Option AObj → Bool
  | some ob1 => fitObj s K N ob1 ob
  | none => false
noncomputable def fitHeap (s : List (Nat × SE)) (K : SK) (N : Nat) (H1 : Heap) (l : List (Nat × AObj)) : Bool :=
  l.all fun p => Nat.blt p.1 N && fitAt s K N p.2 (H1.get p.1)
noncomputable def fitVar (s : List (Nat × SE)) (K : SK) (N : Nat) (v : AV) : Option AV → Bool
  | some v1 => fit1 s K N v1 v
  | none => false
noncomputable def fitEnv (s : List (Nat × SE)) (K : SK) (N : Nat) (E1 : Env) (l : List (Nat × AV)) : Bool :=
  l.all fun p => fitVar s K N p.2 (E1.get p.1)

noncomputable def mkEnv (l : List (Nat × AV)) : Env := T.build 10 l
noncomputable def mkHeap (l : List (Nat × AObj)) (N : Nat) : Heap := { mem := T.build 20 l, next := N }

section
variable {P : Program} {tab : String → List (TypeId × FuncId)}
section
variable {s : List (Nat × SE)} (hs : substOk s = true) {K : SK} {N : Nat} {μ μ' : Mu} (hv : μ'.val = substVal s μ.val) (hK : K.Holds μ'.val) (hu : Under N μ μ')
include hs hv hK hu

omit hs hv hK hu in
theorem lowL_mem {N : Nat} : ∀ {l : List AV} {v : AV}, AV.lowL N l = true → v ∈ l → AV.low N v = true
  | [], _, _, h => by cases h
  | a :: as, v, hl, h => by
    simp only [AV.lowL, Bool.and_eq_true] at hl
    rcases List.mem_cons.1 h with rfl | h
    · exact hl.1
    · exact lowL_mem hl.2 h
omit hs hv hK hu in
theorem sameSegs_ok {N : Nat} : ∀ {l1 l : List (List AV × Nat)}, sameSegs N l1 l = true → l1 = l ∧ ∀ v ∈ expand l, AV.low N v = true
  | [], [], _ => ⟨rfl, fun v h => by cases h⟩
  | (p1, c1) :: l1, (p, c) :: l, h => by
    simp only [sameSegs, Bool.and_eq_true, Nat.beq_eq] at h
    obtain ⟨⟨⟨h1, h2⟩, h3⟩, h4⟩ := h
    obtain ⟨rfl, k2⟩ := sameSegs_ok h4
    rw [AV.beqL_sound _ _ h1, h3]
    refine ⟨rfl, fun v hv => ?_⟩
    simp only [expand, List.mem_append] at hv
    rcases hv with hv | hv
    · exact lowL_mem h2 (repL_mem hv)
    · exact k2 v hv
  | [], _ :: _, h => by cases h
  | _ :: _, [], h => by cases h

theorem fitEnt_ok : ∀ {l1 l : List (List UInt8 × AV)} {es : List MapEntry}, fitEnt s K N l1 l = true → entRel μ l1 es → entRel μ' l es
  | [], [], es, _, h => h
  | (k1, v1) :: l1, (k, v) :: l, es, hf, h => by
    simp only [fitEnt, Bool.and_eq_true, beqBytes_eq, decide_eq_true_eq] at hf
    obtain ⟨⟨rfl, h2⟩, h3⟩ := hf
    simp only [entRel] at h ⊢
    obtain ⟨e, es', e1, e2, e3, e4⟩ := h
    exact ⟨e, es', e1, e2, fit1_ok hs hv hK hu h2 e3, fitEnt_ok h3 e4⟩
  | [], _ :: _, _, hf, _ => by cases hf
  | _ :: _, [], _, hf, _ => by cases hf

theorem fitObj_ok {w : World} {l : Loc} {ob1 ob : AObj} (hf : fitObj s K N ob1 ob = true) (h : ObjRel P tab μ w l ob1) : ObjRel P tab μ' w l ob := by
  unfold fitObj at hf
  split at hf <;> try (cases hf; done)
  · obtain ⟨f1, f2⟩ := fitL_ok hf
    cases l <;> simp only [ObjRel] at h ⊢ <;> try (exact h.elim)
    obtain ⟨c, t, fr, h1, h2, h3, h4, h5⟩ := h
    refine ⟨c, t, fr, h1, h2, by omega, h4, fun i v hi => ?_⟩
    obtain ⟨v1, g1, g2⟩ := f2 i v hi
    obtain ⟨p1, v', p2, p3⟩ := h5 i v1 g1
    exact ⟨fit1_scalar g2 p1, v', p2, fit1_ok hs hv hK hu g2 p3⟩
  · obtain ⟨f1, f2⟩ := fitL_ok hf
    cases l <;> simp only [ObjRel] at h ⊢ <;> try (exact h.elim)
    obtain ⟨c, t, fr, h1, h2, h5⟩ := h
    refine ⟨c, t, fr, h1, by omega, fun i v hi => ?_⟩
    obtain ⟨v1, g1, g2⟩ := f2 i v hi
    obtain ⟨p1, v', p2, p3⟩ := h5 i v1 g1
    exact ⟨fit1_scalar g2 p1, v', p2, fit1_ok hs hv hK hu g2 p3⟩
  · rename_i s1 l1 s2 l2
    simp only [Bool.and_eq_true, Nat.beq_eq] at hf
    obtain ⟨rfl, hf⟩ := hf
    obtain ⟨rfl, hlow⟩ := sameSegs_ok hf
    cases l <;> simp only [ObjRel] at h ⊢ <;> try (exact h.elim)
    · obtain ⟨⟨c, t, fr, h1, h2, h3, h4, h5⟩, h6⟩ := h
      refine ⟨⟨c, t, fr, h1, h2, h3, h4, fun i v hi => ?_⟩, h6⟩
      obtain ⟨p1, v', p2, p3⟩ := h5 i v hi
      exact ⟨p1, v', p2, VRel.under hu _ _ (hlow v (List.mem_of_getElem? hi)) p3⟩
  · rename_i s1 l1 s2 l2
    simp only [Bool.and_eq_true, Nat.beq_eq] at hf
    obtain ⟨rfl, hf⟩ := hf
    obtain ⟨rfl, hlow⟩ := sameSegs_ok hf
    cases l <;> simp only [ObjRel] at h ⊢ <;> try (exact h.elim)
    · obtain ⟨⟨c, t, fr, h1, h5⟩, h6⟩ := h
      refine ⟨⟨c, t, fr, h1, fun i v hi => ?_⟩, h6⟩
      obtain ⟨p1, v', p2, p3⟩ := h5 i v hi
      exact ⟨p1, v', p2, VRel.under hu _ _ (hlow v (List.mem_of_getElem? hi)) p3⟩
  · rename_i k1 b1 l1 k b l2
    simp only [Bool.and_eq_true, kEq_eq, decide_eq_true_eq, Nat.beq_eq] at hf
    obtain ⟨⟨rfl, rfl⟩, h3⟩ := hf
    cases l <;> simp only [ObjRel] at h ⊢ <;> try (exact h.elim)
    obtain ⟨c, t, fr, h1, h2⟩ := h
    refine ⟨c, t, fr, h1, fun j hj => ?_⟩
    rw [hv, sameS_ok hs h3] at hj
    rw [hv, substVal_high hs _ (by omega)]
    exact h2 j hj
  · cases l <;> simp only [ObjRel] at h ⊢ <;> try (exact h.elim)
    obtain ⟨es', k, h1, h2⟩ := h
    exact ⟨es', k, h1, fitEnt_ok hs hv hK hu hf h2⟩
  · simp only [Bool.and_eq_true, beqBytes_eq, decide_eq_true_eq, Nat.beq_eq] at hf
    obtain ⟨rfl, rfl⟩ := hf
    cases l <;> simp only [ObjRel] at h ⊢ <;> try (exact h.elim)
    exact h
end

/-! ### States -/
/-- What has become of the memory since a start. -/
structure Fr (μ0 : Mu) (w0 : World) (μ : Mu) (w : World) : Prop where
  size : w0.heap.size ≤ w.heap.size
  cfr : ∀ b, b < w0.heap.size → (∀ a l, μ0 a = some l → l.blk ≠ some b) → w.heap[b]? = w0.heap[b]? ∧ ∀ a l, μ a = some l → l.blk ≠ some b
  os : w.os = w0.os
  output : w.output = w0.output
  tape : w.tape = w0.tape

variable (P tab) in
/-- The memory and the frame stand as (E, H) say, under the values σ of the variables. -/
def At (B nt : Nat) (ro : Option Nat) (μ0 : Mu) (w0 : World) (σ : Nat → Int) (E : Env) (H : Heap) (a : Act) (w : World) : Prop :=
  ∃ μ, μ.val = σ ∧ Fr μ0 w0 μ w ∧ Sim P tab μ H w ∧ ActRel B μ nt w ro E a

variable {B nt : Nat} {ro : Option Nat} {μ0 : Mu} {w0 : World}

/-- A state is fitted to another. -/
theorem At.refit {s : List (Nat × SE)} (hs : substOk s = true) {K : SK} {N : Nat} {E1 : Env} {H1 : Heap} {LE : List (Nat × AV)} {LH : List (Nat × AObj)} (hE : fitEnv s K N E1 LE = true) (hH : fitHeap s K N H1 LH = true) (hnt : Nat.ble nt 1022 = true) (hN : Nat.ble N 1048575 = true)
    {σ : Nat → Int} (hK : K.Holds (substVal s σ)) {a : Act} {w : World} (h : At P tab B nt ro μ0 w0 σ E1 H1 a w) : At P tab B nt ro μ0 w0 (substVal s σ) (mkEnv LE) (mkHeap LH N) a w := by
  obtain ⟨μ, rfl, hf, hsim, ha⟩ := h
  let μ' : Mu := ⟨fun a => if (lookL LH a).isSome then μ a else match μ a with | some _ => if a < N then some .dead else none | none => none, substVal s μ.val⟩
  have hlisted : ∀ a ob, lookL LH a = some ob → a < N ∧ ∃ ob1, H1.get a = some ob1 ∧ fitObj s K N ob1 ob = true := by
    intro a ob hl
    have := List.all_eq_true.1 hH _ (lookL_mem hl)
    simp only [Bool.and_eq_true] at this
    obtain ⟨h1, h2⟩ := this
    refine ⟨Nat.le_of_ble_eq_true h1, ?_⟩
    unfold fitAt at h2
    split at h2 <;> try (cases h2; done)
    rename_i ob1 hg
    exact ⟨ob1, hg, h2⟩
  have hat : ∀ a, μ' a = if (lookL LH a).isSome then μ a else match μ a with | some _ => if a < N then some .dead else none | none => none := fun _ => rfl
  have hlive : ∀ a l, μ' a = some l → l ≠ .dead → ∃ ob, lookL LH a = some ob ∧ μ a = some l := by
    intro a l ha hne
    rw [hat] at ha
    cases hl : lookL LH a with
    | some ob => rw [hl] at ha; simp at ha; exact ⟨ob, rfl, ha⟩
    | none =>
      rw [hl] at ha
      simp only [Option.isSome_none, Bool.false_eq_true, if_false] at ha
      split at ha
      · split at ha
        · simp only [Option.some.injEq] at ha; exact absurd ha.symm hne
        · cases ha
      · cases ha
  have hu : Under N μ μ' := by
    intro a l han hal
    rw [hat]
    cases hl : lookL LH a with
    | some ob => left; simp [hal]
    | none => right; simp [hal, han]
  have hget : ∀ a, (mkHeap LH N).get a = if a + 1 < 2 ^ 20 then lookL LH a else none := fun a => T.build_get 20 LH a
  have hNle := Nat.le_of_ble_eq_true hN
  have hgetN : ∀ a ob, lookL LH a = some ob → (mkHeap LH N).get a = some ob := by
    intro a ob hl
    have := (hlisted a ob hl).1
    rw [hget, if_pos (by omega)]; exact hl
  have hfit : ∀ {w : World} {l : Loc} {ob1 ob : AObj}, fitObj s K N ob1 ob = true → ObjRel P tab μ w l ob1 → ObjRel P tab μ' w l ob := fun h1 h2 => fitObj_ok hs (μ' := μ') rfl hK hu h1 h2
  refine ⟨μ', rfl, ⟨hf.size, fun b hb hn => ?_, hf.os, hf.output, hf.tape⟩, ?_, ?_⟩
  · obtain ⟨h1, h2⟩ := hf.cfr b hb hn
    refine ⟨h1, fun a l ha => ?_⟩
    cases l with
    | dead => simp [Loc.blk]
    | row b' o e => obtain ⟨_, _, h3⟩ := hlive a _ ha (by simp); exact h2 a _ h3
    | obj b' => obtain ⟨_, _, h3⟩ := hlive a _ ha (by simp); exact h2 a _ h3
    | ro b' o => simp [Loc.blk]
  · exact {
      live := fun a l ha hl => by
        obtain ⟨ob, h1, h2⟩ := hlive a l ha (fun e => by subst e; simp [Loc.blk] at hl)
        obtain ⟨_, ob1, h3, h4⟩ := hlisted a ob h1
        obtain ⟨ob1', h5, h6⟩ := hsim.live a l h2 hl
        rw [h3] at h5; cases h5
        exact ⟨ob, hgetN a ob h1, hfit h4 h6⟩
      inj := fun a a' l l' b ha ha' hb hb' => by
        obtain ⟨_, _, h2⟩ := hlive a l ha (fun e => by subst e; simp [Loc.blk] at hb)
        obtain ⟨_, _, h2'⟩ := hlive a' l' ha' (fun e => by subst e; simp [Loc.blk] at hb')
        exact hsim.inj a a' l l' b h2 h2' hb hb'
      ro := fun a b o ha => by
        obtain ⟨ob, h1, h2⟩ := hlive a _ ha (by simp)
        obtain ⟨_, ob1, h3, h4⟩ := hlisted a ob h1
        obtain ⟨ob1', h5, h6⟩ := hsim.ro a b o h2
        rw [h3] at h5; cases h5
        exact ⟨ob, hgetN a ob h1, hfit h4 h6⟩
      apart := fun a b o a' l' ha ha' hb => by
        obtain ⟨_, _, h2⟩ := hlive a _ ha (by simp)
        obtain ⟨_, _, h2'⟩ := hlive a' l' ha' (fun e => by subst e; simp [Loc.blk] at hb)
        exact hsim.apart a b o a' l' h2 h2' hb
      dead := fun a ha => by
        cases hl : lookL LH a with
        | none => rw [hget]; split; exact hl; rfl
        | some ob =>
          rw [hat, hl] at ha
          simp only [Option.isSome_some, if_true] at ha
          obtain ⟨_, ob1, h3, _⟩ := hlisted a ob hl
          rw [hsim.dead a ha] at h3; cases h3
      dom := fun a l ha => by
        cases hl : lookL LH a with
        | some ob => exact (hlisted a ob hl).1
        | none =>
          rw [hat, hl] at ha
          simp only [Option.isSome_none, Bool.false_eq_true, if_false] at ha
          split at ha
          · split at ha
            · rename_i hlt; exact hlt
            · cases ha
          · cases ha
      full := fun a ha => T.build_has 20 LH a (by simp only [lim] at ha; omega)
      fresh := fun a ha => by
        have ha : N ≤ a := ha
        rw [hget]
        split
        · cases hl : lookL LH a with
          | none => rfl
          | some ob => have := (hlisted a ob hl).1; omega
        · rfl }
  · refine ⟨ha.size, ?_, fun t ht => T.build_has 10 LE t (by have := Nat.le_of_ble_eq_true hnt; omega), ?_⟩
    · intro t v ht
      have ht : T.get (T.build 10 LE) t = some v := ht
      rw [T.build_get] at ht
      split at ht <;> try (cases ht; done)
      have := List.all_eq_true.1 hE _ (lookL_mem ht)
      unfold fitVar at this
      split at this <;> try (cases this; done)
      rename_i v1 hv1
      obtain ⟨v', h1, h2⟩ := ha.rel t v1 hv1
      exact ⟨v', h1, fit1_ok hs (μ' := μ') rfl hK hu this h2⟩
    · obtain ⟨q0, rs, q1, q2, q3, q4⟩ := ha.defs
      refine ⟨q0, rs, q1, q2, q3, fun r hr => ?_⟩
      obtain ⟨k1, k2, k3⟩ := q4 r hr
      refine ⟨k1, k2, fun x l hx => ?_⟩
      cases l with
      | dead => simp [Loc.blk]
      | row b' o e => obtain ⟨_, _, h3⟩ := hlive x _ hx (by simp); exact k3 x _ h3
      | obj b' => obtain ⟨_, _, h3⟩ := hlive x _ hx (by simp); exact k3 x _ h3
      | ro b' o => simp [Loc.blk]

/-! ### Pieces of code over states -/
variable (P tab) in
/-- From the states S the code ends in Q. -/
def Wp (nt : Nat) (ro : Option Nat) (ic : ICode) (S : Act → World → Prop) (Q : Exit' → Act → World → Prop) : Prop :=
  ∀ c, compCode P tab nt c = ic → (ro ≠ none → noRange c = true) → ∀ a w, S a w → c.wpIn (fence ro) 0 P (fun e a' w' => ∃ ex, e = exOf ex ∧ Q ex a' w') a w

variable {S M : Act → World → Prop} {Q Q' : Exit' → Act → World → Prop}

theorem Wp.pre {ic : ICode} {S' : Act → World → Prop} (h : Wp P tab nt ro ic S Q) (hs : ∀ a w, S' a w → S a w) : Wp P tab nt ro ic S' Q := fun c hc hn a w h' => h c hc hn a w (hs a w h')
theorem Wp.post {ic : ICode} (h : Wp P tab nt ro ic S Q) (hq : ∀ ex a w, Q ex a w → Q' ex a w) : Wp P tab nt ro ic S Q' :=
  fun c hc hn a w h' => wpIn_mono (h c hc hn a w h') fun _ a w ⟨ex, e, q⟩ => ⟨ex, e, hq ex a w q⟩

theorem Fr.goes {μ μ' : Mu} {H H1 : Heap} {w w1 : World} (hf : Fr μ0 w0 μ w) (g : Goes P tab μ H w μ' H1 w1) : Fr μ0 w0 μ' w1 where
  size := Nat.le_trans hf.size g.size
  cfr := fun b hb hn => by
    obtain ⟨h1, h2⟩ := hf.cfr b hb hn
    obtain ⟨h3, h4⟩ := g.cfr b (Nat.lt_of_lt_of_le hb hf.size) h2
    exact ⟨h3.trans h1, h4⟩
  os := g.os.trans hf.os
  output := g.output.trans hf.output
  tape := g.tape.trans hf.tape

/-- What the evaluator runs. -/
theorem Wp.run {rec : Rec} (hr : RecOk P tab rec) (hd : DrawOk P tab rec) {n : Nat} {ic : ICode} {E : Env} {H : Heap} {ex : Exit'} {E1 : Env} {H1 : Heap} (he : codeE n rec ic E H = some (.mk ex E1 H1)) {σ : Nat → Int} :
    Wp P tab nt ro ic (At P tab B nt ro μ0 w0 σ E H) (fun ex' a w => ex' = ex ∧ At P tab B nt ro μ0 w0 σ E1 H1 a w) := by
  intro c hc hn a w ⟨μ, hσ, hf, hsim, ha⟩
  subst hc
  refine wpIn_mono (code_sound hr hd nt n c ro hn μ H w E a ex E1 H1 he hsim ha) ?_
  rintro e a' w' ⟨rfl, μ', g, ha'⟩
  exact ⟨ex, rfl, rfl, μ', g.ext.val.trans hσ, hf.goes g, g.sim, ha'⟩

theorem exOf_inj {x y : Exit'} (h : exOf x = exOf y) : x = y := by
  cases x <;> cases y <;> simp [exOf] at h ⊢
  exact h

theorem Wp.seq {x y : ICode} (hx : Wp P tab nt ro x S (fun ex a w => (ex = .normal → M a w) ∧ (ex ≠ .normal → Q ex a w))) (hy : Wp P tab nt ro y M Q) : Wp P tab nt ro (.seq x y) S Q := by
  intro c hc hn a w hs
  obtain ⟨cx, cy, rfl, hcx, hcy⟩ := compCode_seq hc
  refine wpIn_seq (wpIn_mono (hx cx hcx (fun h => ?_) a w hs) ?_)
  · have := hn h; simp only [noRange, Bool.and_eq_true] at this; exact this.1
  · rintro e a1 w1 ⟨ex, rfl, h1, h2⟩
    cases ex with
    | normal => exact hy cy hcy (fun h => by have := hn h; simp only [noRange, Bool.and_eq_true] at this; exact this.2) a1 w1 (h1 rfl)
    | exit id => exact ⟨_, rfl, h2 (by simp)⟩
    | ret => exact ⟨_, rfl, h2 (by simp)⟩

/-- Out of a block. -/
def outOf (id : Nat) : Exit' → Exit'
  | .exit j => if j = id then .normal else .exit j
  | e => e
theorem Wp.block {id : Nat} {x : ICode} (hx : Wp P tab nt ro x S (fun ex a w => Q (outOf id ex) a w)) : Wp P tab nt ro (.block id x) S Q := by
  intro c hc hn a w hs
  obtain ⟨cx, rfl, hcx⟩ := compCode_block hc
  refine wpIn_block (wpIn_mono (hx cx hcx hn a w hs) ?_)
  rintro e a1 w1 ⟨ex, rfl, h1⟩
  cases ex with
  | normal => exact ⟨_, rfl, h1⟩
  | exit j =>
    simp only [exOf, Exit.inBlock]
    simp only [outOf] at h1
    split
    · rename_i hj; rw [if_pos hj] at h1; exact ⟨_, rfl, h1⟩
    · rename_i hj; rw [if_neg hj] at h1; exact ⟨_, rfl, h1⟩
  | ret => exact ⟨_, rfl, h1⟩

/-- A loop, by a measure of its states. -/
theorem Wp.loop {x : ICode} {S : Nat → Act → World → Prop} (step : ∀ m, Wp P tab nt ro x (S m) (fun ex a w => (ex = .normal → ∃ m', m' < m ∧ S m' a w) ∧ (ex ≠ .normal → Q ex a w))) (m : Nat) : Wp P tab nt ro (.loop x) (S m) Q := by
  intro c hc hn a w hs b k cs hro hb hr
  obtain ⟨cx, rfl, hcx⟩ := compCode_loop hc
  have key : ∀ (m : Nat) (a : Act) (w : World), S m a w → ∃ e a' w', (∃ ex, e = exOf ex ∧ Q ex a' w') ∧ ArrivesIn (Machine.fenced P (fence ro)) P (lone (b.atR a (.code cx :: .inLoop cx :: k)) cs w) b k cs e a' w' := by
    intro m
    induction m using Nat.strongRecOn with
    | _ m ih =>
      intro a w hs
      obtain ⟨e, a1, w1, ⟨ex, rfl, h1, h2⟩, harr⟩ := step m cx hcx hn a w hs b (.inLoop cx :: k) cs hro hb hr
      cases ex with
      | normal =>
        obtain ⟨m', hm, hs'⟩ := h1 rfl
        obtain ⟨e2, a2, w2, hp2, harr2⟩ := ih m' hm a1 w1 hs'
        exact ⟨e2, a2, w2, hp2, .of_steps (StepsIn.trans harr (.one (fenced_calm hb hr rfl) stepR_inLoop)) harr2⟩
      | exit id => exact ⟨_, a1, w1, ⟨_, rfl, h2 (by simp)⟩, .pass (x := .inLoop cx) rfl (fun _ _ => .inl (by simp [exOf])) harr⟩
      | ret => exact ⟨_, a1, w1, ⟨_, rfl, h2 (by simp)⟩, .pass (x := .inLoop cx) rfl (fun _ _ => .inl (by simp [exOf])) harr⟩
  obtain ⟨e, a', w', hq, harr⟩ := key m a w hs
  exact ⟨e, a', w', hq, .of_steps (.one (fenced_calm hb hr rfl) stepR_loop) harr⟩

/-- A function that hands back one known value: by its body. -/
theorem calls_of_wpv {f : FuncId} {fi : IFunc} (hc : compFunc P tab f = some (.fn fi)) {v : AV} {val : Value} (hval : ∀ (μ : Mu) (v' : Value), VRel μ v v' → v' = val) {args : List AV} {args' : Array Value} {H : Heap} {σ : Nat → Int} {μ : Mu} (hσ : μ.val = σ) {w : World} (hs : Sim P tab μ H w) (hv : VRelL μ args args'.toList)
    (hb : Wp P tab fi.ntmps none fi.body (At P tab w.heap.size fi.ntmps none μ w σ (argsEnv args 0 (T.full 10)) H) (fun ex a w' => (ex = .ret ∨ ex = .normal) ∧ ∃ σ' E1 H1, finFn fi.results E1 H1 = some (v, H1) ∧ At P tab w.heap.size fi.ntmps none μ w σ' E1 H1 a w'))
    (hro : ∀ a l, μ a = some l → l.blk = none) : Calls P f args' w fun e w' => e = .returned val ∧ Go.RowKit.Below w.heap.size w w' := by
  unfold compFunc at hc
  split at hc <;> try (cases hc; done)
  rename_i fn hfn
  split at hc
  · rename_i c hbody
    split at hc <;> try (cases hc; done)
    rename_i hcond
    rw [Option.map_eq_some_iff] at hc
    obtain ⟨rs, hrs, hfi⟩ := hc
    simp only [Code'.fn.injEq] at hfi; subst hfi
    simp only [Bool.or_eq_true, beq_iff_eq, not_or] at hcond
    obtain ⟨hname, hnt⟩ := hcond
    have hnt : fn.ntmps ≤ 1022 := by
      have : ¬ 1022 < fn.ntmps := by simpa using hnt
      omega
    have hrel : ActRel w.heap.size μ fn.ntmps w none (argsEnv args 0 (T.full 10)) { tmps := args' ++ Array.replicate (fn.ntmps - args'.size) undef, defers := [] } := by
      refine ⟨by simp; omega, argsEnv_rel args args'.toList 0 _ hv (fun t v ht => by simp only [T.get_full] at ht; cases ht) ?_, argsEnv_full _ _ _ _ (fun t ht => T.has_full 10 t (by omega)), ⟨Nat.le_refl _, [], rfl, List.nodup_nil, fun _ => rfl, fun r hr => by cases hr⟩⟩
      intro j v' hj
      have hj : args'[j]? = some v' := by simpa using hj
      rw [Nat.zero_add, Array.getElem?_append_left (Array.getElem?_eq_some_iff.1 hj).1]
      exact hj
    have hfr0 : Fr μ w μ w := ⟨Nat.le_refl _, fun _ _ h => ⟨rfl, h⟩, rfl, rfl, rfl⟩
    refine (callsIn_wide (n := 0)).1 ?_
    refine callsIn_of_wp_marks (F := Fence.wide) hfn hbody trivial ?_
    refine wpIn_mono (hb c rfl (fun h => absurd rfl h) _ w ⟨μ, hσ, hfr0, hs, hrel⟩) ?_
    rintro e a w2 ⟨ex, rfl, hex, σ', E1, H1, hg, μ2, rfl, hfr, hsim, ha⟩
    have hleave : LeavesInM (fence none) 0 P fn a.tmps (fun e w' => e = .returned val ∧ Go.RowKit.Below w.heap.size w w') a.defers .returning w2 := by
      obtain ⟨_, rs2, q1, q2, q3, q4⟩ := ha.defs
      rw [q1]
      have g0 : GoesW P tab μ2 w2 μ2 H1 w2 := GoesW.refl hsim
      have hleave : ∀ (rs2 : List Nat) (w3 : World), rs2.Nodup → (∀ r ∈ rs2, w.heap.size ≤ r ∧ w3.heap[r]? = some (.deferred (some [])) ∧ ∀ x l, μ2 x = some l → l.blk ≠ some r) → Fr μ w μ2 w3 → Sim P tab μ2 H1 w3 →
          LeavesInM (fence none) 0 P fn a.tmps (fun e w' => e = .returned val ∧ Go.RowKit.Below w.heap.size w w') (rs2.map markOf) .returning w3 := by
        intro rs2
        induction rs2 with
        | nil =>
          intro w3 _ _ hfr3 hsim3
          simp only [List.map_nil, LeavesInM, LeavesIn]
          obtain ⟨_, v', k1, k2⟩ := fin_rel hsim3 ha.rel hrs hg
          have := hval _ _ k2; subst this
          refine ⟨_, k1, rfl, hfr3.os, hfr3.tape, hfr3.output, hfr3.size, fun k hk => (hfr3.cfr k hk (fun a l hal => ?_)).1⟩
          rw [hro a l hal]; simp
        | cons r rs2 ih =>
          intro w3 hn hr hfr3 hs3
          obtain ⟨hb3, h1, h2⟩ := hr r (by simp)
          obtain ⟨hn1, hn2⟩ := List.nodup_cons.1 hn
          simp only [List.map_cons, LeavesInM]
          refine ⟨by simp, .inl ⟨r, { w3 with heap := w3.heap.setIfInBounds r (.deferred none) }, rfl, ?_, ?_⟩⟩
          · unfold Instr.takeDeferred
            simp only [Sem.run_bind, run_getObj h1 (by simp), Result.andThen_ok, run_setObj h1 (by simp), Sem.run_pure]
          · have hother : ∀ b, b ≠ r → ({ w3 with heap := w3.heap.setIfInBounds r (.deferred none) } : World).heap[b]? = w3.heap[b]? := by
              intro b hb
              exact (turned_set (w := w3) (b := r)).other b hb
            refine ih _ hn2 (fun r' hr' => ?_) ?_ ?_
            · obtain ⟨h30, h3, h4⟩ := hr r' (by simp [hr'])
              exact ⟨h30, by rw [hother r' (fun e => hn1 (by rw [← e]; exact hr'))]; exact h3, h4⟩
            · exact ⟨by simp; exact hfr3.size, fun b hb' hne => by
                obtain ⟨h3, h4⟩ := hfr3.cfr b hb' hne
                exact ⟨(hother b (by omega)).trans h3, h4⟩, hfr3.os, hfr3.output, hfr3.tape⟩
            · exact { live := fun a l ha hl => by
                        obtain ⟨ob, k1, k2⟩ := hs3.live a l ha hl
                        exact ⟨ob, k1, k2.mono (.refl _) (fun b hb => hother b (fun e => h2 a l ha (by rw [← e]; exact seen_blk hl hb)))⟩
                      inj := hs3.inj
                      ro := fun a b o ha => by
                        obtain ⟨ob, k1, k2⟩ := hs3.ro a b o ha
                        refine ⟨ob, k1, k2.mono (.refl _) (fun b2 hb2 => hother b2 (fun e => ?_))⟩
                        simp only [Loc.seen, Option.some.injEq] at hb2; subst hb2; subst e
                        cases ob <;> simp only [ObjRel] at k2 <;> first | (obtain ⟨c, t, fr, k3, _⟩ := k2; rw [h1] at k3; cases k3; done) | (obtain ⟨⟨c, t, fr, k3, _⟩, _⟩ := k2; rw [h1] at k3; cases k3; done)
                      apart := hs3.apart, dead := hs3.dead, dom := hs3.dom, full := hs3.full, fresh := hs3.fresh }
      exact hleave rs2 w2 q2 q4 hfr hsim
    rcases hex with rfl | rfl
    · exact hleave
    · exact hleave
  · split at hc
    · cases hc
    · cases hc

/-- A function that hands back one bool: by its body. -/
theorem calls_of_wp {f : FuncId} {fi : IFunc} (hc : compFunc P tab f = some (.fn fi)) {t : Nat} (hres : fi.results = [.tmp t]) {args : List AV} {args' : Array Value} {H : Heap} {σ : Nat → Int} {μ : Mu} (hσ : μ.val = σ) {w : World} (hs : Sim P tab μ H w) (hv : VRelL μ args args'.toList)
    (hb : Wp P tab fi.ntmps none fi.body (At P tab w.heap.size fi.ntmps none μ w σ (argsEnv args 0 (T.full 10)) H) (fun ex a w' => (ex = .ret ∨ ex = .normal) ∧ ∃ σ' E1 H1, E1.get t = some (.bool true) ∧ At P tab w.heap.size fi.ntmps none μ w σ' E1 H1 a w'))
    (hro : ∀ a l, μ a = some l → l.blk = none) : Calls P f args' w fun e w' => e = .returned (.bool true) ∧ Go.RowKit.Below w.heap.size w w' :=
  calls_of_wpv hc (v := .bool true) (fun _ _ h => VRel_bool.1 h) hσ hs hv (hb.post fun ex a w' ⟨h1, σ', E1, H1, h2, h3⟩ => ⟨h1, σ', E1, H1, by rw [hres]; simp only [finFn, resultsOf, resultOf, h2, packRes], h3⟩) hro

/-! ### Steps that the kernel looks at -/
noncomputable def fitOut (s : List (Nat × SE)) (K : SK) (N : Nat) (LE : List (Nat × AV)) (LH : List (Nat × AObj)) : Option Out → Bool
  | some (.mk .normal E H) => bcase (fitEnv s K N E LE) (fitHeap s K N H LH) false
  | _ => false
def isTV : Option AV → Bool
  | some (.bool b) => b
  | _ => false
noncomputable def retOk (t : Nat) : Option Out → Bool
  | some (.mk .ret E _) => isTV (E.get t)
  | _ => false
noncomputable def exitOk (n : Nat) (rec : Rec) (id t : Nat) (rest : ICode) : Option Out → Bool
  | some (.mk (.exit j) E H) => bcase (Nat.beq j id) (retOk t (codeE n rec rest E H)) false
  | _ => false

theorem isTV_ok {o : Option AV} (h : isTV o = true) : o = some (.bool true) := by
  unfold isTV at h
  split at h
  · rw [h]
  · cases h
theorem retOk_ok {t : Nat} {o : Option Out} (h : retOk t o = true) : ∃ E H, o = some (.mk .ret E H) ∧ E.get t = some (.bool true) := by
  unfold retOk at h
  split at h
  · exact ⟨_, _, rfl, isTV_ok h⟩
  · cases h
theorem exitOk_ok {n : Nat} {rec : Rec} {id t : Nat} {rest : ICode} {o : Option Out} (h : exitOk n rec id t rest o = true) : ∃ E H E2 H2, o = some (.mk (.exit id) E H) ∧ codeE n rec rest E H = some (.mk .ret E2 H2) ∧ E2.get t = some (.bool true) := by
  unfold exitOk at h
  split at h <;> try (cases h; done)
  rename_i j E H
  rw [bcase_ite] at h
  split at h <;> try (cases h; done)
  rename_i hj
  have := Nat.eq_of_beq_eq_true hj; subst this
  obtain ⟨E2, H2, h1, h2⟩ := retOk_ok h
  exact ⟨E, H, E2, H2, rfl, h1, h2⟩
theorem fitOut_ok {s : List (Nat × SE)} {K : SK} {N : Nat} {LE : List (Nat × AV)} {LH : List (Nat × AObj)} {o : Option Out} (h : fitOut s K N LE LH o = true) : ∃ E H, o = some (.mk .normal E H) ∧ fitEnv s K N E LE = true ∧ fitHeap s K N H LH = true := by
  unfold fitOut at h
  split at h <;> try (cases h; done)
  rw [bcase_ite] at h
  split at h <;> try (cases h; done)
  rename_i h1
  exact ⟨_, _, rfl, h1, h⟩

theorem substVal_nil (σ : Nat → Int) : substVal [] σ = σ := rfl

/-- A state under more knowledge. -/
theorem At.know {K K' : SK} {N : Nat} {LE : SK → List (Nat × AV)} {LH : SK → List (Nat × AObj)} (hE : fitEnv [] K' N (mkEnv (LE K)) (LE K') = true) (hH : fitHeap [] K' N (mkHeap (LH K) N) (LH K') = true) (hnt : Nat.ble nt 1022 = true) (hN : Nat.ble N 1048575 = true)
    {σ : Nat → Int} (hK : K'.Holds σ) {a : Act} {w : World} (h : At P tab B nt ro μ0 w0 σ (mkEnv (LE K)) (mkHeap (LH K) N) a w) : At P tab B nt ro μ0 w0 σ (mkEnv (LE K')) (mkHeap (LH K') N) a w :=
  At.refit (s := []) rfl hE hH hnt hN hK h

/-- A piece that ends plainly, in a state that fits. -/
theorem Wp.fit {rec : Rec} (hr : RecOk P tab rec) (hd : DrawOk P tab rec) {n : Nat} {ic : ICode} {s : List (Nat × SE)} (hs : substOk s = true) {K1 : SK} {N : Nat} {E : Env} {H : Heap} {LE1 : List (Nat × AV)} {LH1 : List (Nat × AObj)} (h3 : fitOut s K1 N LE1 LH1 (codeE n rec ic E H) = true)
    (hnt : Nat.ble nt 1022 = true) (hN : Nat.ble N 1048575 = true) {σ : Nat → Int} (hk : K1.Holds (substVal s σ)) :
    Wp P tab nt ro ic (At P tab B nt ro μ0 w0 σ E H) (fun ex a w => ex = .normal ∧ At P tab B nt ro μ0 w0 (substVal s σ) (mkEnv LE1) (mkHeap LH1 N) a w) := by
  obtain ⟨E1, H1, h1, h2, h4⟩ := fitOut_ok h3
  refine (Wp.run hr hd h1).post ?_
  rintro ex a w ⟨rfl, h⟩
  exact ⟨rfl, At.refit hs h2 h4 hnt hN hk h⟩
/-- A piece that ends by an exit, behind which the rest hands back true. -/
theorem Wp.exit {rec : Rec} (hr : RecOk P tab rec) (hd : DrawOk P tab rec) {n id t : Nat} {ic rest : ICode} {E : Env} {H : Heap} (h3 : exitOk n rec id t rest (codeE n rec ic E H) = true) {σ : Nat → Int} :
    Wp P tab nt ro ic (At P tab B nt ro μ0 w0 σ E H) (fun ex a w => ex = .exit id ∧ ∃ E1 H1, retOk t (codeE n rec rest E1 H1) = true ∧ At P tab B nt ro μ0 w0 σ E1 H1 a w) := by
  obtain ⟨E1, H1, E2, H2, h1, h2, h4⟩ := exitOk_ok h3
  refine (Wp.run hr hd h1).post ?_
  rintro ex a w ⟨rfl, h⟩
  exact ⟨rfl, E1, H1, by rw [h2]; show isTV (E2.get t) = true; rw [h4]; rfl, h⟩
/-- A piece that hands back true. -/
theorem Wp.ret {rec : Rec} (hr : RecOk P tab rec) (hd : DrawOk P tab rec) {n t : Nat} {ic : ICode} {E : Env} {H : Heap} (h3 : retOk t (codeE n rec ic E H) = true) {σ : Nat → Int} :
    Wp P tab nt ro ic (At P tab B nt ro μ0 w0 σ E H) (fun ex a w => ex = .ret ∧ ∃ E1 H1, E1.get t = some (.bool true) ∧ At P tab B nt ro μ0 w0 σ E1 H1 a w) := by
  obtain ⟨E1, H1, h1, h2⟩ := retOk_ok h3
  refine (Wp.run hr hd h1).post ?_
  rintro ex a w ⟨rfl, h⟩
  exact ⟨rfl, E1, H1, h2, h⟩

/-- Pieces one behind the other. -/
noncomputable def codeL (n : Nat) (rec : Rec) (l : List ICode) : Env → Heap → Option Out :=
  List.rec (motive := fun _ => Env → Heap → Option Out) (fun env h => some (.mk .normal env h)) (fun c _ ih env h => seqOn ih (codeE n rec c env h)) l
def seqsT (q : ICode) : List ICode → ICode
  | [] => q
  | c :: l => .seq c (seqsT q l)
theorem Wp.seqs {rec : Rec} (hr : RecOk P tab rec) (hd : DrawOk P tab rec) {n : Nat} {q : ICode} {σ : Nat → Int} : ∀ (l l2 : List ICode) {E E1 : Env} {H H1 : Heap}, codeL n rec (l ++ l2) E H = some (.mk .normal E1 H1) →
    (∀ E2 H2, codeL n rec l2 E2 H2 = some (.mk .normal E1 H1) → Wp P tab nt ro q (At P tab B nt ro μ0 w0 σ E2 H2) Q) → Wp P tab nt ro (seqsT q l) (At P tab B nt ro μ0 w0 σ E H) Q
  | [], l2, E, E1, H, H1, he, hq => hq E H he
  | c :: l, l2, E, E1, H, H1, he, hq => by
    have he : seqOn (codeL n rec (l ++ l2)) (codeE n rec c E H) = some (.mk .normal E1 H1) := he
    cases ho : codeE n rec c E H with
    | none => rw [ho] at he; cases he
    | some o =>
      obtain ⟨ex, E2, H2⟩ := o
      rw [ho] at he
      cases ex with
      | normal =>
        refine Wp.seq (M := At P tab B nt ro μ0 w0 σ E2 H2) ((Wp.run hr hd ho).post ?_) (Wp.seqs hr hd l l2 he hq)
        rintro ex a w ⟨rfl, h⟩
        exact ⟨fun _ => h, fun hne => absurd rfl hne⟩
      | exit id => cases he
      | ret => cases he

/-! ### A row of numbers that came in -/
noncomputable def heapArr (k : IntKind) (ln : SE) : Heap := { mem := T.set (T.full 20) 0 (some (.arr k 0 ln)), next := 1 }
theorem simArr {k : IntKind} {ln : SE} (σ : Nat → Int) (w : World) {b o : Nat} {c : Array Value} {t : TypeId} {fr : Nat × Nat} (hb : w.heap[b]? = some (.cells c t fr))
    (hc : ∀ j : Nat, Int.ofNat j < ln.eval σ → c[o + j]? = some (.int k (σ (100 + 0 + j)))) : Sim P tab (muRo σ b o) (heapArr k ln) w := by
  have hfull : ∀ a, a < lim → T.has (T.full (α := AObj) 20) a := fun a ha => T.has_full 20 a (by simp only [lim] at ha; omega)
  have hget : ∀ a, (heapArr k ln).get a = if a = 0 then some (.arr k 0 ln) else none := by
    intro a
    simp only [heapArr, Heap.get, T.get_set (hfull 0 (by decide))]
    split
    · rfl
    · exact T.get_full 20 a
  exact {
    live := fun a l ha hbl => by obtain ⟨_, rfl⟩ := muRo_some ha; simp [Loc.blk] at hbl
    inj := fun a a' l l' b' ha ha' hbl hbl' => by obtain ⟨_, rfl⟩ := muRo_some ha; simp [Loc.blk] at hbl
    ro := fun a b' o' ha => by
      obtain ⟨rfl, e⟩ := muRo_some ha
      cases e
      refine ⟨.arr k 0 ln, by rw [hget, if_pos rfl], ?_⟩
      simp only [ObjRel]
      exact ⟨c, t, fr, hb, hc⟩
    apart := fun a b' o' a' l' ha ha' => by obtain ⟨_, rfl⟩ := muRo_some ha'; simp [Loc.blk]
    dead := fun a ha => by obtain ⟨_, e⟩ := muRo_some ha; cases e
    dom := fun a l ha => by obtain ⟨rfl, _⟩ := muRo_some ha; exact Nat.one_pos
    full := fun a ha => by
      show T.has (T.set (T.full 20) 0 (some (.arr k 0 ln))) a
      exact (T.has_set _ _ _).2 (hfull a ha)
    fresh := fun a ha => by
      have ha : 1 ≤ a := ha
      rw [hget, if_neg (by omega)] }
theorem rel_ssl {σ : Nat → Int} {x : Addr} (hs : x.spot = none) {n c : Nat} {e : SE} {K : SK} (he : Int.ofNat n = e.eval σ) (hK : K.Holds σ) {vs : List AV} {vs' : List Value} (h : VRelL (muRo σ x.block x.off) vs vs') : VRelL (muRo σ x.block x.off) (.ssl 0 0 e K :: vs) (.slice (some x) n c :: vs') :=
  VRelL_cons'.2 ⟨by
    simp only [VRel]
    refine ⟨x, n, c, .ro x.block x.off, rfl, rfl, ?_, he, hK⟩
    obtain ⟨b, o, sp⟩ := x
    simp only at hs; subst hs
    rfl, h⟩
/-- The values of the variables, those of a row from 100 on. -/
def valsR (l zs : List Int) (j : Nat) : Int := if j < 100 then l.getD j 0 else zs.getD (j - 100) 0
theorem holdsF {σ : Nat → Int} {l : List (Int × Int)} {fs : List SE} (h : rngsHold σ 0 l) (hf : ∀ f ∈ fs, 0 ≤ f.eval σ) : SK.Holds σ ⟨l, fs⟩ :=
  ⟨fun i lo hi hr => by have := rngsHold_at h i lo hi hr; rwa [Nat.zero_add] at this, hf⟩
end
end Go.Proofs.YtjjdminaacibeaaGreatDoor.Ev
/- Runs with a table of calls that are known. -/
namespace Go.Proofs.YtjjdminaacibeaaGreatDoor.Ev

section
variable {P : Program} {tab : String → List (TypeId × FuncId)}

abbrev Tbl := AV → List AV → Heap → Option (AV × Heap)
/-- The run, with a table of known calls. -/
noncomputable def runT (Γ : Nat → Option Code') (tbl : Tbl) (fuel : Nat) : Rec :=
  Nat.rec (motive := fun _ => Rec) (fun _ _ _ => none) (fun n ih f args h => Option.rec (motive := fun _ => Option (AV × Heap)) (callE Γ n ih f args h) (fun r => some r) (tbl f args h)) fuel

theorem runT_ok (hP : P.follows .mixedOrders = true) {Γ : Nat → Option Code'} (hΓ : ∀ f c, Γ f = some c → compFunc P tab f = some c) {tbl : Tbl} (ht : RecOk P tab tbl) : ∀ n, RecOk P tab (runT Γ tbl n)
  | 0 => by intro fv args h v h' he; cases he
  | n + 1 => by
    have ih := runT_ok hP hΓ ht n
    intro fv args h v h' he
    have he : Option.rec (motive := fun _ => Option (AV × Heap)) (callE Γ n (runT Γ tbl n) fv args h) (fun r => some r) (tbl fv args h) = some (v, h') := he
    cases hb : tbl fv args h with
    | none => rw [hb] at he; exact callE_sound ih (draw_sound hP ih) hΓ n fv args h v h' he
    | some r => rw [hb] at he; have he : some r = some (v, h') := he; cases he; exact ht fv args h v h' hb

/-- A known call that writes nothing that was there: the heap stays as it was. -/
theorem goes_below {μ : Mu} {h : Heap} {w w' : World} (hs : Sim P tab μ h w) (b : Go.RowKit.Below w.heap.size w w') : Goes P tab μ h w μ h w' := by
  obtain ⟨b1, b2, b3, b4, b5⟩ := b
  exact {
    ext := .refl _
    sim := {
      live := fun a l ha hl => let ⟨ob, k1, k2⟩ := hs.live a l ha hl; ⟨ob, k1, k2.mono (.refl _) (fun b hb => b5 b (hs.seen_lt ha hb))⟩
      inj := hs.inj
      ro := fun a b o ha => let ⟨ob, k1, k2⟩ := hs.ro a b o ha; ⟨ob, k1, k2.mono (.refl _) (fun b hb => b5 b (hs.seen_lt ha hb))⟩
      apart := hs.apart, dead := hs.dead, dom := hs.dom, full := hs.full, fresh := hs.fresh }
    size := b4
    cfr := fun b hb hn => ⟨b5 b hb, hn⟩
    afr := fun a _ hn => ⟨rfl, hn⟩
    next := Nat.le_refl _
    os := b1
    output := b3
    tape := b2 }

theorem Wp.scope {nt : Nat} {ro : Option Nat} {x : ICode} {S : Act → World → Prop} {Q : Exit' → Act → World → Prop} (hx : Wp P tab nt ro x S Q) : Wp P tab nt ro (.scope x) S Q := by
  intro c hc hn a w hs
  cases c with
  | scope cx =>
    simp only [compCode, ICode.scope.injEq] at hc
    refine wpIn_scope (wpIn_mono (hx cx hc hn a w hs) ?_)
    rintro e a1 w1 ⟨ex, rfl, h1⟩
    cases ex <;> exact ⟨_, rfl, h1⟩
  | cond c x y => simp only [compCode] at hc; split at hc <;> cases hc
  | rangeFunc f p x y => simp only [compCode] at hc; repeat' split at hc <;> try cases hc
  | _ => simp only [compCode] at hc; cases hc

theorem enter_ok {f : FuncId} {fi : IFunc} (hc : compFunc P tab f = some (.fn fi)) (args' : Array Value) (w : World) : (callFunc f args').run P w = .ok (.enter f args') w := by
  unfold compFunc at hc
  split at hc <;> try (cases hc; done)
  rename_i fn hfn
  split at hc
  · rename_i c hbody
    split at hc <;> try (cases hc; done)
    rename_i hcond
    simp only [Bool.or_eq_true, beq_iff_eq, not_or] at hcond
    obtain ⟨hname, _⟩ := hcond
    unfold callFunc
    simp only [Sem.run_bind, run_program, Result.andThen_ok, hfn]
    rw [if_neg (by simpa using hname), if_neg (by simp [hbody])]
    rfl
  · split at hc
    · cases hc
    · cases hc

/-! ### A closure over a row and a slice of like elements, that is called with a loop's yield -/
/-- What such a call sees: two rows, and the row of the slice's elements. -/
noncomputable def seen3 (c0 : List AV) (off n sz : Nat) (pat : List AV) (cnt : Nat) : List (Nat × AObj) :=
  [(0, .ro c0), (1, .ro [.slice (some (2, off)) n n 0]), (2, .rrle sz [(pat, cnt)])]
def mu3 (σ : Nat → Int) (l0 l1 l2 : Nat × Nat) : Mu :=
  ⟨fun a => if a = 0 then some (.ro l0.1 l0.2) else if a = 1 then some (.ro l1.1 l1.2) else if a = 2 then some (.ro l2.1 l2.2) else if a = 3 then some .dead else none, σ⟩
/-- Does the heap hold them at S and T? -/
noncomputable def holds3 (c0 : List AV) (off n sz : Nat) (pat : List AV) (cnt : Nat) (h : Heap) (S T : Nat) : Bool :=
  match rowAt h S, rowAt h T with
  | some cs, some [.slice (some (X, o)) m c 0] => (match h.get X with
    | some (.rle z [(p, k)]) => AV.beqL cs c0 && Nat.beq o off && Nat.beq m n && Nat.beq c n && Nat.beq z sz && AV.beqL p pat && Nat.beq k cnt
    | _ => false)
  | _, _ => false
noncomputable def tbl3 (f : Nat) (c0 : List AV) (off n sz : Nat) (pat : List AV) (cnt : Nat) : Tbl := fun fv args h =>
  match fv with
  | .func (.func g) [] [.ptr (some (S, 0)), .ptr (some (T, 0))] => bcase (Nat.beq g f) (match args with
    | [.func (.yield _) [] []] => bcase (holds3 c0 off n sz pat cnt h S T) (some (.tuple [], h)) none
    | _ => none) none
  | _ => none

theorem tbl3_ok {f : FuncId} {fi : IFunc} (hc : compFunc P tab f = some (.fn fi)) {c0 : List AV} {off n sz : Nat} {pat : List AV} {cnt : Nat} (h0 : AV.lowL 0 c0 = true) (hp : AV.lowL 0 pat = true)
    (hcall : ∀ (σ : Nat → Int) (l0 l1 l2 : Nat × Nat) (w : World) (args' : Array Value), Sim P tab (mu3 σ l0 l1 l2) (mkHeap (seen3 c0 off n sz pat cnt) 4) w → VRelL (mu3 σ l0 l1 l2) [.func (.yield 3) [] [], .ptr (some (0, 0)), .ptr (some (1, 0))] args'.toList →
      Calls P f args' w fun e w' => e = .returned (.tuple #[]) ∧ Go.RowKit.Below w.heap.size w w') : RecOk P tab (tbl3 f c0 off n sz pat cnt) := by
  intro fv args h v h' he μ w fv' args' hs hfv hv
  unfold tbl3 at he
  split at he <;> try (cases he; done)
  rename_i g S T
  rw [bcase_ite] at he
  split at he <;> try (cases he; done)
  rename_i hg
  have := Nat.eq_of_beq_eq_true hg; subst this
  split at he <;> try (cases he; done)
  rename_i l
  rw [bcase_ite] at he
  split at he <;> try (cases he; done)
  rename_i hh
  simp only [Option.some.injEq, Prod.mk.injEq] at he
  obtain ⟨rfl, rfl⟩ := he
  simp only [VRel] at hfv
  obtain ⟨fs', cs', rfl, k1, k2⟩ := hfv
  have k1 := VRelL_nil.1 k1
  have hfs : fs' = #[] := Array.ext' (by simpa using k1)
  subst hfs
  have hall : VRelL μ [.func (.yield l) [] [], .ptr (some (S, 0)), .ptr (some (T, 0))] (#[] ++ args' ++ cs').toList := by
    simp only [Array.toList_append]
    exact VRelL_append (as := [.func (.yield l) [] []]) (by simpa using hv) k2
  have hsem : (callSem (.func (.func g) #[] cs') args').run P w = (callFunc g (#[] ++ args' ++ cs')).run P w := by
    unfold callSem
    simp only [Deferred.ofValue, Sem.run_bind, Sem.run_pure, Result.andThen_ok, invoke]
  rw [hsem, enter_ok hc]
  refine ⟨?_, fun _ _ _ _ _ _ => ⟨_, _, _, rfl⟩⟩
  simp only [Upon]
  -- the part that is seen
  unfold holds3 at hh
  split at hh <;> try (cases hh; done)
  rename_i cs X o m c hS hT
  split at hh <;> try (cases hh; done)
  rename_i z p k hX
  simp only [Bool.and_eq_true, Nat.beq_eq] at hh
  obtain ⟨⟨⟨⟨⟨⟨q1, q2⟩, q3⟩, q4⟩, q5⟩, q6⟩, q7⟩ := hh
  subst q2; subst q4; subst q3; subst q5; subst q7
  have q1 := AV.beqL_sound _ _ q1; subst q1
  have q6 := AV.beqL_sound _ _ q6; subst q6
  generalize hA : (#[] ++ args' ++ cs' : Array Value) = A at hall ⊢
  obtain ⟨y', t1, e1, r1, hall⟩ := VRelL_cons.1 hall
  obtain ⟨pS, t2, e2, r2, hall⟩ := VRelL_cons.1 hall
  obtain ⟨pT, t3, e3, r3, hall⟩ := VRelL_cons.1 hall
  have := VRelL_nil.1 hall; subst this
  subst e3; subst e2
  simp only [VRel] at r1 r2 r3
  obtain ⟨_, _, by', ly, rfl, _, _⟩ := r1
  obtain ⟨aS, lS, rfl, m1, m2⟩ := r2
  obtain ⟨aT, lT, rfl, m3, m4⟩ := r3
  obtain ⟨bS, oS, eS, cS, tS, frS, rfl, s1, s2, s3, s4, s5⟩ := hs.row_of m1 (rowAt_some hS)
  obtain ⟨bT, oT, eT, cT, tT, frT, rfl, u1, u2, u3, u4, u5⟩ := hs.row_of m3 (rowAt_some hT)
  obtain ⟨_, vT, u6, u7⟩ := u5 0 _ rfl
  simp only [VRel] at u7
  obtain ⟨aX, cX', lX, rfl, x1, x2, x3, x4, x5⟩ := u7
  have x4 := x4 trivial; have x4 := x4.symm; subst x4
  cases lX with
  | obj b => obtain ⟨ob, y1, y2⟩ := hs.live X _ x1 rfl; rw [hX] at y1; cases y1; exact y2.elim
  | dead => rw [hs.dead X x1] at hX; cases hX
  | ro b o => obtain ⟨ob, y1, y2⟩ := hs.ro X b o x1; rw [hX] at y1; cases y1; exact y2.elim
  | row bX oX eX =>
  obtain ⟨ob, y1, y2⟩ := hs.live X _ x1 rfl
  rw [hX] at y1; cases y1
  simp only [ObjRel] at y2
  obtain ⟨⟨cX, tX, frX, z1, z2, z3, z4, z5⟩, z6, z7⟩ := y2
  have hu : ∀ μ' : Mu, Under 0 μ μ' := fun μ' a l ha => by omega
  have hsim : Sim P tab (mu3 (fun _ => 0) (bS, oS) (bT, oT) (bX, oX)) (mkHeap (seen3 cs o m z p k) 4) w := by
    have hget : ∀ a, (mkHeap (seen3 cs o m z p k) 4).get a = if a + 1 < 2 ^ 20 then lookL (seen3 cs o m z p k) a else none := fun a => Go.Proofs.YtjjdminaacibeaaGreatDoor.Ev.T.build_get 20 (seen3 cs o m z p k) a
    have hlook : ∀ a, 3 ≤ a → lookL (seen3 cs o m z p k) a = none := by
      intro a ha
      simp only [seen3, lookL_cons, lookL_nil]
      rw [if_neg (by omega), if_neg (by omega), if_neg (by omega)]
    have hmu : ∀ a l, mu3 (fun _ => 0) (bS, oS) (bT, oT) (bX, oX) a = some l → (a = 0 ∧ l = .ro bS oS) ∨ (a = 1 ∧ l = .ro bT oT) ∨ (a = 2 ∧ l = .ro bX oX) ∨ (a = 3 ∧ l = .dead) := by
      intro a l ha
      simp only [mu3] at ha
      split at ha
      · rename_i e; simp only [Option.some.injEq] at ha; exact .inl ⟨e, ha.symm⟩
      · split at ha
        · rename_i e; simp only [Option.some.injEq] at ha; exact .inr (.inl ⟨e, ha.symm⟩)
        · split at ha
          · rename_i e; simp only [Option.some.injEq] at ha; exact .inr (.inr (.inl ⟨e, ha.symm⟩))
          · split at ha
            · rename_i e; simp only [Option.some.injEq] at ha; exact .inr (.inr (.inr ⟨e, ha.symm⟩))
            · cases ha
    have hblk : ∀ a l, mu3 (fun _ => 0) (bS, oS) (bT, oT) (bX, oX) a = some l → l.blk = none := by
      intro a l ha
      rcases hmu a l ha with ⟨_, rfl⟩ | ⟨_, rfl⟩ | ⟨_, rfl⟩ | ⟨_, rfl⟩ <;> rfl
    exact {
      live := fun a l ha hl => by rw [hblk a l ha] at hl; cases hl
      inj := fun a a' l l' b ha ha' hb hb' => by rw [hblk a l ha] at hb; cases hb
      ro := fun a b o' ha => by
        rcases hmu a _ ha with ⟨rfl, e⟩ | ⟨rfl, e⟩ | ⟨rfl, e⟩ | ⟨rfl, e⟩
        · cases e
          refine ⟨.ro cs, by rw [hget]; rfl, ?_⟩
          simp only [ObjRel]
          refine ⟨cS, tS, frS, s1, by omega, fun i v hi => ?_⟩
          obtain ⟨w1, v', w2, w3⟩ := s5 i v hi
          exact ⟨w1, v', w2, VRel.under (hu _) _ _ (lowL_mem h0 (List.mem_of_getElem? hi)) w3⟩
        · cases e
          refine ⟨.ro [.slice (some (2, o)) m m 0], by rw [hget]; rfl, ?_⟩
          simp only [ObjRel]
          refine ⟨cT, tT, frT, u1, by simp at u3 ⊢; omega, fun i v hi => ?_⟩
          cases i with
          | succ i => simp at hi
          | zero =>
            simp only [List.getElem?_cons_zero, Option.some.injEq] at hi; subst hi
            refine ⟨rfl, _, u6, ?_⟩
            simp only [VRel]
            obtain ⟨g1, g2, g3, g4⟩ := x5
            exact ⟨aX, m, .ro bX oX, rfl, rfl, Nat.le_refl _, Nat.le_refl _, fun _ => rfl, g1, g2, g3, rfl⟩
        · cases e
          refine ⟨.rrle z [(p, k)], by rw [hget]; rfl, ?_⟩
          simp only [ObjRel]
          refine ⟨⟨cX, tX, frX, z1, fun i v hi => ?_⟩, z6, z7⟩
          obtain ⟨w1, v', w2, w3⟩ := z5 i v hi
          refine ⟨w1, v', w2, VRel.under (hu _) _ _ ?_ w3⟩
          have hm := List.mem_of_getElem? hi
          simp only [expand, List.append_nil] at hm
          exact lowL_mem hp (repL_mem hm)
        · cases e
      apart := fun a b o' a' l' ha ha' => by rw [hblk a' l' ha']; simp
      dead := fun a ha => by
        rcases hmu a _ ha with ⟨_, e⟩ | ⟨_, e⟩ | ⟨_, e⟩ | ⟨rfl, _⟩
        · cases e
        · cases e
        · cases e
        · rw [hget, if_pos (by decide)]; exact hlook 3 (Nat.le_refl _)
      dom := fun a l ha => by
        show a < 4
        rcases hmu a l ha with ⟨rfl, _⟩ | ⟨rfl, _⟩ | ⟨rfl, _⟩ | ⟨rfl, _⟩ <;> decide
      full := fun a ha => Go.Proofs.YtjjdminaacibeaaGreatDoor.Ev.T.build_has 20 (seen3 cs o m z p k) a (by simp only [lim] at ha; omega)
      fresh := fun a ha => by
        have ha : 4 ≤ a := ha
        rw [hget]
        split
        · exact hlook a (by omega)
        · rfl }
  have hrel : VRelL (mu3 (fun _ => 0) (bS, oS) (bT, oT) (bX, oX)) [.func (.yield 3) [] [], .ptr (some (0, 0)), .ptr (some (1, 0))] A.toList := by
    rw [e1]
    refine VRelL_cons'.2 ⟨?_, VRelL_cons'.2 ⟨?_, VRelL_cons'.2 ⟨?_, VRelL_nil.2 rfl⟩⟩⟩
    · simp only [VRel]; exact ⟨trivial, trivial, by', .dead, rfl, rfl, trivial⟩
    · simp only [VRel]; exact ⟨aS, .ro bS oS, rfl, rfl, m2⟩
    · simp only [VRel]; exact ⟨aT, .ro bT oT, rfl, rfl, m4⟩
  refine CallsIn.mono ((callsIn_wide (n := 0)).2 (hcall (fun _ => 0) (bS, oS) (bT, oT) (bX, oX) w A hsim hrel)) ?_
  intro e w' hR
  obtain ⟨rfl, hb⟩ := hR
  exact ⟨μ, goes_below hs hb, by simp only [VRel]; exact ⟨#[], rfl, VRelL_nil.2 rfl⟩⟩
end
end Go.Proofs.YtjjdminaacibeaaGreatDoor.Ev
