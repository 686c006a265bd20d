/- A verified evaluator of the model's code, part 2: what it is, and that its runs are the model's runs. -/
import Derived.Laws.Append
import Derived.Laws.BytesString
import Derived.Laws.Strings
import Derived.Lib.Strings
import GoSem.Dispatch
import Derived.Test.YtjjdminaacibeaaGreatDoorEv1
/- The operations without memory, against the model. -/
namespace Go.Proofs.YtjjdminaacibeaaGreatDoor.Ev

/-! ### Numbers -/
theorem wrapF_eq (k : IntKind) (n : Int) : wrapF k n = k.wrap n := by
  unfold wrapF
  split
  · split
    · rename_i a h
      have h' := Nat.le_of_ble_eq_true h
      simp only [IntKind.wrap, IntKind.bits, IntKind.signed]
      simp
      omega
    · rfl
  · split
    · rename_i a h
      have h' := Nat.le_of_ble_eq_true h
      simp only [IntKind.wrap, IntKind.bits, IntKind.signed]
      simp
      omega
    · rfl
  · split
    · rename_i a h
      have h' := Nat.le_of_ble_eq_true h
      simp only [IntKind.wrap, IntKind.bits, IntKind.signed]
      simp
      omega
    · rfl
  · simp only [IntKind.wrap, IntKind.bits, IntKind.signed]; simp; rfl
  · simp only [IntKind.wrap, IntKind.bits, IntKind.signed]; simp; rfl
  · simp only [IntKind.wrap, IntKind.bits, IntKind.signed]; simp; rfl
  · simp only [IntKind.wrap, IntKind.bits, IntKind.signed]; simp; rfl
  · rfl

theorem wrap_mod (k : IntKind) (n : Nat) : k.wrap ((n % 2 ^ k.bits : Nat) : Int) = k.wrap (n : Int) := by
  unfold IntKind.wrap
  simp

theorem bits_nat (k : IntKind) (a : Nat) : (BitVec.ofInt k.bits (a : Int)).toNat = a % 2 ^ k.bits := by
  simp

theorem bitsAV_eq (op : BinOp) (k : IntKind) (x y : Int) : bitsAV op k x y = bitsSlow op k x y := by
  unfold bitsAV
  split
  · rename_i a b
    simp only [bitsSlow, wrapF_eq]
    congr 2
    rw [BitVec.toNat_and]
    erw [bits_nat, bits_nat]
    rw [← Nat.and_mod_two_pow, wrap_mod]; rfl
  · rename_i a b
    simp only [bitsSlow, wrapF_eq]
    congr 2
    rw [BitVec.toNat_or]
    erw [bits_nat, bits_nat]
    rw [← Nat.or_mod_two_pow, wrap_mod]; rfl
  · rename_i a b
    simp only [bitsSlow, wrapF_eq]
    congr 2
    rw [BitVec.toNat_xor]
    erw [bits_nat, bits_nat]
    rw [← Nat.xor_mod_two_pow, wrap_mod]; rfl
  · rfl

/-! ### Binary operations on numbers -/
section
variable {P : Program}

theorem run_eqGuard_int (op : BinOp) (t : TypeId) (x y : Operand) (k j : IntKind) (a b : Int) (w : World) :
    (eqGuard op t x y (.int k a) (.int j b)).run P w = .ok () w := by
  unfold eqGuard; cases op <;> rfl
theorem run_eqGuard_str (op : BinOp) (t : TypeId) (x y : Operand) (a b : ByteArray) (w : World) :
    (eqGuard op t x y (.string a) (.string b)).run P w = .ok () w := by
  unfold eqGuard; cases op <;> rfl

theorem both_some {op : BinOp} {f : IntKind → Int → Int → Option AV} {x y v : AV} (hi : ∃ k a j b, x = .int k a ∧ y = .int j b) (h : both op f x y = some v) :
    ∃ k a b, x = .int k a ∧ y = .int k b ∧ f k a b = some v := by
  obtain ⟨k, a, j, b, rfl, rfl⟩ := hi
  simp only [both] at h
  rw [kEq_eq] at h
  by_cases e : k = j
  · subst e; simp at h; exact ⟨k, a, b, rfl, rfl, h⟩
  · simp [e] at h

theorem shiftN_some {op : BinOp} {f : IntKind → Int → Nat → Option AV} {x y v : AV} (hi : ∃ k a j b, x = .int k a ∧ y = .int j b) (h : shiftN op f x y = some v) :
    ∃ k a j n, x = .int k a ∧ y = .int j (Int.ofNat n) ∧ f k a (Nat.min n k.bits) = some v := by
  obtain ⟨k, a, j, b, rfl, rfl⟩ := hi
  cases b with
  | ofNat n => exact ⟨k, a, j, n, rfl, rfl, h⟩
  | negSucc n => simp [shiftN] at h

theorem shift_nonneg (n : Nat) : ¬ ((Int.ofNat n) < 0) := by simp

theorem binIntC_sound {op : BinOp} {x y v : AV} (hi : ∃ k a j b, x = .int k a ∧ y = .int j b) (h : binIntAV op x y = some v) (w : World) (t : TypeId) :
    ∃ k a j b v', x = .int k a ∧ y = .int j b ∧ (binOp op t (.int k a) (.int j b)).run P w = .ok v' w ∧ ∀ μ, VRel μ v v' := by
  cases op <;> simp only [binIntAV] at h
  case shl =>
    obtain ⟨k, a, j, n, rfl, rfl, h2⟩ := shiftN_some hi h
    refine ⟨k, a, j, Int.ofNat n, .int k (k.wrap (a * 2 ^ (min n k.bits))), rfl, rfl, ?_, ?_⟩
    · show (Op.shift .shl k a j (Int.ofNat n)).run P w = _
      unfold Op.shift
      rw [if_neg (shift_nonneg n)]
      rfl
    · intro μ
      cases a with
      | ofNat a =>
        simp only [shlAV, Option.some.injEq] at h2; subst h2
        simp only [VRel, wrapF_eq]
        have e : Int.ofNat a * 2 ^ (min n k.bits) = Int.ofNat (Nat.mul a (Nat.pow 2 (Nat.min n k.bits))) := by
          show Int.ofNat a * 2 ^ (min n k.bits) = ((a * 2 ^ (min n k.bits) : Nat) : Int)
          rw [Int.natCast_mul, Int.natCast_pow]; rfl
        rw [e]
      | negSucc a => simp only [shlAV, Option.some.injEq] at h2; subst h2; simp only [VRel]
  case shr =>
    obtain ⟨k, a, j, n, rfl, rfl, h2⟩ := shiftN_some hi h
    refine ⟨k, a, j, Int.ofNat n, .int k (a.fdiv (2 ^ (min n k.bits))), rfl, rfl, ?_, ?_⟩
    · show (Op.shift .shr k a j (Int.ofNat n)).run P w = _
      unfold Op.shift
      rw [if_neg (shift_nonneg n)]
      rfl
    · intro μ
      cases a with
      | ofNat a =>
        simp only [shrAV, Option.some.injEq] at h2; subst h2
        simp only [VRel]
        congr 1
        show (Int.ofNat a).fdiv (2 ^ (min n k.bits)) = Int.ofNat (a / 2 ^ (min n k.bits))
        rw [Int.fdiv_eq_ediv_of_nonneg _ (by exact Int.le_of_lt (Int.pow_pos (by decide)))]
        simp
      | negSucc a => simp only [shrAV, Option.some.injEq] at h2; subst h2; simp only [VRel]
  all_goals
    obtain ⟨k, a, b, rfl, rfl, h2⟩ := both_some hi h
  case add => simp only [fAdd, Option.some.injEq] at h2; subst h2; exact ⟨k, a, k, b, _, rfl, rfl, by simp only [binOp, ne_eq, not_true_eq_false, if_false]; rfl, fun μ => by simp only [VRel, wrapF_eq]; rfl⟩
  case sub => simp only [fSub, Option.some.injEq] at h2; subst h2; exact ⟨k, a, k, b, _, rfl, rfl, by simp only [binOp, ne_eq, not_true_eq_false, if_false]; rfl, fun μ => by simp only [VRel, wrapF_eq]; rfl⟩
  case mul => simp only [fMul, Option.some.injEq] at h2; subst h2; exact ⟨k, a, k, b, _, rfl, rfl, by simp only [binOp, ne_eq, not_true_eq_false, if_false]; rfl, fun μ => by simp only [VRel, wrapF_eq]; rfl⟩
  case quo =>
    simp only [quoAV, iEq_eq] at h2
    by_cases e : b = Int.ofNat 0
    · simp [e] at h2
    · simp only [e, decide_false, Option.some.injEq] at h2; subst h2
      exact ⟨k, a, k, b, _, rfl, rfl, by simp only [binOp, ne_eq, not_true_eq_false, if_false, Op.intDiv]; rw [if_neg (show ¬ b = 0 from e)]; rfl, fun μ => by simp only [VRel, wrapF_eq]⟩
  case rem =>
    simp only [remAV, iEq_eq] at h2
    by_cases e : b = Int.ofNat 0
    · simp [e] at h2
    · simp only [e, decide_false, Option.some.injEq] at h2; subst h2
      exact ⟨k, a, k, b, _, rfl, rfl, by simp only [binOp, ne_eq, not_true_eq_false, if_false, Op.intDiv]; rw [if_neg (show ¬ b = 0 from e)]; rfl, fun μ => by simp only [VRel]⟩
  case and => simp only [fBits, bitsAV_eq, bitsSlow, Option.some.injEq] at h2; subst h2; exact ⟨k, a, k, b, _, rfl, rfl, by simp only [binOp, ne_eq, not_true_eq_false, if_false]; rfl, fun μ => by simp only [VRel]⟩
  case or => simp only [fBits, bitsAV_eq, bitsSlow, Option.some.injEq] at h2; subst h2; exact ⟨k, a, k, b, _, rfl, rfl, by simp only [binOp, ne_eq, not_true_eq_false, if_false]; rfl, fun μ => by simp only [VRel]⟩
  case xor => simp only [fBits, bitsAV_eq, bitsSlow, Option.some.injEq] at h2; subst h2; exact ⟨k, a, k, b, _, rfl, rfl, by simp only [binOp, ne_eq, not_true_eq_false, if_false]; rfl, fun μ => by simp only [VRel]⟩
  case andNot => simp only [fBits, bitsAV_eq, bitsSlow, Option.some.injEq] at h2; subst h2; exact ⟨k, a, k, b, _, rfl, rfl, by simp only [binOp, ne_eq, not_true_eq_false, if_false]; rfl, fun μ => by simp only [VRel]⟩
  case eql => simp only [fEql, iEq_eq, Option.some.injEq] at h2; subst h2; exact ⟨k, a, k, b, _, rfl, rfl, by simp only [binOp, ne_eq, not_true_eq_false, if_false]; rfl, fun μ => by simp only [VRel]; rfl⟩
  case neq => simp only [fNeq, iEq_eq, Option.some.injEq] at h2; subst h2; exact ⟨k, a, k, b, _, rfl, rfl, by simp only [binOp, ne_eq, not_true_eq_false, if_false]; rfl, fun μ => by simp only [VRel]; rfl⟩
  case lss => simp only [fLss, iLe_eq, Option.some.injEq] at h2; subst h2; exact ⟨k, a, k, b, _, rfl, rfl, by simp only [binOp, ne_eq, not_true_eq_false, if_false]; rfl, fun μ => by simp only [VRel]; congr 1; rw [Bool.eq_iff_iff]; simp⟩
  case leq => simp only [fLeq, iLe_eq, Option.some.injEq] at h2; subst h2; exact ⟨k, a, k, b, _, rfl, rfl, by simp only [binOp, ne_eq, not_true_eq_false, if_false]; rfl, fun μ => by simp only [VRel]⟩
  case gtr => simp only [fGtr, iLe_eq, Option.some.injEq] at h2; subst h2; exact ⟨k, a, k, b, _, rfl, rfl, by simp only [binOp, ne_eq, not_true_eq_false, if_false]; rfl, fun μ => by simp only [VRel]; congr 1; rw [Bool.eq_iff_iff]; simp⟩
  case geq => simp only [fGeq, iLe_eq, Option.some.injEq] at h2; subst h2; exact ⟨k, a, k, b, _, rfl, rfl, by simp only [binOp, ne_eq, not_true_eq_false, if_false]; rfl, fun μ => by simp only [VRel]⟩

theorem both_cases {op : BinOp} {f : IntKind → Int → Int → Option AV} {x y v : AV} (h : both op f x y = some v) : (∃ k a j b, x = .int k a ∧ y = .int j b) ∨ symBin op x y = some v := by
  unfold both at h
  split at h
  · split at h
    · exact .inl ⟨_, _, _, _, rfl, rfl⟩
    · exact .inr h
  · exact .inr h
theorem shiftN_cases {op : BinOp} {f : IntKind → Int → Nat → Option AV} {x y v : AV} (h : shiftN op f x y = some v) : (∃ k a j b, x = .int k a ∧ y = .int j b) ∨ symShift op x y = some v := by
  unfold shiftN at h
  split at h
  · split at h
    · exact .inl ⟨_, _, _, _, rfl, rfl⟩
    · cases h
  · exact .inr h
theorem binInt_cases {op : BinOp} {x y v : AV} (h : binIntAV op x y = some v) : (∃ k a j b, x = .int k a ∧ y = .int j b) ∨ symBin op x y = some v ∨ symShift op x y = some v := by
  cases op <;> simp only [binIntAV] at h
  case shl => rcases shiftN_cases h with h | h; exact .inl h; exact .inr (.inr h)
  case shr => rcases shiftN_cases h with h | h; exact .inl h; exact .inr (.inr h)
  all_goals rcases both_cases h with h | h; exact .inl h; exact .inr (.inl h)

theorem symBin_ok {σ : Nat → Int} {op : BinOp} {x y v : AV} (h : symBin op x y = some v) (hx : x.Known σ) (hy : y.Known σ) :
    ∃ k a j b, x.conc σ = .int k a ∧ y.conc σ = .int j b ∧ binIntAV op (.int k a) (.int j b) = some (v.conc σ) ∧ v.Known σ := by
  unfold symBin at h
  split at h <;> try (cases h; done)
  rename_i k j a b K hs
  split at h <;> try (cases h; done)
  rename_i hk
  rw [kEq_eq] at hk
  have hk := of_decide_eq_true hk; subst hk
  obtain ⟨h1, h2, hK⟩ := symSides_ok hs hx hy
  refine ⟨k, _, k, _, h1, h2, ?_⟩
  have hkk : kEq k k = true := by rw [kEq_eq]; simp
  unfold symPlain at h
  cases op <;> simp only at h <;> try (cases h; done)
  case add => obtain ⟨e1, e2⟩ := symMk_ok hK h; exact ⟨by simp only [binIntAV, both, hkk, fAdd, wrapF_eq, e1, SE.eval]; rfl, e2⟩
  case sub => obtain ⟨e1, e2⟩ := symMk_ok hK h; exact ⟨by simp only [binIntAV, both, hkk, fSub, wrapF_eq, e1, SE.eval]; rfl, e2⟩
  case eql => obtain ⟨r, e1, rfl⟩ := symBool_ok h; have := SK.eq_ok hK e1; subst this; exact ⟨by simp only [binIntAV, both, hkk, fEql, iEq_eq, AV.conc]; rfl, trivial⟩
  case neq => obtain ⟨r, e1, rfl⟩ := symBool_ok h; have := SK.eq_ok hK e1; subst this; exact ⟨by simp only [binIntAV, both, hkk, fNeq, iEq_eq, AV.conc]; rfl, trivial⟩
  case lss => obtain ⟨r, e1, rfl⟩ := symBool_ok h; have := SK.le_ok hK e1; subst this; exact ⟨by simp only [binIntAV, both, hkk, fLss, iLe_eq, AV.conc]; rfl, trivial⟩
  case leq => obtain ⟨r, e1, rfl⟩ := symBool_ok h; have := SK.le_ok hK e1; subst this; exact ⟨by simp only [binIntAV, both, hkk, fLeq, iLe_eq, AV.conc]; rfl, trivial⟩
  case gtr => obtain ⟨r, e1, rfl⟩ := symBool_ok h; have := SK.le_ok hK e1; subst this; exact ⟨by simp only [binIntAV, both, hkk, fGtr, iLe_eq, AV.conc]; rfl, trivial⟩
  case geq => obtain ⟨r, e1, rfl⟩ := symBool_ok h; have := SK.le_ok hK e1; subst this; exact ⟨by simp only [binIntAV, both, hkk, fGeq, iLe_eq, AV.conc]; rfl, trivial⟩

theorem symShift_ok {σ : Nat → Int} {op : BinOp} {x y v : AV} (h : symShift op x y = some v) (hx : x.Known σ) :
    ∃ k a j b, x.conc σ = .int k a ∧ y.conc σ = .int j b ∧ binIntAV op (.int k a) (.int j b) = some (v.conc σ) ∧ v.Known σ := by
  unfold symShift at h
  split at h <;> try (cases h; done)
  rename_i k e K j n
  have hK : K.Holds σ := hx
  refine ⟨k, e.eval σ, j, Int.ofNat n, rfl, rfl, ?_⟩
  split at h
  · rename_i hn
    have hn := Nat.le_of_ble_eq_true hn
    obtain ⟨e1, e2⟩ := symMk_ok hK h
    refine ⟨?_, e2⟩
    have hm : Nat.min n k.bits = n := Nat.min_eq_left hn
    rw [e1]
    simp only [binIntAV, shiftN, hm, SE.eval]
    have hp : (Int.ofNat (Nat.pow 2 n) : Int) = 2 ^ n := by
      show ((2 ^ n : Nat) : Int) = 2 ^ n
      rw [Int.natCast_pow]; rfl
    rw [hp, Int.mul_comm]
    cases e.eval σ with
    | ofNat a =>
      simp only [shlAV, wrapF_eq]
      have e : Int.ofNat a * 2 ^ n = Int.ofNat (Nat.mul a (Nat.pow 2 n)) := by
        show Int.ofNat a * 2 ^ n = ((a * 2 ^ n : Nat) : Int)
        rw [Int.natCast_mul, Int.natCast_pow]; rfl
      rw [e]
    | negSucc a => simp only [shlAV]
  · split at h <;> try (cases h; done)
    rename_i hn _ _ h1 h2
    have hn := Nat.le_of_ble_eq_true hn
    have h1 := SK.sure_ok hK h1
    rw [SE.lin_ok] at h1
    have h2 := of_decide_eq_true (SK.le_ok hK h2).symm
    simp only [SE.eval] at h2
    simp only [Option.some.injEq] at h; subst h
    refine ⟨?_, hK⟩
    have hm : Nat.min n k.bits = n := Nat.min_eq_left hn
    simp only [binIntAV, shiftN, hm, AV.conc, SE.eval]
    obtain ⟨a, ha⟩ := Int.eq_ofNat_of_zero_le h1
    rw [ha] at h2 ⊢
    simp only [shrAV]
    have hlt : a / 2 ^ n < 2 ^ 64 := by
      have : a < 2 ^ 64 := by omega
      exact Nat.lt_of_le_of_lt (Nat.div_le_self _ _) this
    have e : (Int.ofNat a : Int).toNat = a := rfl
    have e2 : ((a : Nat) : Int).toNat = a := rfl
    simp only [e2, Nat.pow_zero, Nat.mul_one, Nat.mod_eq_of_lt hlt]
    rfl
  · cases h

theorem binInt_sound {op : BinOp} {x y v : AV} {μ : Mu} {x' y' : Value} (h : binIntAV op x y = some v) (hx : VRel μ x x') (hy : VRel μ y y') (w : World) (t : TypeId) :
    ∃ k a j b v', x' = .int k a ∧ y' = .int j b ∧ (binOp op t (.int k a) (.int j b)).run P w = .ok v' w ∧ VRel μ v v' := by
  have key : ∃ k a j b v0, x.conc μ.val = .int k a ∧ y.conc μ.val = .int j b ∧ binIntAV op (.int k a) (.int j b) = some v0 ∧ (∀ v', VRel μ v0 v' → VRel μ v v') := by
    obtain ⟨hx1, hx2⟩ := VRel_conc.1 hx
    obtain ⟨hy1, hy2⟩ := VRel_conc.1 hy
    rcases binInt_cases h with ⟨k, a, j, b, rfl, rfl⟩ | h | h
    · exact ⟨k, a, j, b, v, rfl, rfl, h, fun _ h => h⟩
    · obtain ⟨k, a, j, b, e1, e2, e3, e4⟩ := symBin_ok h hx2 hy2
      exact ⟨k, a, j, b, _, e1, e2, e3, fun v' h => VRel_conc.2 ⟨h, e4⟩⟩
    · obtain ⟨k, a, j, b, e1, e2, e3, e4⟩ := symShift_ok h hx2
      exact ⟨k, a, j, b, _, e1, e2, e3, fun v' h => VRel_conc.2 ⟨h, e4⟩⟩
  obtain ⟨k, a, j, b, v0, e1, e2, e3, e4⟩ := key
  obtain ⟨hx1, _⟩ := VRel_conc.1 hx
  obtain ⟨hy1, _⟩ := VRel_conc.1 hy
  rw [e1] at hx1; rw [e2] at hy1
  simp only [VRel] at hx1 hy1
  obtain ⟨k2, a2, j2, b2, v', f1, f2, f3, f4⟩ := binIntC_sound (P := P) ⟨k, a, j, b, rfl, rfl⟩ e3 w t
  cases f1; cases f2
  exact ⟨k, a, j, b, v', hx1, hy1, f3, e4 v' (f4 μ)⟩

/-! ### Strings -/
theorem toList_mk (s : List UInt8) : (ByteArray.mk s.toArray).toList = s := by
  rw [ByteArray.toList_eq]

theorem size_mk (s : List UInt8) : (ByteArray.mk s.toArray).size = s.length := by simp [ByteArray.size]

theorem bytesLt_eq (x y : List UInt8) : bytesLt x y = Op.bytesLess x y := by
  induction x generalizing y with
  | nil => cases y <;> rfl
  | cons a x ih => cases y with
    | nil => rfl
    | cons b y => simp only [bytesLt, Op.bytesLess, ih]

theorem binStr_sound {op : BinOp} {x y v : AV} (h : binStrAV op x y = some v) (w : World) (t : TypeId) :
    ∃ a b v', x = .str a ∧ y = .str b ∧ (binOp op t (.string ⟨a.toArray⟩) (.string ⟨b.toArray⟩)).run P w = .ok v' w ∧ ∀ μ, VRel μ v v' := by
  cases x <;> try (simp [binStrAV] at h; done)
  rename_i a
  cases y <;> try (simp [binStrAV] at h; done)
  rename_i b
  simp only [binStrAV] at h
  refine ⟨a, b, ?_⟩
  have hb : ∀ o : BinOp, binOp o t (.string ⟨a.toArray⟩) (.string ⟨b.toArray⟩) = Op.stringOp o ⟨a.toArray⟩ ⟨b.toArray⟩ := by intro o; cases o <;> rfl
  rw [hb]
  unfold Op.stringOp
  rw [toList_mk, toList_mk]
  cases op <;> simp only [binStr] at h <;> try (cases h; done)
  case add =>
    split at h
    · rename_i hc
      have hc' := Nat.le_of_ble_eq_true hc
      simp only [Option.some.injEq] at h; subst h
      refine ⟨_, rfl, rfl, ?_, fun μ => rfl⟩
      rw [size_mk, size_mk, if_neg (by simp [IntKind.max, IntKind.bits, IntKind.signed]; change a.length + b.length ≤ 9223372036854775807 at hc'; omega)]
      simp only [Sem.run_pure]
      congr 2
    · cases h
  all_goals
    simp only [Option.some.injEq, beqBytes_eq, bytesLt_eq] at h
    subst h
    refine ⟨_, rfl, rfl, rfl, fun μ => ?_⟩
    have hd : (a == b) = decide (a = b) := by rw [Bool.eq_iff_iff]; simp
    simp only [VRel, hd]
end
end Go.Proofs.YtjjdminaacibeaaGreatDoor.Ev
/- The operations without memory, against the model: the rest. -/
namespace Go.Proofs.YtjjdminaacibeaaGreatDoor.Ev

section
variable {P : Program} {tab : String → List (TypeId × FuncId)} {μ : Mu}

/-! ### Types -/
theorem run_typeInfo {t : TypeId} {i : TypeInfo} (h : P.info? t = some i) (w : World) : (typeInfo t).run P w = .ok i w := by
  simp [typeInfo, h]
theorem run_sizeOf {t : TypeId} {n : Nat} (h : sizeT P t = some n) (w : World) : (sizeOf t).run P w = .ok n w := by
  unfold sizeT at h
  rw [Option.map_eq_some_iff] at h
  obtain ⟨i, h1, rfl⟩ := h
  simp [sizeOf, run_typeInfo h1]
theorem run_isAgg {t : TypeId} {b : Bool} (h : aggT P t = some b) (w : World) : (isAgg t).run P w = .ok b w := by
  unfold aggT at h
  cases hu : P.underlying t with
  | none => rw [hu] at h; cases h
  | some d =>
    rw [hu] at h
    simp only [isAgg, Sem.run_bind, run_underlying hu, Result.andThen_ok]
    cases d <;> simp at h <;> subst h <;> rfl
theorem run_zeroValue {t : TypeId} {a : AV} (h : zeroT P t = some a) (w : World) : ∃ z, (zeroValue t).run P w = .ok z w ∧ toAV z = some a := by
  unfold zeroT at h
  rw [Option.bind_eq_some_iff] at h
  obtain ⟨z, h1, h2⟩ := h
  rw [Option.bind_eq_some_iff] at h1
  obtain ⟨i, h3, h4⟩ := h1
  refine ⟨z, ?_, h2⟩
  simp [zeroValue, run_typeInfo h3, h4]
theorem run_zeros {t : TypeId} {zs : List AV} (h : zerosT P t = some zs) (w : World) : ∃ z, (zeroValue t).run P w = .ok z w ∧ (∀ μ, VRelL μ zs z.cells.toList) ∧ zs.all AV.scalar = true ∧ sizeT P t = some zs.length := by
  unfold zerosT at h
  split at h
  · rename_i z n hz hn
    split at h
    · rename_i c hc
      split at h
      · rename_i hl
        simp only [Option.some.injEq] at h; subst h
        obtain ⟨z', h1, h2⟩ := run_zeroValue hz w
        have h3 := fun μ => VRel_cells (toAV_rel μ h2) hc
        exact ⟨z', h1, fun μ => (h3 μ).1, (h3 ⟨fun _ => none, fun _ => 0⟩).2, by rw [hn, hl]⟩
      · cases h
    · cases h
  · cases h

/-! ### Inversion of the relation -/
theorem VRel_int {k : IntKind} {n : Int} {v : Value} : VRel μ (.int k n) v ↔ v = .int k n := by simp [VRel]
theorem VRel_bool {b : Bool} {v : Value} : VRel μ (.bool b) v ↔ v = .bool b := by simp [VRel]
theorem VRel_str {s : List UInt8} {v : Value} : VRel μ (.str s) v ↔ v = .string ⟨s.toArray⟩ := by simp [VRel]

theorem natOf_some {v : AV} {n : Nat} (h : natOf v = some n) : ∃ k, v = .int k (Int.ofNat n) := by
  unfold natOf at h
  split at h
  · simp at h; subst h; exact ⟨_, rfl⟩
  · cases h

theorem VRelL_map_cons {vs : List AV} {x : Operand} {xs : List Operand} {ρ : Operand → Value} {v : AV} (h : VRelL μ (v :: vs) ((x :: xs).map ρ)) : VRel μ v (ρ x) ∧ VRelL μ vs (xs.map ρ) := VRelL_cons'.1 h

theorem VRelL_one {v : AV} {vs : List Value} (h : VRelL μ [v] vs) : ∃ v', vs = [v'] ∧ VRel μ v v' := by
  obtain ⟨b, bs, rfl, h1, h2⟩ := VRelL_cons.1 h
  rw [VRelL_nil.1 h2]; exact ⟨b, rfl, h1⟩
theorem VRelL_two {u v : AV} {vs : List Value} (h : VRelL μ [u, v] vs) : ∃ u' v', vs = [u', v'] ∧ VRel μ u u' ∧ VRel μ v v' := by
  obtain ⟨b, bs, rfl, h1, h2⟩ := VRelL_cons.1 h
  obtain ⟨v', rfl, h3⟩ := VRelL_one h2
  exact ⟨b, v', rfl, h1, h3⟩
theorem VRelL_three {u v x : AV} {vs : List Value} (h : VRelL μ [u, v, x] vs) : ∃ u' v' x', vs = [u', v', x'] ∧ VRel μ u u' ∧ VRel μ v v' ∧ VRel μ x x' := by
  obtain ⟨b, bs, rfl, h1, h2⟩ := VRelL_cons.1 h
  obtain ⟨v', x', rfl, h3, h4⟩ := VRelL_two h2
  exact ⟨b, v', x', rfl, h1, h3, h4⟩

/-! ### Slices -/
theorem run_sliceBound {v : Value} {k : IntKind} {n y : Nat} (hv : v = .int k (Int.ofNat n)) (hn : n ≤ y) (c : BoundsCode) (w : World) : (Instr.sliceBound v y c).run P w = .ok n w := by
  subst hv
  simp only [Instr.sliceBound, asIntOf, Sem.run_bind, Sem.run_pure, Result.andThen_ok]
  rw [if_pos ⟨by simp, by simp; exact hn⟩]
  simp

/-- The bounds that were given. -/
def boundsRel (lo : Option Nat) (lo' : Option Value) : Prop :=
  match lo, lo' with
  | none, none => True
  | some n, some v => ∃ k, v = .int k (Int.ofNat n)
  | _, _ => False

theorem optArgs_rel {lo hi : Bool} {vs : List AV} {l h : Option Nat} (e : optArgs lo hi vs = some (l, h)) {los his : List Value} (hlo : los.length = lo.toNat) (hhi : his.length = hi.toNat)
    (hv : VRelL μ vs (los ++ his)) : boundsRel l los.head? ∧ boundsRel h his.head? := by
  unfold optArgs at e
  split at e
  · simp at e; obtain ⟨rfl, rfl⟩ := e
    have : los = [] := List.length_eq_zero_iff.1 hlo
    have : his = [] := List.length_eq_zero_iff.1 hhi
    subst los his; exact ⟨trivial, trivial⟩
  · rename_i a
    rw [Option.map_eq_some_iff] at e
    obtain ⟨n, h1, h2⟩ := e
    simp at h2; obtain ⟨rfl, rfl⟩ := h2
    have : his = [] := List.length_eq_zero_iff.1 hhi
    subst his
    obtain ⟨v', h3, h4⟩ := VRelL_one hv
    simp at h3; subst h3
    obtain ⟨k, rfl⟩ := natOf_some h1
    exact ⟨⟨k, VRel_int.1 h4⟩, trivial⟩
  · rename_i a
    rw [Option.map_eq_some_iff] at e
    obtain ⟨n, h1, h2⟩ := e
    simp at h2; obtain ⟨rfl, rfl⟩ := h2
    have : los = [] := List.length_eq_zero_iff.1 hlo
    subst los
    obtain ⟨v', h3, h4⟩ := VRelL_one hv
    simp at h3; subst h3
    obtain ⟨k, rfl⟩ := natOf_some h1
    exact ⟨trivial, ⟨k, VRel_int.1 h4⟩⟩
  · rename_i a b
    rw [Option.bind_eq_some_iff] at e
    obtain ⟨n, h1, h2⟩ := e
    rw [Option.map_eq_some_iff] at h2
    obtain ⟨m, h3, h4⟩ := h2
    simp at h4; obtain ⟨rfl, rfl⟩ := h4
    obtain ⟨u', v', h5, h6, h7⟩ := VRelL_two hv
    obtain ⟨k, rfl⟩ := natOf_some h1
    obtain ⟨k', rfl⟩ := natOf_some h3
    match los, hlo with
    | [x], _ =>
      match his, hhi with
      | [y], _ =>
        simp at h5; obtain ⟨rfl, rfl⟩ := h5
        exact ⟨⟨k, VRel_int.1 h6⟩, ⟨k', VRel_int.1 h7⟩⟩
  · cases e

theorem run_sliceBounds {isS : Bool} {len cap : Nat} {lo hi : Option Nat} {lo' hi' : Option Value} (h1 : boundsRel lo lo') (h2 : boundsRel hi hi') (hl : lo.getD 0 ≤ hi.getD len) (hh : hi.getD len ≤ cap) (w : World) :
    (Instr.sliceBounds isS len cap lo' hi' none).run P w = .ok (lo.getD 0, hi.getD len, cap) w := by
  have b1 : ∀ c, (match hi', (none : Option Value) with
    | some v, some _ => Instr.sliceBound v cap .slice3B
    | some v, none => Instr.sliceBound v cap c
    | none, none => pure len
    | none, some _ => stuck "Slice: max without high").run P w = .ok (hi.getD len) w := by
    intro c
    cases hi with
    | none =>
      cases hi' with
      | none => rfl
      | some _ => exact h2.elim
    | some n =>
      cases hi' with
      | none => exact h2.elim
      | some v => obtain ⟨k, hk⟩ := h2; exact run_sliceBound hk hh _ _
  have b2 : ∀ c, (match lo' with
    | some v => Instr.sliceBound v (hi.getD len) c
    | none => pure 0).run P w = .ok (lo.getD 0) w := by
    intro c
    cases lo with
    | none =>
      cases lo' with
      | none => rfl
      | some _ => exact h1.elim
    | some n =>
      cases lo' with
      | none => exact h1.elim
      | some v => obtain ⟨k, hk⟩ := h1; exact run_sliceBound hk hl _ _
  unfold Instr.sliceBounds
  simp only [Sem.run_bind, Sem.run_pure, Result.andThen_ok]
  have e1 := b1 (if isS then .sliceAcap else .sliceAlen)
  have e2 := b2 (if (none : Option Value).isSome then .slice3C else .sliceB)
  cases hi' with
  | none =>
    simp only [Sem.run_bind] at e1 ⊢
    simp only [e1, Result.andThen_ok]
    cases lo' with
    | none => simp only [Sem.run_bind] at e2 ⊢; simp only [e2, Result.andThen_ok]; rfl
    | some v => simp only [Sem.run_bind] at e2 ⊢; simp only [e2, Result.andThen_ok]; rfl
  | some v =>
    simp only [Sem.run_bind] at e1 ⊢
    simp only [e1, Result.andThen_ok]
    cases lo' with
    | none => simp only [Sem.run_bind] at e2 ⊢; simp only [e2, Result.andThen_ok]; rfl
    | some v => simp only [Sem.run_bind] at e2 ⊢; simp only [e2, Result.andThen_ok]; rfl

theorem isSl_sub {l : Loc} {off c' opn : Nat} {ad : Addr} (h : l.isSl off c' opn ad) (sz k : Nat) (hk : k ≤ c') (opn' : Nat) (ho : opn' ≠ 0 → opn = opn' ∧ opn' = sz) (m : Nat) (_hm : m ≤ c' - k) (hm' : opn' ≠ 0 → m = c' - k) (hz : k = c' → m = 0) :
    l.isSl (off + k * sz) m opn' (if c' = k then ad else ad.add (k * sz)) := by
  cases l with
  | row b o e =>
    obtain ⟨h1, h2, h3, h4⟩ := h
    refine ⟨?_, ?_, ?_, ?_⟩
    · split
      · exact h1
      · unfold Addr.add; split <;> exact h1
    · split
      · exact h2
      · unfold Addr.add; split
        · exact h2
        · rfl
    · intro hp
      rw [if_neg (by omega)]
      have := h3 (by omega)
      unfold Addr.add; split
      · rename_i hz; rw [hz]; exact this
      · simp only [this]; omega
    · intro hp
      obtain ⟨e1, e2⟩ := ho hp
      subst e2
      subst e1
      have h5 := h4 hp
      rw [hm' hp, Nat.sub_mul]
      have := Nat.mul_le_mul_right opn hk
      omega
  | obj b =>
    obtain ⟨h1, h2, h3, h4⟩ := h
    refine ⟨?_, ?_, ?_, ?_⟩
    · split
      · exact h1
      · unfold Addr.add; split <;> exact h1
    · split
      · exact h2
      · unfold Addr.add; split
        · exact h2
        · rfl
    · intro hp
      rw [if_neg (by omega)]
      have := h3 (by omega)
      unfold Addr.add; split
      · rename_i hz; rw [hz]; exact this
      · simp only [this]
    · cases hop : opn' with
      | zero => rfl
      | succ k =>
        obtain ⟨e1, _⟩ := ho (by omega)
        omega
  | ro b o =>
    obtain ⟨h1, h2, h3, h4⟩ := h
    refine ⟨?_, ?_, ?_, ?_⟩
    · split
      · exact h1
      · unfold Addr.add; split <;> exact h1
    · split
      · exact h2
      · unfold Addr.add; split
        · exact h2
        · rfl
    · intro hp
      rw [if_neg (by omega)]
      have := h3 (by omega)
      unfold Addr.add; split
      · rename_i hz; rw [hz]; exact this
      · simp only [this]; omega
    · cases hop : opn' with
      | zero => rfl
      | succ k =>
        obtain ⟨e1, _⟩ := ho (by omega)
        omega
  | dead => trivial
end
end Go.Proofs.YtjjdminaacibeaaGreatDoor.Ev
/- Filling the parts of a struct or of an array. -/
namespace Go.Proofs.YtjjdminaacibeaaGreatDoor.Ev

section
variable {P : Program} {tab : String → List (TypeId × FuncId)} {μ : Mu}

theorem foldl_set (cs : List Value) (j off : Nat) (cells : Array Value) (h : off + j + cs.length ≤ cells.size) (k : Nat) :
    ((cs.zipIdx j).foldl (fun a p => a.setIfInBounds (off + p.2) p.1) cells)[k]? = if off + j ≤ k ∧ k < off + j + cs.length then cs[k - (off + j)]? else cells[k]? := by
  induction cs generalizing j cells with
  | nil => simp; intro h1 h2; omega
  | cons c cs ih =>
    simp only [List.length_cons] at h
    rw [List.zipIdx_cons, List.foldl_cons, ih (j + 1) _ (by simp; omega)]
    simp only [List.length_cons]
    by_cases e : k = off + j
    · subst e
      rw [if_neg (by omega), if_pos (by omega)]
      have : off + j < cells.size := by omega
      simp [this]
    · by_cases h2 : off + (j + 1) ≤ k ∧ k < off + (j + 1) + cs.length
      · rw [if_pos h2, if_pos (by omega)]
        have : k - (off + j) = (k - (off + (j + 1))) + 1 := by omega
        rw [this]; rfl
      · rw [if_neg h2, if_neg (by omega), Array.getElem?_setIfInBounds, if_neg (fun e' => e e'.symm)]

theorem foldl_set_size (cs : List Value) (j off : Nat) (cells : Array Value) :
    ((cs.zipIdx j).foldl (fun a p => a.setIfInBounds (off + p.2) p.1) cells).size = cells.size := by
  induction cs generalizing j cells with
  | nil => rfl
  | cons c cs ih => rw [List.zipIdx_cons, List.foldl_cons, ih]; simp

theorem all_scalar {l : List AV} : l.all AV.scalar = true ↔ ∀ v ∈ l, v.scalar = true := by simp

theorem all_scalar_get {l : List AV} (h : l.all AV.scalar = true) {i : Nat} {v : AV} (hv : l[i]? = some v) : v.scalar = true :=
  all_scalar.1 h v (List.mem_of_getElem? hv)

theorem all_scalar_of_get {l : List AV} (h : ∀ (i : Nat) (v : AV), l[i]? = some v → v.scalar = true) : l.all AV.scalar = true := by
  rw [all_scalar]
  intro v hv
  obtain ⟨i, hi⟩ := List.mem_iff_getElem?.1 hv
  exact h i v hi

theorem write_scalar {l vs r : List AV} {off : Nat} (h : writeL l off vs = some r) (h1 : l.all AV.scalar = true) (h2 : vs.all AV.scalar = true) : r.all AV.scalar = true := by
  refine all_scalar_of_get fun i v hv => ?_
  rw [writeL_get h] at hv
  split at hv
  · exact all_scalar_get h2 hv
  · exact all_scalar_get h1 hv

theorem fill_sound (place : Nat → Option (Nat × Nat)) : ∀ (l : List (Nat × Value)) (ps : List (Nat × Nat)) (vs : List AV) (cells c : List AV) (cells' : Array Value),
    fillL cells ps vs = some c → VRelL μ cells cells'.toList → cells.all AV.scalar = true → F2 (fun i p => place i = some p) (l.map (·.1)) ps → VRelL μ vs (l.map (·.2)) →
    ∃ c', Instr.fill place cells' l = some c' ∧ VRelL μ c c'.toList ∧ c.all AV.scalar = true
  | [], ps, vs, cells, c, cells', h, hc, hs, hp, hv => by
    cases hp
    rw [List.map_nil] at hv
    cases vs with
    | nil => simp only [fillL, Option.some.injEq] at h; subst h; exact ⟨cells', rfl, hc, hs⟩
    | cons v vs => obtain ⟨_, _, h1, _⟩ := VRelL_cons.1 hv; cases h1
  | (i, v') :: l, ps, vs, cells, c, cells', h, hc, hs, hp, hv => by
    cases hp with
    | cons hpi hpr =>
      rename_i p ps
      obtain ⟨off, n⟩ := p
      cases vs with
      | nil => rw [VRelL_nil] at hv; cases hv
      | cons v vs =>
        obtain ⟨hv1, hv2⟩ := VRelL_cons'.1 hv
        simp only [fillL] at h
        split at h
        · rename_i c1 hc1
          unfold fillPart at hc1
          split at hc1
          · rename_i k hk
            split at hc1
            · rename_i hn
              rw [lenL_eq, Nat.beq_eq] at hn
              obtain ⟨hk1, hk2⟩ := VRel_cells hv1 hk
              obtain ⟨hb, _⟩ := writeL_some hc1
              have hl1 := VRelL_length hc
              have hl2 := VRelL_length hk1
              have hsz : v'.cells.size = n := by rw [← hn, hl2]; simp
              have hcs : cells'.size = cells.length := by rw [hl1]; simp
              have hlen : v'.cells.toList.length = k.length := hl2.symm
              have hrel : VRelL μ c1 (v'.cells.toList.zipIdx.foldl (fun a p => a.setIfInBounds (off + p.2) p.1) cells').toList := by
                refine VRelL_of_get ?_ ?_
                · rw [writeL_length hc1, hl1]; simp [foldl_set_size]
                · intro j a ha
                  rw [writeL_get hc1] at ha
                  rw [Array.getElem?_toList, foldl_set _ _ _ _ (by simp at hlen ⊢; omega)]
                  rw [hlen]
                  simp only [Nat.add_zero]
                  split at ha
                  · rename_i hj
                    rw [if_pos hj]
                    obtain ⟨b, h1, h2⟩ := VRelL_get hk1 ha
                    exact ⟨b, by simpa using h1, h2⟩
                  · rename_i hj
                    rw [if_neg hj]
                    obtain ⟨b, h1, h2⟩ := VRelL_get hc ha
                    exact ⟨b, by simpa using h1, h2⟩
              obtain ⟨c', e1, e2, e3⟩ := fill_sound place l ps vs c1 c _ h hrel (write_scalar hc1 hs hk2) hpr hv2
              refine ⟨c', ?_, e2, e3⟩
              simp only [Instr.fill]
              simp only at hpi
              rw [hpi]
              simp only
              rw [if_neg (by simp [hsz]; omega)]
              rw [← e1]
              congr 1
              rw [← Array.foldl_toList]
              simp
            · cases hc1
          · cases hc1
        · cases h

theorem run_mapM_list {α β : Type} (P : Program) (f : α → Sem β) (g : α → β) (w : World) (l : List α) (h : ∀ x ∈ l, (f x).run P w = .ok (g x) w) : (l.mapM f).run P w = .ok (l.map g) w := by
  induction l with
  | nil => rfl
  | cons x l ih =>
    rw [List.mapM_cons]
    simp only [Sem.run_bind, h x (by simp), Result.andThen_ok, ih (fun y hy => h y (by simp [hy])), Sem.run_pure]
    rfl

theorem run_mapM_array {α β : Type} (P : Program) (f : α → Sem β) (g : α → β) (w : World) (l : Array α) (h : ∀ x ∈ l.toList, (f x).run P w = .ok (g x) w) : (l.mapM f).run P w = .ok (l.map g) w := by
  rw [Array.mapM_eq_mapM_toList]
  simp only [Sem.run_map, run_mapM_list P f g w l.toList h, Result.andThen_ok]
  congr 1
  apply Array.ext'
  simp

theorem sizeT_isSome {t : TypeId} (h : (sizeT P t).isSome = true) : sizeT P t = some (P.cellsOf t) := by
  unfold sizeT at h ⊢
  unfold Program.cellsOf
  cases hi : P.info? t with
  | none => rw [hi] at h; simp at h
  | some i => rfl

theorem build_sound {t : TypeId} {parts : Array (Nat × Operand)} {z : List AV} {ps : List (Nat × Nat)} (h1 : zerosT P t = some z) (h2 : partsT P t (parts.toList.map (·.1)) = some ps) (h3 : fieldsOk P t = true)
    {ρ : Operand → Value} {vs : List AV} (hv : VRelL μ vs ((parts.toList.map (·.2)).map ρ)) {v : AV} (he : xBuild z ps vs = some v) (w : World) :
    ∃ v', (Instr.build t (parts.map fun p => (p.1, ρ p.2))).run P w = .ok v' w ∧ VRel μ v v' := by
  obtain ⟨z', e1, e2, e3, e4⟩ := run_zeros h1 w
  unfold xBuild at he
  rw [Option.map_eq_some_iff] at he
  obtain ⟨c, hc, rfl⟩ := he
  have hvs : VRelL μ vs ((parts.toList.map fun p => (p.1, ρ p.2)).map (·.2)) := by
    rw [List.map_map] at hv ⊢; exact hv
  have hidx : (parts.toList.map fun p => (p.1, ρ p.2)).map (·.1) = parts.toList.map (·.1) := by rw [List.map_map]; rfl
  unfold Instr.build
  simp only [Sem.run_bind, e1, Result.andThen_ok]
  have hparts : (parts.map fun p => (p.1, ρ p.2)).toList = parts.toList.map fun p => (p.1, ρ p.2) := by simp
  unfold fieldsOk at h3
  cases hu : P.underlying t with
  | none => rw [hu] at h3; cases h3
  | some d =>
    rw [hu] at h3
    rw [run_underlying hu]
    simp only [Result.andThen_ok]
    cases d <;> try (simp at h3; done)
    case struct fs =>
      simp only at h3 ⊢
      have hm : (fs.mapM fun f => do pure (f.offset, ← sizeOf f.type) : Sem _).run P w = .ok (fs.map fun f => (f.offset, P.cellsOf f.type)) w := by
        refine run_mapM_array P _ _ w fs fun f hf => ?_
        have := sizeT_isSome (List.all_eq_true.1 h3 f hf)
        simp only [Sem.run_bind, run_sizeOf this, Result.andThen_ok, Sem.run_pure]
      rw [Sem.run_bind, hm]
      simp only [Result.andThen_ok, hparts]
      have hF : ∀ (is : List Nat) (ps : List (Nat × Nat)), partsT P t is = some ps → F2 (fun i p => (fs.map fun f => (f.offset, P.cellsOf f.type))[i]? = some p) is ps := by
        intro is
        induction is with
        | nil => intro ps h; simp [partsT] at h; subst h; exact .nil
        | cons i is ih =>
          intro ps h
          simp only [partsT, hu] at h
          split at h
          · rename_i fs' r heq hr
            cases heq
            split at h
            · rename_i f hf
              rw [Option.map_eq_some_iff] at h
              obtain ⟨n, hn, rfl⟩ := h
              refine .cons ?_ (ih _ hr)
              have : sizeT P f.type = some (P.cellsOf f.type) := sizeT_isSome (by rw [hn]; rfl)
              rw [hn] at this; cases this
              simp [hf]
            · cases h
          · rename_i heq _; cases heq
          · cases h
      obtain ⟨c', f1, f2, f3⟩ := fill_sound (μ := μ) ((fs.map fun f => (f.offset, P.cellsOf f.type))[·]?) _ ps vs z c z'.cells hc (e2 μ) e3 (by rw [hidx]; exact hF _ _ h2) hvs
      rw [f1]
      exact ⟨.agg c', rfl, by simp only [VRel]; exact ⟨c', rfl, f2, f3⟩⟩
    case array n e =>
      simp only at h3 ⊢
      have hsz := sizeT_isSome h3
      simp only [Sem.run_bind, run_sizeOf hsz, Result.andThen_ok, hparts]
      have hF : ∀ (is : List Nat) (ps : List (Nat × Nat)), partsT P t is = some ps → F2 (fun i p => (fun i => some (i * P.cellsOf e, P.cellsOf e)) i = some p) is ps := by
        intro is
        induction is with
        | nil => intro ps h; simp [partsT] at h; subst h; exact .nil
        | cons i is ih =>
          intro ps h
          simp only [partsT, hu] at h
          split at h
          · rename_i heq _; cases heq
          · rename_i n' e' r heq hr
            cases heq
            rw [hsz] at h
            simp at h; subst h
            exact .cons rfl (ih _ hr)
          · cases h
      obtain ⟨c', f1, f2, f3⟩ := fill_sound (μ := μ) (fun i => some (i * P.cellsOf e, P.cellsOf e)) _ ps vs z c z'.cells hc (e2 μ) e3 (by rw [hidx]; exact hF _ _ h2) hvs
      rw [f1]
      exact ⟨.agg c', rfl, by simp only [VRel]; exact ⟨c', rfl, f2, f3⟩⟩
end
end Go.Proofs.YtjjdminaacibeaaGreatDoor.Ev
/- Every operation without memory, against the model. -/
namespace Go.Proofs.YtjjdminaacibeaaGreatDoor.Ev

section
variable {P : Program} {tab : String → List (TypeId × FuncId)} {μ : Mu}

theorem isAt_add {l : Loc} {off : Nat} {ad : Addr} (h : l.isAt off ad) (k : Nat) : l.isAt (off + k) (ad.add k) := by
  cases l with
  | row b o e => simp only [Loc.isAt] at h ⊢; subst h; rw [addr_add, Nat.add_assoc]
  | obj b => simp only [Loc.isAt] at h ⊢; subst h; rw [addr_add]
  | ro b o => simp only [Loc.isAt] at h ⊢; subst h; rw [addr_add, Nat.add_assoc]
  | dead => trivial

theorem isAt_of_isSl {l : Loc} {off c' opn : Nat} {ad : Addr} (h : l.isSl off c' opn ad) (hc : 0 < c') : l.isAt off ad := by
  cases l with
  | row b o e =>
    obtain ⟨h1, h2, h3, _⟩ := h
    have h4 := h3 hc
    obtain ⟨b', o', s⟩ := ad
    simp only at h1 h2 h4
    subst h1; subst h2; subst h4; rfl
  | obj b =>
    obtain ⟨h1, h2, h3, _⟩ := h
    have h4 := h3 hc
    obtain ⟨b', o', s⟩ := ad
    simp only at h1 h2 h4
    subst h1; subst h2; subst h4; rfl
  | ro b o =>
    obtain ⟨h1, h2, h3, _⟩ := h
    have h4 := h3 hc
    obtain ⟨b', o', s⟩ := ad
    simp only at h1 h2 h4
    subst h1; subst h2; subst h4; rfl
  | dead => trivial

theorem idxOf_some {i : AV} {n k : Nat} (h : idxOf i n = some k) : ∃ kd, i = .int kd (Int.ofNat k) ∧ k < n := by
  unfold idxOf at h
  split at h
  · rename_i m hm
    split at h
    · rename_i hlt
      simp at h; subst h
      obtain ⟨kd, rfl⟩ := natOf_some hm
      exact ⟨kd, rfl, by simpa using hlt⟩
    · cases h
  · cases h

theorem part_sound {t : TypeId} {n : Nat} {b : Bool} (h1 : sizeT P t = some n) (h2 : aggT P t = some b) {cs : List AV} {cs' : Array Value} (hc : VRelL μ cs cs'.toList) (hs : cs.all AV.scalar = true) {off : Nat} {v : AV}
    (he : partL cs off n b = some v) (w : World) : ∃ v', (part t cs' off).run P w = .ok v' w ∧ VRel μ v v' := by
  unfold part
  simp only [Sem.run_bind, run_isAgg h2, Result.andThen_ok]
  cases b with
  | true =>
    simp only [partL, Option.map_eq_some_iff] at he
    obtain ⟨r, hr, rfl⟩ := he
    simp only [if_true, Sem.run_bind, run_sizeOf h1, Result.andThen_ok, Sem.run_pure]
    refine ⟨_, rfl, ?_⟩
    simp only [VRel]
    obtain ⟨hb, hr2⟩ := takeL_some hr
    have hl := VRelL_length hc
    refine ⟨_, rfl, VRelL_of_get ?_ ?_, ?_⟩
    · rw [takeL_length hr]; simp at hl ⊢; omega
    · intro i a ha
      have hi : i < n := by
        rw [← takeL_length hr]
        exact (List.getElem?_eq_some_iff.1 ha).1
      rw [takeL_get hr i hi] at ha
      obtain ⟨x, h3, h4⟩ := VRelL_get hc ha
      refine ⟨x, ?_, h4⟩
      simp only [Array.toList_extract, List.extract_eq_take_drop]
      rw [List.getElem?_take, if_pos (by omega), List.getElem?_drop]; exact h3
    · refine all_scalar_of_get fun i a ha => ?_
      have hi : i < n := by
        rw [← takeL_length hr]
        exact (List.getElem?_eq_some_iff.1 ha).1
      rw [takeL_get hr i hi] at ha
      exact all_scalar_get hs ha
  | false =>
    simp only [partL, nth_eq] at he
    obtain ⟨x, h3, h4⟩ := VRelL_get hc he
    have h5 : cs'[off]? = some x := by simpa using h3
    simp only [Bool.false_eq_true, if_false, h5, Sem.run_pure]
    exact ⟨x, rfl, h4⟩

theorem extract_mk (s : List UInt8) (l h : Nat) : (ByteArray.mk s.toArray).extract l h = ⟨((s.drop l).take (h - l)).toArray⟩ := by
  apply ByteArray.ext
  apply Array.ext'
  rw [Lib.extract_data]

theorem sliceStr_sound {t : TypeId} (hu : P.underlying t = some .string) {s : List UInt8} {v : AV} {lo hi : Option Nat} {lo' hi' : Option Value}
    (he : sliceStrV s lo hi = some v) (h1 : boundsRel lo lo') (h2 : boundsRel hi hi') (w : World) :
    ∃ v', (Instr.slice t (.string ⟨s.toArray⟩) lo' hi' none).run P w = .ok v' w ∧ VRel μ v v' := by
  unfold Instr.slice
  simp only [Sem.run_bind, run_underlying hu, Result.andThen_ok]
  unfold sliceStrV at he
  simp only [lenL_eq] at he
  split at he
  · rename_i hc
    simp only [Bool.and_eq_true, Nat.ble_eq] at hc
    simp only [Option.some.injEq] at he; subst he
    simp only [Option.isSome_none, Bool.false_eq_true, if_false, Sem.run_bind]
    rw [run_sliceBounds h1 h2 (by rw [size_mk]; exact hc.1) (by rw [size_mk]; exact hc.2)]
    simp only [Result.andThen_ok, Sem.run_pure]
    refine ⟨_, rfl, ?_⟩
    rw [VRel_str, extract_mk, size_mk]; rfl
  · cases he

theorem slice_sound {t e : TypeId} (hu : P.underlying t = some (.slice e)) {sz : Nat} (hsz : sizeT P e = some sz) {a : Option (Nat × Nat)} {len cap opn : Nat} {v : AV} {x' : Value} {lo hi : Option Nat} {lo' hi' : Option Value}
    (he : sliceV sz a len cap opn lo hi = some v) (hx : VRel μ (.slice a len cap opn) x') (h1 : boundsRel lo lo') (h2 : boundsRel hi hi') (w : World) :
    ∃ v', (Instr.slice t x' lo' hi' none).run P w = .ok v' w ∧ VRel μ v v' := by
  unfold Instr.slice
  simp only [Sem.run_bind, run_underlying hu, Result.andThen_ok]
  unfold sliceV at he
  dsimp only at he
  split at he
  · rename_i hc
    simp only [Bool.and_eq_true, Bool.or_eq_true, Nat.ble_eq, Nat.beq_eq] at hc
    obtain ⟨⟨hc1, hc2⟩, hc3⟩ := hc
    simp only [Option.some.injEq] at he; subst he
    cases a with
    | none =>
      simp only [VRel] at hx
      obtain ⟨rfl, rfl, rfl⟩ := hx
      simp only [Sem.run_bind]
      rw [run_sliceBounds h1 h2 hc1 hc2]
      simp only [Result.andThen_ok, run_sizeOf hsz, Sem.run_pure]
      refine ⟨_, rfl, ?_⟩
      have e1 : hi.getD 0 = 0 := by omega
      have e2 : lo.getD 0 = 0 := by omega
      simp only [VRel, Option.map_none, e1, e2]
      simp
    | some p =>
      obtain ⟨a, off⟩ := p
      simp only [VRel] at hx
      obtain ⟨ad, c', l, rfl, hx2, hx3, hx4, hx5, hx6⟩ := hx
      simp only [Sem.run_bind]
      rw [run_sliceBounds h1 h2 hc1 (Nat.le_trans hc2 hx4)]
      simp only [Result.andThen_ok, run_sizeOf hsz, Sem.run_pure]
      refine ⟨_, rfl, ?_⟩
      simp only [VRel, Option.map_some]
      refine ⟨if c' = lo.getD 0 then ad else ad.add (lo.getD 0 * sz), c' - lo.getD 0, l, ?_, hx2, ?_, ?_, ?_, ?_⟩
      · congr 1
        split <;> rfl
      · show hi.getD len - lo.getD 0 ≤ cap - lo.getD 0
        omega
      · show cap - lo.getD 0 ≤ c' - lo.getD 0
        omega
      · intro h0; rw [hx5 h0]; rfl
      · exact isSl_sub hx6 sz (lo.getD 0) (by omega) opn (fun hne => ⟨rfl, hc3.resolve_left hne⟩) (c' - lo.getD 0) (Nat.le_refl _) (fun _ => rfl) (fun hk => by omega)
  · cases he

theorem slice3_sound {t e : TypeId} (hu : P.underlying t = some (.slice e)) {sz : Nat} (hsz : sizeT P e = some sz) {a : Option (Nat × Nat)} {len cap opn l h m : Nat} {v : AV} {x' : Value} {lo' : Option Value} {hi mx : Value} {k1 k2 : IntKind}
    (he : slice3V sz a cap l h m = some v) (hx : VRel μ (.slice a len cap opn) x') (h1 : (l = 0 ∧ lo' = none) ∨ ∃ k, lo' = some (.int k (Int.ofNat l))) (h2 : hi = .int k1 (Int.ofNat h)) (h3 : mx = .int k2 (Int.ofNat m)) (w : World) :
    ∃ v', (Instr.slice t x' lo' (some hi) (some mx)).run P w = .ok v' w ∧ VRel μ v v' := by
  unfold Instr.slice
  simp only [Sem.run_bind, run_underlying hu, Result.andThen_ok]
  unfold slice3V at he
  split at he
  · rename_i hc
    simp only [Bool.and_eq_true, Nat.ble_eq] at hc
    obtain ⟨⟨hc1, hc2⟩, hc3⟩ := hc
    simp only [Option.some.injEq] at he; subst he
    have hb : ∀ c', m ≤ c' → (Instr.sliceBounds true len c' lo' (some hi) (some mx)).run P w = .ok (l, h, m) w := by
      intro c' hm
      unfold Instr.sliceBounds
      simp only [Sem.run_bind, run_sliceBound h3 hm, Result.andThen_ok, run_sliceBound h2 hc2]
      rcases h1 with ⟨rfl, rfl⟩ | ⟨k, rfl⟩
      · rfl
      · simp only [Sem.run_bind, run_sliceBound rfl hc1, Result.andThen_ok]; rfl
    cases a with
    | none =>
      simp only [VRel] at hx
      obtain ⟨rfl, rfl, rfl⟩ := hx
      simp only [Sem.run_bind]
      rw [hb 0 hc3]
      simp only [Result.andThen_ok, run_sizeOf hsz, Sem.run_pure]
      refine ⟨_, rfl, ?_⟩
      have e1 : m = 0 := by omega
      have e2 : h = 0 := by omega
      have e3 : l = 0 := by omega
      simp only [VRel, Option.map_none, e1, e2, e3]
      simp
    | some p =>
      obtain ⟨a, off⟩ := p
      simp only [VRel] at hx
      obtain ⟨ad, c', lc, rfl, hx2, hx3, hx4, hx5, hx6⟩ := hx
      simp only [Sem.run_bind]
      rw [hb c' (Nat.le_trans hc3 hx4)]
      simp only [Result.andThen_ok, run_sizeOf hsz, Sem.run_pure]
      refine ⟨_, rfl, ?_⟩
      simp only [VRel, Option.map_some]
      refine ⟨if m = l then ad else ad.add (l * sz), m - l, lc, ?_, hx2, ?_, ?_, ?_, ?_⟩
      · congr 1
        split <;> rfl
      · show h - l ≤ m - l
        omega
      · exact Nat.le_refl _
      · intro _; rfl
      · cases lc with
        | row b o e' =>
          obtain ⟨g1, g2, g3, g4⟩ := hx6
          refine ⟨?_, ?_, ?_, fun hne => absurd rfl hne⟩
          · split
            · exact g1
            · unfold Addr.add; split <;> exact g1
          · split
            · exact g2
            · unfold Addr.add; split
              · exact g2
              · rfl
          · intro hp
            rw [if_neg (by omega)]
            have := g3 (by omega)
            unfold Addr.add; split
            · rename_i hz
              show ad.off = o + (off + l * sz)
              rw [hz]; exact this
            · show ad.off + l * sz = o + (off + l * sz)
              rw [this]; omega
        | obj b =>
          obtain ⟨g1, g2, g3, g4⟩ := hx6
          refine ⟨?_, ?_, ?_, rfl⟩
          · split
            · exact g1
            · unfold Addr.add; split <;> exact g1
          · split
            · exact g2
            · unfold Addr.add; split
              · exact g2
              · rfl
          · intro hp
            rw [if_neg (by omega)]
            have := g3 (by omega)
            unfold Addr.add; split
            · rename_i hz
              show ad.off = off + l * sz
              rw [hz]; exact this
            · show ad.off + l * sz = off + l * sz
              rw [this]
        | ro b o =>
          obtain ⟨g1, g2, g3, g4⟩ := hx6
          refine ⟨?_, ?_, ?_, rfl⟩
          · split
            · exact g1
            · unfold Addr.add; split <;> exact g1
          · split
            · exact g2
            · unfold Addr.add; split
              · exact g2
              · rfl
          · intro hp
            rw [if_neg (by omega)]
            have := g3 (by omega)
            unfold Addr.add; split
            · rename_i hz
              show ad.off = o + (off + l * sz)
              rw [hz]; exact this
            · show ad.off + l * sz = o + (off + l * sz)
              rw [this]; omega
        | dead => trivial
  · cases he

theorem sureAddr_rel {a off : Nat} {x' : Value} (hx : VRel μ (.ptr (some (a, off))) x') : ∃ ad l, x' = .pointer (some ad) ∧ μ a = some l ∧ l.isAt off ad ∧ ∀ (P : Program) (w : World), (Instr.sureAddr x').run P w = .ok ad w := by
  simp only [VRel] at hx
  obtain ⟨ad, l, rfl, h1, h2⟩ := hx
  exact ⟨ad, l, rfl, h1, h2, fun _ _ => rfl⟩

theorem sliceArr_sound {t e : TypeId} {n : Nat} (hu : P.underlying t = some (.array n e)) {sz : Nat} (hsz : sizeT P e = some sz) {a off l h : Nat} {v : AV} {x' : Value} {lo hi : Option Nat} {lo' hi' : Option Value}
    (he : sliceArrV n sz a off l h = some v) (hl : l = lo.getD 0) (hh : h = hi.getD n) (hx : VRel μ (.ptr (some (a, off))) x') (h1 : boundsRel lo lo') (h2 : boundsRel hi hi') (w : World) :
    ∃ v', (Instr.sliceAt t x' lo' hi' none).run P w = .ok v' w ∧ VRel μ v v' := by
  obtain ⟨ad, lc, rfl, g1, g2, g3⟩ := sureAddr_rel hx
  unfold Instr.sliceAt
  simp only [Sem.run_bind, run_underlying hu, Result.andThen_ok, g3]
  unfold sliceArrV at he
  split at he
  · rename_i hc
    simp only [Bool.and_eq_true, Nat.ble_eq] at hc
    simp only [Option.some.injEq] at he; subst he
    subst hl hh
    rw [run_sliceBounds h1 h2 hc.1 hc.2]
    simp only [Result.andThen_ok, run_sizeOf hsz, Sem.run_pure]
    refine ⟨_, rfl, ?_⟩
    simp only [VRel]
    refine ⟨_, _, lc, rfl, g1, ?_, Nat.le_refl _, fun _ => rfl, ?_⟩
    · show hi.getD n - lo.getD 0 ≤ n - lo.getD 0
      omega
    · cases lc with
      | row b o e' =>
        simp only [Loc.isAt] at g2
        subst g2
        refine ⟨?_, ?_, ?_, fun hne => absurd rfl hne⟩
        · split
          · rfl
          · rw [addr_add]
        · split
          · rfl
          · rw [addr_add]
        · intro hp
          have hp' : 0 < n - lo.getD 0 := hp
          rw [if_neg (by omega), addr_add]
          show o + off + lo.getD 0 * sz = o + (off + lo.getD 0 * sz)
          omega
      | obj b =>
        simp only [Loc.isAt] at g2
        subst g2
        refine ⟨?_, ?_, ?_, rfl⟩
        · split
          · rfl
          · rw [addr_add]
        · split
          · rfl
          · rw [addr_add]
        · intro hp
          have hp' : 0 < n - lo.getD 0 := hp
          rw [if_neg (by omega), addr_add]
          rfl
      | ro b o =>
        simp only [Loc.isAt] at g2
        subst g2
        refine ⟨?_, ?_, ?_, rfl⟩
        · split
          · rfl
          · rw [addr_add]
        · split
          · rfl
          · rw [addr_add]
        · intro hp
          have hp' : 0 < n - lo.getD 0 := hp
          rw [if_neg (by omega), addr_add]
          show o + off + lo.getD 0 * sz = o + (off + lo.getD 0 * sz)
          omega
      | dead => trivial
  · cases he
end
end Go.Proofs.YtjjdminaacibeaaGreatDoor.Ev
/- Every operation without memory, against the model: together. -/
namespace Go.Proofs.YtjjdminaacibeaaGreatDoor.Ev

section
variable {P : Program} {tab : String → List (TypeId × FuncId)} {μ : Mu}

/-! ### The small ones -/
theorem fieldAddr_sound {t : TypeId} {fs : Array Field} (hu : P.underlying t = some (.struct fs)) {f : Nat} {fl : Field} (hf : fs[f]? = some fl) {n : Nat} (hn : sizeT P fl.type = some n) (h0 : n ≠ 0)
    {vs : List AV} {x' : Value} (hv : VRelL μ vs [x']) {v : AV} (he : xFieldAddr fl.offset vs = some v) (w : World) : ∃ v', (Instr.fieldAt t x' f).run P w = .ok v' w ∧ VRel μ v v' := by
  unfold xFieldAddr at he
  split at he
  · rename_i a o
    simp only [Option.some.injEq] at he; subst he
    obtain ⟨x2, h1, h2⟩ := VRelL_one hv
    simp at h1; subst h1
    obtain ⟨ad, l, rfl, g1, g2, g3⟩ := sureAddr_rel h2
    unfold Instr.fieldAt
    simp only [Sem.run_bind, run_underlying hu, Result.andThen_ok, hf, g3, fieldPlace, run_sizeOf hn]
    rw [if_neg h0]
    refine ⟨_, rfl, ?_⟩
    simp only [VRel]
    exact ⟨_, l, rfl, g1, isAt_add g2 _⟩
  · cases he

theorem field_sound {t : TypeId} {fs : Array Field} (hu : P.underlying t = some (.struct fs)) {f : Nat} {fl : Field} (hf : fs[f]? = some fl) {n : Nat} {b : Bool} (hn : sizeT P fl.type = some n) (hb : aggT P fl.type = some b)
    {vs : List AV} {x' : Value} (hv : VRelL μ vs [x']) {v : AV} (he : xField fl.offset n b vs = some v) (w : World) : ∃ v', (Instr.field t x' f).run P w = .ok v' w ∧ VRel μ v v' := by
  unfold xField at he
  split at he
  · rename_i cs
    obtain ⟨x2, h1, h2⟩ := VRelL_one hv
    simp at h1; subst h1
    simp only [VRel] at h2
    obtain ⟨cs', rfl, h3, h4⟩ := h2
    unfold Instr.field
    simp only [Sem.run_bind, run_underlying hu, Result.andThen_ok, hf, asAgg, Sem.run_pure]
    exact part_sound hn hb h3 h4 he w
  · cases he

theorem symIndex_some {a off sz : Nat} {e ln : SE} {K : SK} {v : AV} (h : symIndex a off sz e ln K = some v) {σ : Nat → Int} (hK : K.Holds σ) : v = .sptr a off sz e K ∧ 0 ≤ e.eval σ ∧ e.eval σ < ln.eval σ := by
  unfold symIndex at h
  split at h <;> try (cases h; done)
  rename_i h1 h2
  have h1 := SK.sure_ok hK h1
  rw [SE.lin_ok] at h1
  have h2 := of_decide_eq_true (SK.le_ok hK h2).symm
  simp only [SE.eval] at h2
  simp only [Option.some.injEq] at h
  exact ⟨h.symm, h1, by omega⟩

theorem indexAddr_sound {t e : TypeId} (hu : P.underlying t = some (.slice e)) {sz : Nat} (hsz : sizeT P e = some sz) {vs : List AV} {x' i' : Value} (hv : VRelL μ vs [x', i']) {v : AV} (he : xIndexAddr sz vs = some v) (w : World) :
    ∃ v', (Instr.indexAt t x' i').run P w = .ok v' w ∧ VRel μ v v' := by
  unfold xIndexAddr at he
  split at he
  · rename_i a off ln cap opn i
    obtain ⟨x2, i2, h1, h2, h3⟩ := VRelL_two hv
    simp at h1; obtain ⟨rfl, rfl⟩ := h1
    simp only [VRel] at h2
    obtain ⟨ad, c', l, rfl, g1, g2, g3, g4, g5⟩ := h2
    split at he
    · rename_i kd se K
      simp only [VRel] at h3
      obtain ⟨rfl, hK⟩ := h3
      obtain ⟨rfl, p1, p2⟩ := symIndex_some he hK
      simp only [SE.eval] at p2
      obtain ⟨k, hk⟩ := Int.eq_ofNat_of_zero_le p1
      rw [hk] at p2 ⊢
      have hlt : k < ln := by simpa using p2
      unfold Instr.indexAt
      simp only [Sem.run_bind, asIntOf, Sem.run_pure, Result.andThen_ok, run_underlying hu]
      rw [if_pos (by constructor <;> simp <;> omega)]
      simp only [Sem.run_bind, run_sizeOf hsz, Result.andThen_ok, Sem.run_pure]
      refine ⟨_, rfl, ?_⟩
      simp only [VRel]
      refine ⟨_, l, rfl, g1, ?_, hK⟩
      have := isAt_add (isAt_of_isSl g5 (by omega)) (k * sz)
      rw [hk]
      simpa using this
    · rw [Option.map_eq_some_iff] at he
      obtain ⟨k, hk, rfl⟩ := he
      obtain ⟨kd, rfl, hlt⟩ := idxOf_some hk
      rw [VRel_int] at h3; subst h3
      unfold Instr.indexAt
      simp only [Sem.run_bind, asIntOf, Sem.run_pure, Result.andThen_ok, run_underlying hu]
      rw [if_pos (by constructor <;> simp <;> omega)]
      simp only [Sem.run_bind, run_sizeOf hsz, Result.andThen_ok, Sem.run_pure]
      refine ⟨_, rfl, ?_⟩
      simp only [VRel]
      refine ⟨_, l, rfl, g1, ?_⟩
      have := isAt_add (isAt_of_isSl g5 (by omega)) (k * sz)
      simpa using this
  · rename_i a off ln K0 kd se K
    obtain ⟨x2, i2, h1, h2, h3⟩ := VRelL_two hv
    simp at h1; obtain ⟨rfl, rfl⟩ := h1
    simp only [VRel] at h2 h3
    obtain ⟨ad, n, c, l, rfl, g1, g2, g3, _⟩ := h2
    obtain ⟨rfl, hK⟩ := h3
    obtain ⟨rfl, p1, p2⟩ := symIndex_some he hK
    rw [← g3] at p2
    obtain ⟨k, hk⟩ := Int.eq_ofNat_of_zero_le p1
    rw [hk] at p2 ⊢
    have hlt : k < n := by simpa using p2
    unfold Instr.indexAt
    simp only [Sem.run_bind, asIntOf, Sem.run_pure, Result.andThen_ok, run_underlying hu]
    rw [if_pos (by constructor <;> simp <;> omega)]
    simp only [Sem.run_bind, run_sizeOf hsz, Result.andThen_ok, Sem.run_pure]
    refine ⟨_, rfl, ?_⟩
    simp only [VRel]
    refine ⟨_, l, rfl, g1, ?_, hK⟩
    have := isAt_add g2 (k * sz)
    rw [hk]
    simpa using this
  · cases he

theorem indexAddrArr_sound {t e : TypeId} {n : Nat} (hu : P.underlying t = some (.array n e)) {sz : Nat} (hsz : sizeT P e = some sz) {vs : List AV} {x' i' : Value} (hv : VRelL μ vs [x', i']) {v : AV} (he : xIndexAddrArr n sz vs = some v) (w : World) :
    ∃ v', (Instr.indexAt t x' i').run P w = .ok v' w ∧ VRel μ v v' := by
  unfold xIndexAddrArr at he
  split at he
  · rename_i a off i
    rw [Option.map_eq_some_iff] at he
    obtain ⟨k, hk, rfl⟩ := he
    obtain ⟨x2, i2, h1, h2, h3⟩ := VRelL_two hv
    simp at h1; obtain ⟨rfl, rfl⟩ := h1
    obtain ⟨kd, rfl, hlt⟩ := idxOf_some hk
    rw [VRel_int] at h3; subst h3
    obtain ⟨ad, l, rfl, g1, g2, g3⟩ := sureAddr_rel h2
    unfold Instr.indexAt
    simp only [Sem.run_bind, asIntOf, Sem.run_pure, Result.andThen_ok, run_underlying hu, g3]
    rw [if_pos (by constructor <;> simp <;> omega)]
    simp only [Sem.run_bind, run_sizeOf hsz, Result.andThen_ok, Sem.run_pure]
    refine ⟨_, rfl, ?_⟩
    simp only [VRel]
    refine ⟨_, l, rfl, g1, ?_⟩
    have := isAt_add g2 (k * sz)
    simpa using this
  · cases he

theorem indexStr_sound {t : TypeId} (hu : P.underlying t = some .string) {vs : List AV} {x' i' : Value} (hv : VRelL μ vs [x', i']) {v : AV} (he : xIndexStr vs = some v) (w : World) :
    ∃ v', (Instr.index t x' i').run P w = .ok v' w ∧ VRel μ v v' := by
  unfold xIndexStr at he
  split at he
  · rename_i s i
    split at he
    · rename_i k hk
      rw [Option.map_eq_some_iff] at he
      obtain ⟨b, hb, rfl⟩ := he
      rw [nth_eq] at hb
      obtain ⟨x2, i2, h1, h2, h3⟩ := VRelL_two hv
      simp at h1; obtain ⟨rfl, rfl⟩ := h1
      obtain ⟨kd, rfl⟩ := natOf_some hk
      rw [VRel_int] at h3; subst h3
      rw [VRel_str] at h2; subst h2
      unfold Instr.index
      simp only [Sem.run_bind, asIntOf, Sem.run_pure, Result.andThen_ok, run_underlying hu]
      have hg : (ByteArray.mk s.toArray)[k]? = some b := by
        have hlt : k < s.length := (List.getElem?_eq_some_iff.1 hb).1
        have hlt' : k < (ByteArray.mk s.toArray).size := by rw [size_mk]; exact hlt
        rw [getElem?_pos (ByteArray.mk s.toArray) k hlt']
        have : s[k] = b := by rw [List.getElem?_eq_getElem hlt] at hb; exact Option.some.inj hb
        subst this
        rfl
      have e1 : (0 : Int) ≤ Int.ofNat k := by simp
      have e2 : (Int.ofNat k).toNat = k := rfl
      rw [if_pos e1, e2, hg]
      exact ⟨_, rfl, by simp only [VRel]; rfl⟩
    · cases he
  · cases he

theorem indexArr_sound {t e : TypeId} {n : Nat} (hu : P.underlying t = some (.array n e)) {sz : Nat} {b : Bool} (hsz : sizeT P e = some sz) (hb : aggT P e = some b) {vs : List AV} {x' i' : Value} (hv : VRelL μ vs [x', i']) {v : AV}
    (he : xIndexArr n sz b vs = some v) (w : World) : ∃ v', (Instr.index t x' i').run P w = .ok v' w ∧ VRel μ v v' := by
  unfold xIndexArr at he
  split at he
  · rename_i cs i
    rw [Option.bind_eq_some_iff] at he
    obtain ⟨k, hk, he⟩ := he
    obtain ⟨x2, i2, h1, h2, h3⟩ := VRelL_two hv
    simp at h1; obtain ⟨rfl, rfl⟩ := h1
    obtain ⟨kd, rfl, hlt⟩ := idxOf_some hk
    rw [VRel_int] at h3; subst h3
    simp only [VRel] at h2
    obtain ⟨cs', rfl, h4, h5⟩ := h2
    unfold Instr.index
    simp only [Sem.run_bind, asIntOf, Sem.run_pure, Result.andThen_ok, run_underlying hu]
    rw [if_pos (by constructor <;> simp <;> omega)]
    simp only [Sem.run_bind, run_sizeOf hsz, Result.andThen_ok]
    have := part_sound hsz hb h4 h5 he w
    simpa using this
  · cases he

theorem extract_sound {vs : List AV} {x' : Value} (hv : VRelL μ vs [x']) {v : AV} {i : Nat} (he : xExtract i vs = some v) (w : World) : ∃ v', (Instr.extract x' i).run P w = .ok v' w ∧ VRel μ v v' := by
  unfold xExtract at he
  split at he
  · rename_i us
    obtain ⟨x2, h1, h2⟩ := VRelL_one hv
    simp at h1; subst h1
    simp only [VRel] at h2
    obtain ⟨us', rfl, h3⟩ := h2
    rw [nth_eq] at he
    obtain ⟨b, h4, h5⟩ := VRelL_get h3 he
    unfold Instr.extract
    have h6 : us'[i]? = some b := by simpa using h4
    simp only [h6]
    exact ⟨b, rfl, h5⟩
  · cases he

theorem pick_sound {vs : List AV} {c' a' b' : Value} (hv : VRelL μ vs [c', a', b']) {v : AV} (he : xPick vs = some v) (w : World) :
    ∃ v', (do pure (Next.value (if ← asBool c' then a' else b')) : Sem Next).run P w = .ok (.value v') w ∧ VRel μ v v' := by
  unfold xPick at he
  split at he
  · rename_i c a b
    obtain ⟨c2, a2, b2, h1, h2, h3, h4⟩ := VRelL_three hv
    simp at h1; obtain ⟨rfl, rfl, rfl⟩ := h1
    rw [VRel_bool] at h2; subst h2
    simp only [Option.some.injEq] at he
    cases c with
    | true => subst he; exact ⟨a', rfl, h3⟩
    | false => subst he; exact ⟨b', rfl, h4⟩
  · cases he

theorem nilck_sound {x : AV} {x' : Value} (hx : VRel μ x x') {v : AV} (he : nilckV x = some v) (w : World) {ρ : Operand → Value} {o : Oper} {y : Operand} (ho : o.op = .nilCheck y) (hy : ρ y = x') :
    ∃ v', (execOp ρ o).run P w = .ok (.value v') w ∧ VRel μ v v' := by
  unfold execOp
  rw [ho]
  simp only [hy]
  unfold nilckV at he
  split at he
  · simp only [Option.some.injEq] at he; subst he
    rename_i p
    obtain ⟨a, off⟩ := p
    have hx0 := hx
    simp only [VRel] at hx
    obtain ⟨ad, l, rfl, _⟩ := hx
    exact ⟨_, rfl, hx0⟩
  · simp only [Option.some.injEq] at he; subst he
    have hx0 := hx
    simp only [VRel] at hx
    obtain ⟨x2, rfl, _⟩ := hx
    exact ⟨_, rfl, hx0⟩
  · simp only [Option.some.injEq] at he; subst he
    have hx0 := hx
    simp only [VRel] at hx
    obtain ⟨x2, y2, rfl, _⟩ := hx
    exact ⟨_, rfl, hx0⟩
  · simp only [Option.some.injEq] at he; subst he
    have hx0 := hx
    simp only [VRel] at hx
    obtain ⟨_, _, b, l, rfl, _⟩ := hx
    exact ⟨_, rfl, hx0⟩
  · cases he

theorem un_sound {op : UnOp} {vs : List AV} {x' : Value} (hv : VRelL μ vs [x']) {v : AV} (he : xUn op vs = some v) (w : World) : ∃ v', (Op.unary op x').run P w = .ok v' w ∧ VRel μ v v' := by
  unfold xUn at he
  split at he
  · obtain ⟨x2, h1, h2⟩ := VRelL_one hv
    simp at h1; subst h1
    rw [VRel_bool] at h2; subst h2
    simp only [Option.some.injEq] at he; subst he
    exact ⟨_, rfl, by simp only [VRel]⟩
  · rename_i k n
    obtain ⟨x2, h1, h2⟩ := VRelL_one hv
    simp at h1; subst h1
    rw [VRel_int] at h2; subst h2
    simp only [Option.some.injEq] at he; subst he
    refine ⟨_, rfl, ?_⟩
    simp only [VRel, wrapF_eq]
    have : (0 : Int) - n = Int.neg n := by show 0 - n = -n; omega
    rw [this]
  · rename_i k n
    obtain ⟨x2, h1, h2⟩ := VRelL_one hv
    simp at h1; subst h1
    rw [VRel_int] at h2; subst h2
    simp only [bitsSlow, Option.some.injEq] at he; subst he
    exact ⟨_, rfl, by simp only [VRel]⟩
  · cases he

theorem conv_sound {s d : TypeId} {k j : IntKind} (hs : P.underlying s = some (.int j)) (hd : P.underlying d = some (.int k)) {vs : List AV} {x' : Value} (hv : VRelL μ vs [x']) {v : AV} (he : xConv k vs = some v) (w : World) :
    ∃ v', (convert s d x').run P w = .ok v' w ∧ VRel μ v v' := by
  unfold xConv at he
  split at he
  · rename_i q n
    obtain ⟨x2, h1, h2⟩ := VRelL_one hv
    simp at h1; subst h1
    rw [VRel_int] at h2; subst h2
    simp only [Option.some.injEq] at he; subst he
    unfold convert
    simp only [Sem.run_bind, run_underlying hs, run_underlying hd, Result.andThen_ok]
    exact ⟨_, rfl, by simp only [VRel, wrapF_eq]⟩
  · rename_i q e K
    obtain ⟨x2, h1, h2⟩ := VRelL_one hv
    simp at h1; subst h1
    simp only [VRel] at h2; obtain ⟨rfl, hK⟩ := h2
    unfold convert
    simp only [Sem.run_bind, run_underlying hs, run_underlying hd, Result.andThen_ok]
    refine ⟨_, rfl, ?_⟩
    unfold symConv at he
    split at he
    · rename_i hf
      simp only [Option.some.injEq] at he; subst he
      simp only [VRel]
      rw [wrap_in (fits_ok hK hf)]
      exact ⟨rfl, hK⟩
    · split at he <;> try (cases he; done)
      rename_i h1 h2
      simp only [Option.some.injEq] at he; subst he
      have h1 := SK.sure_ok hK h1
      rw [SE.lin_ok] at h1
      simp only [VRel, SE.eval]
      obtain ⟨a, ha⟩ := Int.eq_ofNat_of_zero_le h1
      rw [ha]
      refine ⟨?_, hK⟩
      have e2 : ((a : Nat) : Int).toNat = a := rfl
      simp only [e2, Nat.pow_zero, Nat.mul_one, Nat.div_one]
      congr 1
      unfold IntKind.wrap
      simp only [h2]
      simp
  · cases he

theorem convStr_sound {s d : TypeId} (hs : P.underlying s = some .string) (hd : P.underlying d = some .string) {x : AV} {x' : Value} (hv : VRel μ x x') (hx : ∃ t, x = .str t) (w : World) :
    ∃ v', (convert s d x').run P w = .ok v' w ∧ VRel μ x v' := by
  obtain ⟨t, rfl⟩ := hx
  have h0 := hv
  rw [VRel_str] at hv; subst hv
  unfold convert
  simp only [Sem.run_bind, run_underlying hs, run_underlying hd, Result.andThen_ok]
  exact ⟨_, rfl, h0⟩
end
end Go.Proofs.YtjjdminaacibeaaGreatDoor.Ev
/- Every operation without memory, against the model: the last ones, and all together. -/
namespace Go.Proofs.YtjjdminaacibeaaGreatDoor.Ev

section
variable {P : Program} {tab : String → List (TypeId × FuncId)} {μ : Mu}

theorem run_equal {t : TypeId} {d : TypeDesc} (hu : P.underlying t = some d) {x y : Value} {b : Bool} (w : World)
    (h : (match d, x, y with
      | .bool, .bool a, .bool c => some (a == c)
      | .pointer _, .pointer none, .pointer c => some c.isNone
      | .pointer _, .pointer (some _), .pointer none => some false
      | .slice _, .slice none _ _, .slice c _ _ => some c.isNone
      | .slice _, .slice (some _) _ _, .slice none _ _ => some false
      | .func _ _ _, .nilFunc, .nilFunc => some true
      | .func _ _ _, .nilFunc, .func _ _ _ => some false
      | .func _ _ _, .func _ _ _, .nilFunc => some false
      | .interface _, .nilIface, .nilIface => some true
      | .interface _, .nilIface, .iface _ _ => some false
      | .interface _, .iface _ _, .nilIface => some false
      | _, _, _ => none) = some b) : (Op.equal t x y).run P w = .ok b w := by
  unfold Op.equal
  show (Op.equalIn (9999 + 1) t x y).run P w = _
  unfold Op.equalIn
  simp only [Sem.run_bind, run_underlying hu, Result.andThen_ok]
  split at h <;> first | (simp only [Option.some.injEq] at h; subst h; rfl) | cases h

theorem run_eqGuard_plain {op : BinOp} {t : TypeId} {x y : Operand} {a b : Value} (h : a ≠ .nilIface ∨ b ≠ .nilIface) (h2 : ∀ c, a ≠ .agg c) (w : World) :
    (eqGuard op t x y a b).run P w = .ok () w := by
  cases op <;> first | rfl | (
    unfold eqGuard
    simp only [Bool.not_true, Bool.false_eq_true, if_false]
    split
    · rcases h with h | h <;> exact absurd rfl h
    · exact absurd rfl (h2 _)
    · rfl)

theorem run_eqGuard_nil {op : BinOp} {t : TypeId} {x y : Operand} {a b : Value} (h : isConst x = true ∨ isConst y = true) (h2 : ∀ c, a ≠ .agg c) (w : World) :
    (eqGuard op t x y a b).run P w = .ok () w := by
  have hc : (∃ v, x = .const v) ∨ ∃ v, y = .const v := by
    rcases h with h | h
    · cases x <;> first | exact .inl ⟨_, rfl⟩ | simp [isConst] at h
    · cases y <;> first | exact .inr ⟨_, rfl⟩ | simp [isConst] at h
  clear h
  rcases hc with ⟨v, rfl⟩ | ⟨v, rfl⟩ <;> cases op <;> first | rfl | (
    unfold eqGuard
    simp only [Bool.not_true, Bool.false_eq_true, if_false]
    split
    · simp only [Bool.or_true, Bool.true_or, if_true]; rfl
    · exact absurd rfl (h2 _)
    · rfl)

theorem eqb_sound {t : TypeId} (hu : P.underlying t = some .bool) {neg : Bool} {op : BinOp} (hop : op = if neg then .neq else .eql) {vs : List AV} {x' y' : Value} (hv : VRelL μ vs [x', y']) {v : AV} (he : xEqb neg vs = some v) (w : World) (xo yo : Operand) :
    ∃ v', (do eqGuard op t xo yo x' y'; binOp op t x' y' : Sem Value).run P w = .ok v' w ∧ VRel μ v v' := by
  unfold xEqb at he
  split at he
  · rename_i a b
    obtain ⟨x2, y2, h1, h2, h3⟩ := VRelL_two hv
    simp at h1; obtain ⟨rfl, rfl⟩ := h1
    rw [VRel_bool] at h2 h3; subst h2; subst h3
    have hq : (Op.equal t (.bool a) (.bool b)).run P w = .ok (a == b) w := run_equal hu w rfl
    simp only [Sem.run_bind]
    rw [run_eqGuard_plain (.inl (by simp)) (by simp)]
    simp only [Result.andThen_ok]
    simp only [Option.some.injEq] at he; subst he
    cases neg with
    | true =>
      simp only [if_true] at hop; subst hop
      simp only [binOp, Sem.run_bind, hq, Result.andThen_ok]
      exact ⟨_, rfl, by simp only [VRel]⟩
    | false =>
      simp at hop; subst hop
      simp only [binOp, Sem.run_bind, hq, Result.andThen_ok]
      exact ⟨_, rfl, by simp only [VRel]⟩
  · cases he

def nilcOk : NilC → TypeDesc → Prop
  | .ptr, .pointer _ => True
  | .sl, .slice _ => True
  | .fn, .func _ _ _ => True
  | .ifc, .interface _ => True
  | _, _ => False

/-- What is held against nil, on the model's side. -/
theorem eqNil_rel {c : NilC} {x y : AV} {b : Bool} (h : eqNil c x y = some b) {x' y' : Value} (hx : VRel μ x x') (hy : VRel μ y y') {t : TypeId} {d : TypeDesc} (hu : P.underlying t = some d)
    (hd : nilcOk c d) (w : World) :
    (Op.equal t x' y').run P w = .ok b w ∧ (∀ q, x' ≠ .agg q) ∧ (c ≠ .ifc → x' ≠ .nilIface) ∧ binOp .eql t x' y' = (do pure (.bool (← Op.equal t x' y'))) ∧ binOp .neq t x' y' = (do pure (.bool (!(← Op.equal t x' y')))) := by
  cases c <;> simp only [eqNil] at h
  · cases d <;> try (exact hd.elim)
    split at h
    · rename_i p
      simp only [VRel] at hx; subst hx
      cases p with
      | none => simp only [VRel] at hy; subst hy; simp at h; subst h; exact ⟨run_equal hu w rfl, by simp, by simp, rfl, rfl⟩
      | some q => obtain ⟨a, off⟩ := q; simp only [VRel] at hy; obtain ⟨ad, l, rfl, _⟩ := hy; simp at h; subst h; exact ⟨run_equal hu w rfl, by simp, by simp, rfl, rfl⟩
    · rename_i q
      obtain ⟨a, off⟩ := q
      simp only [VRel] at hx hy
      obtain ⟨ad, l, rfl, _⟩ := hx
      subst hy
      simp at h; subst h
      exact ⟨run_equal hu w rfl, by simp, by simp, rfl, rfl⟩
    · cases h
  · cases d <;> try (exact hd.elim)
    split at h
    · rename_i p _ _ _
      simp only [VRel] at hx; obtain ⟨rfl, _⟩ := hx
      cases p with
      | none => simp only [VRel] at hy; obtain ⟨rfl, _⟩ := hy; simp at h; subst h; exact ⟨run_equal hu w rfl, by simp, by simp, rfl, rfl⟩
      | some q => obtain ⟨a, off⟩ := q; simp only [VRel] at hy; obtain ⟨ad, c', l, rfl, _⟩ := hy; simp at h; subst h; exact ⟨run_equal hu w rfl, by simp, by simp, rfl, rfl⟩
    · rename_i q _ _ _ _ _ _
      obtain ⟨a, off⟩ := q
      simp only [VRel] at hx hy
      obtain ⟨ad, c', l, rfl, _⟩ := hx
      obtain ⟨rfl, _⟩ := hy
      simp at h; subst h
      exact ⟨run_equal hu w rfl, by simp, by simp, rfl, rfl⟩
    · cases h
  · cases d <;> try (exact hd.elim)
    split at h
    · simp only [VRel] at hx hy; subst hx; subst hy; simp at h; subst h; exact ⟨run_equal hu w rfl, by simp, by simp, rfl, rfl⟩
    · rename_i f _ _
      simp only [VRel] at hx; subst hx
      simp at h; subst h
      cases f with
      | func g => simp only [VRel] at hy; obtain ⟨x2, y2, rfl, _⟩ := hy; exact ⟨run_equal hu w rfl, by simp, by simp, rfl, rfl⟩
      | yield g => simp only [VRel] at hy; obtain ⟨_, _, b2, l, rfl, _⟩ := hy; exact ⟨run_equal hu w rfl, by simp, by simp, rfl, rfl⟩
      | method _ => simp [VRel] at hy
      | methodOf _ _ => simp [VRel] at hy
      | via _ _ _ _ => simp [VRel] at hy
    · rename_i f _ _
      simp only [VRel] at hy; subst hy
      simp at h; subst h
      cases f with
      | func g => simp only [VRel] at hx; obtain ⟨x2, y2, rfl, _⟩ := hx; exact ⟨run_equal hu w rfl, by simp, by simp, rfl, rfl⟩
      | yield g => simp only [VRel] at hx; obtain ⟨_, _, b2, l, rfl, _⟩ := hx; exact ⟨run_equal hu w rfl, by simp, by simp, rfl, rfl⟩
      | method _ => simp [VRel] at hx
      | methodOf _ _ => simp [VRel] at hx
      | via _ _ _ _ => simp [VRel] at hx
    · cases h
  · cases d <;> try (exact hd.elim)
    split at h
    · simp only [VRel] at hx hy; subst hx; subst hy; simp at h; subst h; exact ⟨run_equal hu w rfl, by simp, by simp, rfl, rfl⟩
    · simp only [VRel] at hx hy; subst hx; obtain ⟨x2, rfl, _⟩ := hy; simp at h; subst h; exact ⟨run_equal hu w rfl, by simp, by simp, rfl, rfl⟩
    · simp only [VRel] at hx hy; subst hy; obtain ⟨x2, rfl, _⟩ := hx; simp at h; subst h; exact ⟨run_equal hu w rfl, by simp, by simp, rfl, rfl⟩
    · cases h

theorem eqnil_sound {c : NilC} {t : TypeId} {d : TypeDesc} (hu : P.underlying t = some d)
    (hd : nilcOk c d)
    {neg : Bool} {op : BinOp} (hop : op = if neg then .neq else .eql) {vs : List AV} {x' y' : Value} (hv : VRelL μ vs [x', y']) {v : AV} (he : xEqnil c neg vs = some v) (w : World) (xo yo : Operand)
    (hk : c = .ifc → isConst xo = true ∨ isConst yo = true) :
    ∃ v', (do eqGuard op t xo yo x' y'; binOp op t x' y' : Sem Value).run P w = .ok v' w ∧ VRel μ v v' := by
  unfold xEqnil at he
  split at he
  · rename_i x y
    obtain ⟨x2, y2, h1, h2, h3⟩ := VRelL_two hv
    simp at h1; obtain ⟨rfl, rfl⟩ := h1
    rw [Option.map_eq_some_iff] at he
    obtain ⟨b, hb, rfl⟩ := he
    obtain ⟨g1, g2, g3, g4, g5⟩ := eqNil_rel hb h2 h3 hu hd w
    have hg : (eqGuard op t xo yo x' y').run P w = .ok () w := by
      by_cases hc : c = .ifc
      · exact run_eqGuard_nil (hk hc) g2 w
      · exact run_eqGuard_plain (.inl (g3 hc)) g2 w
    simp only [Sem.run_bind, hg, Result.andThen_ok]
    cases neg with
    | true =>
      simp only [if_true] at hop; subst hop
      rw [g5]
      simp only [Sem.run_bind, g1, Result.andThen_ok]
      exact ⟨_, rfl, by simp only [VRel]⟩
    | false =>
      simp at hop; subst hop
      rw [g4]
      simp only [Sem.run_bind, g1, Result.andThen_ok]
      exact ⟨_, rfl, by simp only [VRel]⟩
  · cases he

theorem foldM_int {f : AV → AV → Option AV} {g : Value → Value → Sem Value} (hf : ∀ x y z x' y', f x y = some z → VRel μ x x' → VRel μ y y' → ∃ z', g x' y' = pure z' ∧ VRel μ z z') :
    ∀ (vs : List AV) (x v : AV) (x' : Value) (vs' : List Value), foldM.go f x vs = some v → VRel μ x x' → VRelL μ vs vs' → ∀ w, ∃ v', (vs'.foldlM g x').run P w = .ok v' w ∧ VRel μ v v'
  | [], x, v, x', vs', h, hx, hv, w => by
    rw [VRelL_nil.1 hv]
    simp only [foldM.go, Option.some.injEq] at h; subst h
    exact ⟨x', rfl, hx⟩
  | y :: ys, x, v, x', vs', h, hx, hv, w => by
    obtain ⟨y', ys', rfl, h1, h2⟩ := VRelL_cons.1 hv
    simp only [foldM.go] at h
    split at h
    · rename_i z hz
      obtain ⟨z', hg, hz'⟩ := hf _ _ _ _ _ hz hx h1
      obtain ⟨v', e1, e2⟩ := foldM_int hf ys _ _ _ _ h hz' h2 w
      refine ⟨v', ?_, e2⟩
      rw [List.foldlM_cons, hg]
      simp only [Sem.run_bind, Sem.run_pure, Result.andThen_ok]
      exact e1
    · cases h

theorem symPick_ok {lo : Bool} {x y z : AV} {x' y' : Value} (h : symPick lo x y = some z) (hx : VRel μ x x') (hy : VRel μ y y') :
    ∃ k a b, x' = .int k a ∧ y' = .int k b ∧ ((a ≤ b) = (lo = true) ∧ VRel μ z x' ∨ ¬ (a ≤ b) = (lo = true) ∧ VRel μ z y') := by
  unfold symPick at h
  split at h <;> try (cases h; done)
  rename_i k j a b K hs
  split at h <;> try (cases h; done)
  rename_i r hk hle
  rw [kEq_eq] at hk
  have hk := of_decide_eq_true hk; subst hk
  obtain ⟨hx1, hx2⟩ := VRel_conc.1 hx
  obtain ⟨hy1, hy2⟩ := VRel_conc.1 hy
  obtain ⟨e1, e2, hK⟩ := symSides_ok hs hx2 hy2
  rw [e1] at hx1; rw [e2] at hy1
  simp only [VRel] at hx1 hy1
  have hr := SK.le_ok hK hle
  refine ⟨k, _, _, hx1, hy1, ?_⟩
  split at h
  · rename_i hb
    simp only [Option.some.injEq] at h; subst h
    left
    refine ⟨?_, hx⟩
    subst hr
    cases lo <;> simp at hb ⊢ <;> omega
  · rename_i hb
    simp only [Option.some.injEq] at h; subst h
    right
    refine ⟨?_, hy⟩
    subst hr
    cases lo <;> simp at hb ⊢ <;> omega

theorem min2_ok : ∀ x y z x' y', min2 x y = some z → VRel μ x x' → VRel μ y y' → ∃ z', Builtin.min2 x' y' = pure z' ∧ VRel μ z z' := by
  intro x y z x' y' h hx hy
  unfold min2 at h
  split at h
  · rename_i k a j b
    rw [VRel_int] at hx hy; subst hx; subst hy
    simp only [Option.some.injEq] at h; subst h
    refine ⟨_, ?_, VRel_int.2 rfl⟩
    simp only [Builtin.min2, iLe_eq]
    by_cases e : a ≤ b
    · rw [if_neg (by omega)]; simp [e]
    · rw [if_pos (by omega)]; simp [e]
  · obtain ⟨k, a, b, rfl, rfl, hz⟩ := symPick_ok h hx hy
    simp only [Builtin.min2]
    rcases hz with ⟨e, hz⟩ | ⟨e, hz⟩
    · refine ⟨_, ?_, hz⟩
      rw [if_neg (by simp at e; omega)]
    · refine ⟨_, ?_, hz⟩
      rw [if_pos (by simp at e; omega)]

theorem max2_ok : ∀ x y z x' y', max2 x y = some z → VRel μ x x' → VRel μ y y' → ∃ z', Builtin.max2 x' y' = pure z' ∧ VRel μ z z' := by
  intro x y z x' y' h hx hy
  unfold max2 at h
  split at h
  · rename_i k a j b
    rw [VRel_int] at hx hy; subst hx; subst hy
    simp only [Option.some.injEq] at h; subst h
    refine ⟨_, ?_, VRel_int.2 rfl⟩
    simp only [Builtin.max2, iLe_eq]
    by_cases e : b ≤ a
    · rw [if_neg (by omega)]; simp [e]
    · rw [if_pos (by omega)]; simp [e]
  · obtain ⟨k, a, b, rfl, rfl, hz⟩ := symPick_ok h hx hy
    simp only [Builtin.max2]
    rcases hz with ⟨e, hz⟩ | ⟨e, hz⟩
    · refine ⟨_, ?_, hz⟩
      rw [if_neg (by simp at e; omega)]
    · by_cases e2 : a = b
      · subst e2
        exact ⟨_, by rw [if_neg (by omega)], hz⟩
      · refine ⟨_, ?_, hz⟩
        rw [if_pos (by simp at e; omega)]
end
end Go.Proofs.YtjjdminaacibeaaGreatDoor.Ev
/- The operations without memory: what the translation gives is what the model does. -/
namespace Go.Proofs.YtjjdminaacibeaaGreatDoor.Ev

section
variable {P : Program} {tab : String → List (TypeId × FuncId)} {μ : Mu}

theorem run_value {s : Sem Value} {v : Value} {w w' : World} (h : s.run P w = .ok v w') : (do pure (Next.value (← s)) : Sem Next).run P w = .ok (.value v) w' := by
  simp only [Sem.run_bind, h, Result.andThen_ok, Sem.run_pure]

theorem lift_value {s : Sem Value} {v : AV} {w : World} (h : ∃ v', s.run P w = .ok v' w ∧ VRel μ v v') : ∃ v', (do pure (Next.value (← s)) : Sem Next).run P w = .ok (.value v') w ∧ VRel μ v v' := by
  obtain ⟨v', h1, h2⟩ := h
  exact ⟨v', run_value h1, h2⟩

theorem two_some {f : AV → AV → Option AV} {vs : List AV} {v : AV} (h : two f vs = some v) : ∃ x y, vs = [x, y] ∧ f x y = some v := by
  unfold two at h
  split at h
  · cases h
  · split at h
    · cases h
    · split at h
      · exact ⟨_, _, rfl, h⟩
      · cases h

theorem optArgs_ops {lo hi : Option Operand} {vs : List AV} {l h : Option Nat} (e : optArgs lo.isSome hi.isSome vs = some (l, h)) {ρ : Operand → Value} (hv : VRelL μ vs ((lo.toList ++ hi.toList).map ρ)) :
    boundsRel l (lo.map ρ) ∧ boundsRel h (hi.map ρ) := by
  rw [List.map_append] at hv
  have := optArgs_rel (μ := μ) e (los := lo.toList.map ρ) (his := hi.toList.map ρ) (by cases lo <;> rfl) (by cases hi <;> rfl) hv
  cases lo <;> cases hi <;> exact this

theorem len_str_sound {ts : Array TypeId} {t : TypeId} (ht : ts[0]? = some t) (hu : P.underlying t = some .string) {args : Array Operand} {ρ : Operand → Value} {vs : List AV} (hv : VRelL μ vs (args.toList.map ρ)) {v : AV} (he : xLenStr vs = some v) (ty : TypeId) (w : World) :
    ∃ v', (Builtin.len_ ts ty (args.map ρ)).run P w = .ok v' w ∧ VRel μ v v' := by
  unfold xLenStr at he
  split at he
  · rename_i s
    simp only [Option.some.injEq] at he; subst he
    obtain ⟨x2, h1, h2⟩ := VRelL_one hv
    rw [VRel_str] at h2; subst h2
    have ha : (args.map ρ)[0]? = some (.string ⟨s.toArray⟩) := by rw [← Array.getElem?_toList]; simp only [Array.toList_map, h1]; rfl
    unfold Builtin.len_
    simp only [ht, ha, Sem.run_bind, run_underlying hu, Result.andThen_ok, Sem.run_pure]
    exact ⟨_, rfl, by simp only [VRel, lenL_eq]; rw [size_mk]; rfl⟩
  · cases he

theorem len_sl_sound {ts : Array TypeId} {t e : TypeId} (ht : ts[0]? = some t) (hu : P.underlying t = some (.slice e)) {args : Array Operand} {ρ : Operand → Value} {vs : List AV} (hv : VRelL μ vs (args.toList.map ρ)) {v : AV} (he : xLenSl vs = some v) (ty : TypeId) (w : World) :
    ∃ v', (Builtin.len_ ts ty (args.map ρ)).run P w = .ok v' w ∧ VRel μ v v' := by
  unfold xLenSl at he
  split at he
  · rename_i a n c opn
    simp only [Option.some.injEq] at he; subst he
    obtain ⟨x2, h1, h2⟩ := VRelL_one hv
    have ha : (args.map ρ)[0]? = some x2 := by rw [← Array.getElem?_toList]; simp only [Array.toList_map, h1]; rfl
    unfold Builtin.len_
    simp only [ht, ha, Sem.run_bind, run_underlying hu, Result.andThen_ok]
    cases a with
    | none =>
      simp only [VRel] at h2; obtain ⟨rfl, rfl, rfl⟩ := h2
      exact ⟨_, rfl, by simp only [VRel]; rfl⟩
    | some p =>
      obtain ⟨a, off⟩ := p
      simp only [VRel] at h2; obtain ⟨ad, c', l, rfl, _⟩ := h2
      exact ⟨_, rfl, by simp only [VRel]; rfl⟩
  · rename_i e2 K
    simp only [Option.some.injEq] at he; subst he
    obtain ⟨x2, h1, h2⟩ := VRelL_one hv
    have ha : (args.map ρ)[0]? = some x2 := by rw [← Array.getElem?_toList]; simp only [Array.toList_map, h1]; rfl
    unfold Builtin.len_
    simp only [ht, ha, Sem.run_bind, run_underlying hu, Result.andThen_ok]
    simp only [VRel] at h2
    obtain ⟨a, n, c, rfl, hn, hK⟩ := h2
    exact ⟨_, rfl, by simp only [VRel]; exact ⟨by rw [← hn]; rfl, hK⟩⟩
  · rename_i a2 o2 e2 K
    simp only [Option.some.injEq] at he; subst he
    obtain ⟨x2, h1, h2⟩ := VRelL_one hv
    have ha : (args.map ρ)[0]? = some x2 := by rw [← Array.getElem?_toList]; simp only [Array.toList_map, h1]; rfl
    unfold Builtin.len_
    simp only [ht, ha, Sem.run_bind, run_underlying hu, Result.andThen_ok]
    simp only [VRel] at h2
    obtain ⟨ad, n, c, l, rfl, _, _, hn, hK⟩ := h2
    exact ⟨_, rfl, by simp only [VRel]; exact ⟨by rw [← hn]; rfl, hK⟩⟩
  · cases he

theorem len_arr_sound {ts : Array TypeId} {t e : TypeId} {n : Nat} (ht : ts[0]? = some t) (hu : P.underlying t = some (.array n e)) {args : Array Operand} {ρ : Operand → Value} {vs : List AV} (hv : VRelL μ vs (args.toList.map ρ)) {v : AV} (he : xLenArr n vs = some v) (ty : TypeId) (w : World) :
    ∃ v', (Builtin.len_ ts ty (args.map ρ)).run P w = .ok v' w ∧ VRel μ v v' := by
  unfold xLenArr at he
  split at he
  · simp only [Option.some.injEq] at he; subst he
    obtain ⟨x2, h1, h2⟩ := VRelL_one hv
    have ha : (args.map ρ)[0]? = some x2 := by rw [← Array.getElem?_toList]; simp only [Array.toList_map, h1]; rfl
    unfold Builtin.len_
    simp only [ht, ha, Sem.run_bind, run_underlying hu, Result.andThen_ok]
    exact ⟨goInt n, rfl, by simp only [VRel]; rfl⟩
  · cases he

theorem fold_sound {f : AV → AV → Option AV} {g : Value → Value → Sem Value} (hf : ∀ x y z x' y', f x y = some z → VRel μ x x' → VRel μ y y' → ∃ z', g x' y' = pure z' ∧ VRel μ z z')
    {vs : List AV} {vs' : List Value} (hv : VRelL μ vs vs') {v : AV} (he : foldM f vs = some v) (w : World) :
    ∃ x r, vs' = x :: r ∧ ∃ v', (r.foldlM g x).run P w = .ok v' w ∧ VRel μ v v' := by
  cases vs with
  | nil => simp [foldM] at he
  | cons x vs =>
    obtain ⟨x', r, rfl, h1, h2⟩ := VRelL_cons.1 hv
    refine ⟨x', r, rfl, ?_⟩
    simp only [foldM] at he
    cases vs with
    | nil =>
      simp only [foldM.go, Option.some.injEq] at he; subst he
      rw [VRelL_nil.1 h2]; exact ⟨x', rfl, h1⟩
    | cons y ys =>
      exact foldM_int hf (y :: ys) x v x' r he h1 h2 w

theorem pop_sound {op : Op} {p : POp} {xs : List Operand} (hc : compOp P tab op = some (.p p, xs)) {ρ : Operand → Value} {vs : List AV} (hv : VRelL μ vs (xs.map ρ)) {v : AV} (he : p.exec vs = some v)
    {o : Oper} (ho : o.op = op) (w : World) : ∃ v', (execOp ρ o).run P w = .ok (.value v') w ∧ VRel μ v v' := by
  cases op <;> simp only [compOp] at hc <;> try (cases hc; done)
  case move x =>
    simp only [Option.some.injEq, Prod.mk.injEq, IOp.p.injEq] at hc; obtain ⟨rfl, rfl⟩ := hc
    change xMv vs = some v at he
    unfold xMv at he
    split at he
    · simp only [Option.some.injEq] at he; subst he
      obtain ⟨x2, h1, h2⟩ := VRelL_one hv
      simp at h1; subst h1
      exact ⟨ρ x, by unfold execOp; rw [ho]; rfl, h2⟩
    · cases he
  case assign x =>
    simp only [Option.some.injEq, Prod.mk.injEq, IOp.p.injEq] at hc; obtain ⟨rfl, rfl⟩ := hc
    change xMv vs = some v at he
    unfold xMv at he
    split at he
    · simp only [Option.some.injEq] at he; subst he
      obtain ⟨x2, h1, h2⟩ := VRelL_one hv
      simp at h1; subst h1
      exact ⟨ρ x, by unfold execOp; rw [ho]; rfl, h2⟩
    · cases he
  case pick c a b =>
    simp only [Option.some.injEq, Prod.mk.injEq, IOp.p.injEq] at hc; obtain ⟨rfl, rfl⟩ := hc
    have := pick_sound (P := P) hv he w
    unfold execOp; rw [ho]; exact this
  case alloc e => rw [Option.map_eq_some_iff] at hc; obtain ⟨_, _, h⟩ := hc; cases h
  case build t parts =>
    split at hc
    · rename_i z ps h1 h2 h3
      simp only [Option.some.injEq, Prod.mk.injEq, IOp.p.injEq] at hc; obtain ⟨rfl, rfl⟩ := hc
      have := build_sound h1 h2 h3 hv he w
      unfold execOp; rw [ho]; exact lift_value this
    · cases hc
  case buildSlice t n parts =>
    split at hc
    · split at hc
      · split at hc
        · cases hc
        · cases hc
      · cases hc
    · cases hc
  case load t x => split at hc <;> cases hc
  case store t x y => rw [Option.map_eq_some_iff] at hc; obtain ⟨_, _, h⟩ := hc; cases h
  case nilCheck x =>
    simp only [Option.some.injEq, Prod.mk.injEq, IOp.p.injEq] at hc; obtain ⟨rfl, rfl⟩ := hc
    change xNilck vs = some v at he
    unfold xNilck at he
    split at he
    · obtain ⟨x2, h1, h2⟩ := VRelL_one hv
      simp at h1; subst h1
      exact nilck_sound h2 he w ho rfl
    · cases he
  case binOp bop t x y yt =>
    unfold execOp; rw [ho]
    split at hc
    · rename_i k hu
      simp only [Option.some.injEq, Prod.mk.injEq, IOp.p.injEq] at hc; obtain ⟨rfl, rfl⟩ := hc
      obtain ⟨a, b, rfl, h1⟩ := two_some he
      obtain ⟨x2, y2, h4, h5, h6⟩ := VRelL_two hv
      obtain ⟨k, a', j, b', v', rfl, rfl, h2, h3⟩ := binInt_sound (P := P) h1 h5 h6 w t
      simp at h4; obtain ⟨e1, e2⟩ := h4
      refine lift_value ⟨v', ?_, h3⟩
      rw [e1, e2]
      simp only [Sem.run_bind, run_eqGuard_int, Result.andThen_ok, h2]
    · simp only [Option.some.injEq, Prod.mk.injEq, IOp.p.injEq] at hc; obtain ⟨rfl, rfl⟩ := hc
      obtain ⟨a, b, rfl, h1⟩ := two_some he
      obtain ⟨a', b', v', rfl, rfl, h2, h3⟩ := binStr_sound (P := P) h1 w t
      obtain ⟨x2, y2, h4, h5, h6⟩ := VRelL_two hv
      simp at h4; obtain ⟨e1, e2⟩ := h4
      rw [VRel_str] at h5 h6; subst h5; subst h6
      refine lift_value ⟨v', ?_, h3 μ⟩
      rw [e1, e2]
      simp only [Sem.run_bind, run_eqGuard_str, Result.andThen_ok, h2]
    · rename_i hu; simp only [Option.some.injEq, Prod.mk.injEq, IOp.p.injEq] at hc; obtain ⟨rfl, rfl⟩ := hc
      exact lift_value (eqb_sound (neg := false) hu rfl hv he w x y)
    · rename_i hu; simp only [Option.some.injEq, Prod.mk.injEq, IOp.p.injEq] at hc; obtain ⟨rfl, rfl⟩ := hc
      exact lift_value (eqb_sound (neg := true) hu rfl hv he w x y)
    · rename_i hu; simp only [Option.some.injEq, Prod.mk.injEq, IOp.p.injEq] at hc; obtain ⟨rfl, rfl⟩ := hc
      exact lift_value (eqnil_sound (c := .ptr) (neg := false) hu trivial rfl hv he w x y (fun h => by cases h))
    · rename_i hu; simp only [Option.some.injEq, Prod.mk.injEq, IOp.p.injEq] at hc; obtain ⟨rfl, rfl⟩ := hc
      exact lift_value (eqnil_sound (c := .ptr) (neg := true) hu trivial rfl hv he w x y (fun h => by cases h))
    · rename_i hu; simp only [Option.some.injEq, Prod.mk.injEq, IOp.p.injEq] at hc; obtain ⟨rfl, rfl⟩ := hc
      exact lift_value (eqnil_sound (c := .sl) (neg := false) hu trivial rfl hv he w x y (fun h => by cases h))
    · rename_i hu; simp only [Option.some.injEq, Prod.mk.injEq, IOp.p.injEq] at hc; obtain ⟨rfl, rfl⟩ := hc
      exact lift_value (eqnil_sound (c := .sl) (neg := true) hu trivial rfl hv he w x y (fun h => by cases h))
    · rename_i hu; simp only [Option.some.injEq, Prod.mk.injEq, IOp.p.injEq] at hc; obtain ⟨rfl, rfl⟩ := hc
      exact lift_value (eqnil_sound (c := .fn) (neg := false) hu trivial rfl hv he w x y (fun h => by cases h))
    · rename_i hu; simp only [Option.some.injEq, Prod.mk.injEq, IOp.p.injEq] at hc; obtain ⟨rfl, rfl⟩ := hc
      exact lift_value (eqnil_sound (c := .fn) (neg := true) hu trivial rfl hv he w x y (fun h => by cases h))
    · rename_i hu
      split at hc
      · rename_i hk
        simp only [Option.some.injEq, Prod.mk.injEq, IOp.p.injEq] at hc; obtain ⟨rfl, rfl⟩ := hc
        exact lift_value (eqnil_sound (c := .ifc) (neg := false) hu trivial rfl hv he w x y (fun _ => hk))
      · cases hc
    · rename_i hu
      split at hc
      · rename_i hk
        simp only [Option.some.injEq, Prod.mk.injEq, IOp.p.injEq] at hc; obtain ⟨rfl, rfl⟩ := hc
        exact lift_value (eqnil_sound (c := .ifc) (neg := true) hu trivial rfl hv he w x y (fun _ => hk))
      · cases hc
    · cases hc
  case unOp uop t x =>
    simp only [Option.some.injEq, Prod.mk.injEq, IOp.p.injEq] at hc; obtain ⟨rfl, rfl⟩ := hc
    unfold execOp; rw [ho]
    exact lift_value (un_sound hv he w)
  case convert s d x =>
    unfold execOp; rw [ho]
    split at hc
    · rename_i hs hd
      simp only [Option.some.injEq, Prod.mk.injEq, IOp.p.injEq] at hc; obtain ⟨rfl, rfl⟩ := hc
      exact lift_value (conv_sound hs hd hv he w)
    · rename_i hs hd
      simp only [Option.some.injEq, Prod.mk.injEq, IOp.p.injEq] at hc; obtain ⟨rfl, rfl⟩ := hc
      change xConvStr vs = some v at he
      unfold xConvStr at he
      split at he
      · rename_i s'
        simp only [Option.some.injEq] at he; subst he
        obtain ⟨x2, h1, h2⟩ := VRelL_one hv
        simp at h1; subst h1
        exact lift_value (convStr_sound hs hd h2 ⟨_, rfl⟩ w)
      · cases he
    · split at hc <;> cases hc
    · split at hc <;> cases hc
    · split at hc <;> cases hc
    · cases hc
  case slice t x lo hi mx =>
    unfold execOp; rw [ho]
    cases mx with
    | none =>
      simp only at hc
      split at hc
      · rename_i n e hu
        rw [Option.map_eq_some_iff] at hc
        obtain ⟨sz, hsz, h⟩ := hc
        simp only [Prod.mk.injEq, IOp.p.injEq] at h; obtain ⟨rfl, rfl⟩ := h
        change xSliceArr n sz lo.isSome hi.isSome vs = some v at he
        unfold xSliceArr at he
        split at he
        · split at he
          · rename_i l h hb
            obtain ⟨h1, h2⟩ := VRelL_map_cons hv
            obtain ⟨b1, b2⟩ := optArgs_ops hb h2
            exact lift_value (sliceArr_sound hu hsz he rfl rfl h1 b1 b2 w)
          · cases he
        · cases he
      · rename_i e hu
        rw [Option.map_eq_some_iff] at hc
        obtain ⟨sz, hsz, h⟩ := hc
        simp only [Prod.mk.injEq, IOp.p.injEq] at h; obtain ⟨rfl, rfl⟩ := h
        change xSlice sz lo.isSome hi.isSome vs = some v at he
        unfold xSlice at he
        split at he
        · split at he
          · rename_i l h hb
            obtain ⟨h1, h2⟩ := VRelL_map_cons hv
            obtain ⟨b1, b2⟩ := optArgs_ops hb h2
            obtain ⟨v', e1, e2⟩ := slice_sound hu hsz he h1 b1 b2 w
            refine lift_value ⟨v', ?_, e2⟩
            unfold Instr.sliceAt
            simp only [Sem.run_bind, run_underlying hu, Result.andThen_ok]
            exact e1
          · cases he
        · cases he
      · rename_i hu
        simp only [Option.some.injEq, Prod.mk.injEq, IOp.p.injEq] at hc; obtain ⟨rfl, rfl⟩ := hc
        change xSliceStr lo.isSome hi.isSome vs = some v at he
        unfold xSliceStr at he
        split at he
        · split at he
          · rename_i l h hb
            obtain ⟨h1, h2⟩ := VRelL_map_cons hv
            obtain ⟨b1, b2⟩ := optArgs_ops hb h2
            rw [VRel_str] at h1
            obtain ⟨v', e1, e2⟩ := sliceStr_sound hu he b1 b2 w
            refine lift_value ⟨v', ?_, e2⟩
            unfold Instr.sliceAt
            simp only [Sem.run_bind, run_underlying hu, Result.andThen_ok]
            rw [h1]
            exact e1
          · cases he
        · cases he
      · cases hc
    | some mx =>
      cases hi with
      | none => cases hc
      | some hi =>
        simp only at hc
        split at hc
        · rename_i e hu
          rw [Option.map_eq_some_iff] at hc
          obtain ⟨sz, hsz, h⟩ := hc
          simp only [Prod.mk.injEq, IOp.p.injEq] at h; obtain ⟨rfl, rfl⟩ := h
          change xSlice3 sz lo.isSome vs = some v at he
          unfold xSlice3 at he
          have fin : ∀ {a : Option (Nat × Nat)} {len cap opn l h m : Nat} {k1 k2 : IntKind}, slice3V sz a cap l h m = some v → VRel μ (.slice a len cap opn) (ρ x) → ((l = 0 ∧ lo.map ρ = none) ∨ ∃ k, lo.map ρ = some (.int k (Int.ofNat l))) →
              ρ hi = .int k1 (Int.ofNat h) → ρ mx = .int k2 (Int.ofNat m) → ∃ v', (do pure (Next.value (← Instr.sliceAt t (ρ x) (lo.map ρ) ((some hi).map ρ) ((some mx).map ρ))) : Sem Next).run P w = .ok (.value v') w ∧ VRel μ v v' := by
            intro a len cap opn l h m k1 k2 g1 g2 g3 g4 g5
            obtain ⟨v', e1, e2⟩ := slice3_sound hu hsz g1 g2 g3 g4 g5 w
            refine lift_value ⟨v', ?_, e2⟩
            unfold Instr.sliceAt
            simp only [Sem.run_bind, run_underlying hu, Result.andThen_ok]
            exact e1
          split at he
          · rename_i a len cap opn h m
            split at he
            · rename_i h' m' hlo hh hm
              cases lo with
              | some _ => simp at hlo
              | none =>
                obtain ⟨h1, h2⟩ := VRelL_map_cons hv
                obtain ⟨y1, y2, h3, h4, h5⟩ := VRelL_two h2
                simp at h3; obtain ⟨e1, e2⟩ := h3
                obtain ⟨k1, rfl⟩ := natOf_some hh
                obtain ⟨k2, rfl⟩ := natOf_some hm
                rw [VRel_int] at h4 h5
                exact fin he h1 (.inl ⟨rfl, rfl⟩) (e1.trans h4) (e2.trans h5)
            · cases he
          · rename_i a len cap opn l h m
            split at he
            · rename_i l' h' m' hlo hl hh hm
              cases lo with
              | none => simp at hlo
              | some lo =>
                obtain ⟨h1, h2⟩ := VRelL_map_cons hv
                obtain ⟨y0, y1, y2, h3, h6, h4, h5⟩ := VRelL_three h2
                simp at h3; obtain ⟨e0, e1, e2⟩ := h3
                obtain ⟨k0, rfl⟩ := natOf_some hl
                obtain ⟨k1, rfl⟩ := natOf_some hh
                obtain ⟨k2, rfl⟩ := natOf_some hm
                rw [VRel_int] at h4 h5 h6
                exact fin he h1 (.inr ⟨k0, by simp [e0, h6]⟩) (e1.trans h4) (e2.trans h5)
            · cases he
          · cases he
        · cases hc
  case fieldAddr t x f =>
    unfold execOp; rw [ho]
    split at hc
    · rename_i fs hu
      split at hc
      · rename_i fl hf
        split at hc
        · rename_i n hn
          split at hc
          · cases hc
          · rename_i h0
            simp only [Option.some.injEq, Prod.mk.injEq, IOp.p.injEq] at hc; obtain ⟨rfl, rfl⟩ := hc
            exact lift_value (fieldAddr_sound hu hf hn h0 hv he w)
        · cases hc
      · cases hc
    · cases hc
  case field t x f =>
    unfold execOp; rw [ho]
    split at hc
    · rename_i fs hu
      split at hc
      · rename_i fl hf
        split at hc
        · rename_i n b hn hb
          simp only [Option.some.injEq, Prod.mk.injEq, IOp.p.injEq] at hc; obtain ⟨rfl, rfl⟩ := hc
          exact lift_value (field_sound hu hf hn hb hv he w)
        · cases hc
      · cases hc
    · cases hc
  case indexAddr t x i =>
    unfold execOp; rw [ho]
    split at hc
    · rename_i n e hu
      rw [Option.map_eq_some_iff] at hc
      obtain ⟨sz, hsz, h⟩ := hc
      simp only [Prod.mk.injEq, IOp.p.injEq] at h; obtain ⟨rfl, rfl⟩ := h
      exact lift_value (indexAddrArr_sound hu hsz hv he w)
    · rename_i e hu
      rw [Option.map_eq_some_iff] at hc
      obtain ⟨sz, hsz, h⟩ := hc
      simp only [Prod.mk.injEq, IOp.p.injEq] at h; obtain ⟨rfl, rfl⟩ := h
      exact lift_value (indexAddr_sound hu hsz hv he w)
    · cases hc
  case index t x i =>
    unfold execOp; rw [ho]
    split at hc
    · rename_i n e hu
      split at hc
      · rename_i s b hs hb
        simp only [Option.some.injEq, Prod.mk.injEq, IOp.p.injEq] at hc; obtain ⟨rfl, rfl⟩ := hc
        exact lift_value (indexArr_sound hu hs hb hv he w)
      · cases hc
    · rename_i hu
      simp only [Option.some.injEq, Prod.mk.injEq, IOp.p.injEq] at hc; obtain ⟨rfl, rfl⟩ := hc
      exact lift_value (indexStr_sound hu hv he w)
    · cases hc
  case lookup t x i ok =>
    split at hc
    · split at hc <;> cases hc
    · cases hc
  case mapUpdate t m k x =>
    split at hc
    · split at hc <;> cases hc
    · cases hc
  case makeMap t r => cases r <;> cases hc
  case makeSlice t l c =>
    split at hc
    · split at hc
      · split at hc <;> cases hc
      · cases hc
    · cases hc
  case makeFunc fn first captured =>
    unfold execOp; rw [ho]
    cases fn <;> try (cases hc; done)
    rename_i f
    simp only [Option.some.injEq, Prod.mk.injEq, IOp.p.injEq] at hc; obtain ⟨rfl, rfl⟩ := hc
    change xFunc (.func f) first.size vs = some v at he
    simp only [xFunc, Option.some.injEq] at he; subst he
    refine lift_value ⟨.func (.func f) (first.map ρ) (captured.map ρ), rfl, ?_⟩
    simp only [VRel]
    rw [List.map_append] at hv
    have hl := VRelL_length hv
    have hl1 : (first.toList.map ρ).length = first.size := by simp
    refine ⟨_, _, rfl, ?_, ?_⟩
    · refine VRelL_of_get ?_ ?_
      · simp at hl ⊢; omega
      · intro i a ha
        rw [List.getElem?_take] at ha
        split at ha
        · rename_i hi
          obtain ⟨b, hb, hr⟩ := VRelL_get hv ha
          rw [List.getElem?_append_left (by rw [hl1]; exact hi)] at hb
          exact ⟨b, by simpa using hb, hr⟩
        · cases ha
    · refine VRelL_of_get ?_ ?_
      · simp at hl ⊢; omega
      · intro i a ha
        rw [List.getElem?_drop] at ha
        obtain ⟨b, hb, hr⟩ := VRelL_get hv ha
        rw [List.getElem?_append_right (by rw [hl1]; omega)] at hb
        have : first.size + i - (first.toList.map ρ).length = i := by rw [hl1]; omega
        rw [this] at hb
        exact ⟨b, by simpa using hb, hr⟩
  case makeInterface t x =>
    unfold execOp; rw [ho]
    split at hc
    · cases hc
    · rename_i d hni hu
      simp only [Option.some.injEq, Prod.mk.injEq, IOp.p.injEq] at hc; obtain ⟨rfl, rfl⟩ := hc
      change xIface t vs = some v at he
      unfold xIface at he
      split at he
      · simp only [Option.some.injEq] at he; subst he
        obtain ⟨x2, h1, h2⟩ := VRelL_one hv
        simp at h1; subst h1
        refine lift_value ⟨.iface t (ρ x), ?_, by simp only [VRel]; exact ⟨_, rfl, h2⟩⟩
        unfold Instr.makeInterface
        simp only [Sem.run_bind, run_underlying hu, Result.andThen_ok]
        first | rfl | (split <;> first | rfl | (rename_i q; exact absurd rfl (hni q)) | (rename_i q; exact (hni q rfl).elim))
      · cases he
    · cases hc
  case extract x i =>
    simp only [Option.some.injEq, Prod.mk.injEq, IOp.p.injEq] at hc; obtain ⟨rfl, rfl⟩ := hc
    unfold execOp; rw [ho]
    exact lift_value (extract_sound hv he w)
  case range t x => split at hc <;> cases hc
  case next x s => split at hc <;> cases hc
  case call c =>
    obtain ⟨callee, args, ts⟩ := c
    simp only at hc
    cases callee with
    | value f => cases hc
    | invoke r name => simp only at hc; split at hc <;> cases hc
    | builtin b =>
      simp only at hc
      unfold execOp; rw [ho]
      simp only [resolve, Sem.run_bind, Sem.run_pure, Result.andThen_ok]
      unfold compBuiltin at hc
      split at hc
      · split at hc
        · split at hc
          · split at hc <;> cases hc
          · split at hc <;> cases hc
        · cases hc
      · rename_i hu
        simp only [Option.some.injEq, Prod.mk.injEq, IOp.p.injEq] at hc; obtain ⟨rfl, rfl⟩ := hc
        rw [Option.bind_eq_some_iff] at hu
        obtain ⟨t, ht, hu⟩ := hu
        exact lift_value (len_str_sound ht hu hv he _ w)
      · rename_i e hu
        simp only [Option.some.injEq, Prod.mk.injEq, IOp.p.injEq] at hc; obtain ⟨rfl, rfl⟩ := hc
        rw [Option.bind_eq_some_iff] at hu
        obtain ⟨t, ht, hu⟩ := hu
        exact lift_value (len_sl_sound ht hu hv he _ w)
      · cases hc
      · rename_i n e hu
        simp only [Option.some.injEq, Prod.mk.injEq, IOp.p.injEq] at hc; obtain ⟨rfl, rfl⟩ := hc
        rw [Option.bind_eq_some_iff] at hu
        obtain ⟨t, ht, hu⟩ := hu
        exact lift_value (len_arr_sound ht hu hv he _ w)
      · rw [Option.bind_eq_some_iff] at hc; obtain ⟨_, _, h⟩ := hc; split at h <;> cases h
      · rw [Option.map_eq_some_iff] at hc; obtain ⟨_, _, h⟩ := hc; cases h
      · simp only [Option.some.injEq, Prod.mk.injEq, IOp.p.injEq] at hc; obtain ⟨rfl, rfl⟩ := hc
        obtain ⟨x, r, h1, h2⟩ := fold_sound (P := P) min2_ok hv he w
        refine lift_value ?_
        unfold Builtin.min_
        have : (args.map ρ).toList = x :: r := by rw [Array.toList_map]; exact h1
        simp only [this]
        exact h2
      · simp only [Option.some.injEq, Prod.mk.injEq, IOp.p.injEq] at hc; obtain ⟨rfl, rfl⟩ := hc
        obtain ⟨x, r, h1, h2⟩ := fold_sound (P := P) max2_ok hv he w
        refine lift_value ?_
        unfold Builtin.max_
        have : (args.map ρ).toList = x :: r := by rw [Array.toList_map]; exact h1
        simp only [this]
        exact h2
      · cases hc
end
end Go.Proofs.YtjjdminaacibeaaGreatDoor.Ev
/- The operations that read memory, against the model. -/
namespace Go.Proofs.YtjjdminaacibeaaGreatDoor.Ev

section
variable {P : Program} {tab : String → List (TypeId × FuncId)} {μ : Mu} {h : Heap} {w : World}

theorem Sim.row_of (hs : Sim P tab μ h w) {a : Nat} {l : Loc} (ha : μ a = some l) {cs : List AV} (hr : h.get a = some (.row cs)) :
    ∃ b o e c t fr, l = .row b o e ∧ w.heap[b]? = some (.cells c t fr) ∧ Free fr c.size ∧ o + cs.length ≤ e ∧ e ≤ c.size ∧ ∀ i v, cs[i]? = some v → v.scalar = true ∧ ∃ v', c[o + i]? = some v' ∧ VRel μ v v' := by
  cases l with
  | row b o e =>
    obtain ⟨ob, h1, h2⟩ := hs.live a _ ha rfl
    rw [hr] at h1; cases h1
    simp only [ObjRel] at h2
    obtain ⟨c, t, fr, h3, h4, h5, h6, h7⟩ := h2
    exact ⟨b, o, e, c, t, fr, rfl, h3, h4, h5, h6, h7⟩
  | obj b =>
    obtain ⟨ob, h1, h2⟩ := hs.live a _ ha rfl
    rw [hr] at h1; cases h1
    exact h2.elim
  | ro b o =>
    obtain ⟨ob, h1, h2⟩ := hs.ro a b o ha
    rw [hr] at h1; cases h1
    exact h2.elim
  | dead => rw [hs.dead a ha] at hr; cases hr

/-- A row that is read. -/
theorem Sim.read_of (hs : Sim P tab μ h w) {a : Nat} {l : Loc} (ha : μ a = some l) {cs : List AV} (hr : rowR h a = some cs) :
    ∃ b o c t fr, (∀ off ad, l.isAt off ad → ad = ⟨b, o + off, none⟩) ∧ w.heap[b]? = some (.cells c t fr) ∧ o + cs.length ≤ c.size ∧ ∀ i v, cs[i]? = some v → v.scalar = true ∧ ∃ v', c[o + i]? = some v' ∧ VRel μ v v' := by
  unfold rowR at hr
  split at hr <;> try (cases hr; done)
  · rename_i cs' hg
    simp only [Option.some.injEq] at hr; subst hr
    obtain ⟨b, o, e, c, t, fr, rfl, h1, h2, h3, h4, h5⟩ := hs.row_of ha hg
    exact ⟨b, o, c, t, fr, fun _ _ h => h, h1, by omega, h5⟩
  · rename_i cs' hg
    simp only [Option.some.injEq] at hr; subst hr
    cases l with
    | row b o e =>
      obtain ⟨ob, h1, h2⟩ := hs.live a _ ha rfl
      rw [hg] at h1; cases h1
      exact h2.elim
    | obj b =>
      obtain ⟨ob, h1, h2⟩ := hs.live a _ ha rfl
      rw [hg] at h1; cases h1
      exact h2.elim
    | dead => rw [hs.dead a ha] at hg; cases hg
    | ro b o =>
      obtain ⟨ob, h1, h2⟩ := hs.ro a b o ha
      rw [hg] at h1; cases h1
      simp only [ObjRel] at h2
      obtain ⟨c, t, fr, h3, h4, h5⟩ := h2
      exact ⟨b, o, c, t, fr, fun _ _ h => h, h3, h4, h5⟩

/-- Cells of a block of the model's, read. -/
theorem load_at {b k n : Nat} {c : Array Value} {t : TypeId} {fr : Nat × Nat} (h1 : w.heap[b]? = some (.cells c t fr)) {r : List AV} (hlen : r.length = n) (hr : ∀ (j : Nat) (v : AV), r[j]? = some v → v.scalar = true ∧ ∃ v', c[k + j]? = some v' ∧ VRel μ v v') :
    ∃ r' : List Value, (loadCells ⟨b, k, none⟩ n).run P w = .ok r'.toArray w ∧ VRelL μ r r' ∧ r.all AV.scalar = true := by
  have hin : ∀ j, j < n → k + j < c.size := by
    intro j hj
    obtain ⟨_, v', h2, _⟩ := hr j (r[j]'(by omega)) (List.getElem?_eq_getElem (by omega))
    exact (Array.getElem?_eq_some_iff.1 h2).1
  have hcell : ∀ j, j < n → w.cell? ((⟨b, k, none⟩ : Addr).add j) = some (c.getD (k + j) undef) := by
    intro j hj
    rw [addr_add, cell_at h1]
    have := hin j hj
    simp [Array.getD, this]
  refine ⟨(List.range n).map fun j => c.getD (k + j) undef, run_loadCells (P := P) w _ n _ hcell, VRelL_of_get (by simp [hlen]) ?_, ?_⟩
  · intro i v hv
    have hi : i < n := by rw [← hlen]; exact (List.getElem?_eq_some_iff.1 hv).1
    obtain ⟨_, v', h6, h7⟩ := hr i v hv
    refine ⟨v', ?_, h7⟩
    rw [List.getElem?_map, List.getElem?_range hi]
    simp only [Option.map_some]
    congr 1
    simp [Array.getD_eq_getD_getElem?, h6]
  · exact all_scalar_of_get fun i v hv => (hr i v hv).1

theorem repL_at {p : List AV} (hp : p ≠ []) {c i j : Nat} (hi : i < c) (hj : j < p.length) : (repL c p)[i * p.length + j]? = p[j]? := by
  have hlt : i * p.length + j < c * p.length := by
    have : (i + 1) * p.length ≤ c * p.length := Nat.mul_le_mul_right _ hi
    rw [Nat.add_mul] at this; omega
  rw [repL_get c p hp, if_pos hlt, Nat.mul_comm i, Nat.mul_add_mod, Nat.mod_eq_of_lt hj]

/-- n cells of a row, read. -/
theorem load_cells (hs : Sim P tab μ h w) {a : Nat} {l : Loc} (ha : μ a = some l) {cs : List AV} (hr : rowR h a = some cs) {off n : Nat} {r : List AV} (ht : takeL cs off n = some r) {ad : Addr} (had : l.isAt off ad ∨ n = 0) :
    ∃ r' : List Value, (loadCells ad n).run P w = .ok r'.toArray w ∧ VRelL μ r r' ∧ r.all AV.scalar = true := by
  obtain ⟨b, o, c, t, fr, hat, h1, h3, h5⟩ := hs.read_of ha hr
  obtain ⟨hb, hreq⟩ := takeL_some ht
  have hlen := takeL_length ht
  rcases had with had | rfl
  · have had := hat _ _ had
    subst had
    have hcell : ∀ j, j < n → w.cell? ((⟨b, o + off, none⟩ : Addr).add j) = some (c.getD (o + off + j) undef) := by
      intro j hj
      rw [addr_add, cell_at h1]
      have : o + off + j < c.size := by omega
      simp [Array.getD, this]
    refine ⟨(List.range n).map fun j => c.getD (o + off + j) undef, run_loadCells (P := P) w _ n _ hcell, VRelL_of_get (by simp [hlen]) ?_, ?_⟩
    · intro i v hv
      have hi : i < n := by rw [← hlen]; exact (List.getElem?_eq_some_iff.1 hv).1
      rw [takeL_get ht i hi] at hv
      obtain ⟨_, v', h6, h7⟩ := h5 _ _ hv
      refine ⟨v', ?_, h7⟩
      rw [List.getElem?_map, List.getElem?_range hi]
      simp only [Option.map_some]
      congr 1
      rw [show o + off + i = o + (off + i) by omega]
      simp [Array.getD_eq_getD_getElem?, h6]
    · refine all_scalar_of_get fun i v hv => ?_
      have hi : i < n := by rw [← hlen]; exact (List.getElem?_eq_some_iff.1 hv).1
      rw [takeL_get ht i hi] at hv
      exact (h5 _ _ hv).1
  · have : r = [] := List.length_eq_zero_iff.1 hlen
    subst this
    exact ⟨[], rfl, VRelL_nil.2 rfl, rfl⟩

theorem rle_sound (hs : Sim P tab μ h w) {t : TypeId} {n : Nat} {b : Bool} (h1 : sizeT P t = some n) (h2 : aggT P t = some b) {a off sz : Nat} {e : SE} {K : SK} {x' : Value} {sz' : Nat} {p : List AV} {cnt : Nat} (hg : h.get a = some (.rle sz' [(p, cnt)]) ∨ h.get a = some (.rrle sz' [(p, cnt)]))
    (hv : VRelL μ [.sptr a off sz e K] [x']) {v : AV} (he : rleLoad b n off sz e K sz' p cnt = some v) : ∃ v', (Instr.loadAt t x').run P w = .ok v' w ∧ VRel μ v v' := by
  obtain ⟨x2, e1, e2⟩ := VRelL_one hv
  simp at e1; subst e1
  simp only [VRel] at e2
  obtain ⟨ad, l, rfl, g1, g2, hK⟩ := e2
  unfold rleLoad at he
  split at he <;> try (cases he; done)
  rename_i hc hle
  simp only [Bool.and_eq_true, Nat.beq_eq] at hc
  obtain ⟨⟨rfl, hoff⟩, hs0⟩ := hc
  have p1 := SK.sure_ok hK hs0
  rw [SE.lin_ok] at p1
  have p2 := of_decide_eq_true (SK.le_ok hK hle).symm
  simp only [SE.eval] at p2
  obtain ⟨q, hq⟩ := Int.eq_ofNat_of_zero_le p1
  rw [hq] at p2
  have hqn : (e.eval μ.val).toNat = q := by rw [hq]; rfl
  rw [hqn] at g2
  have hoff : off % sz = 0 := hoff
  have p2 : off / sz + q < cnt := by
    have : (q : Int) + ((off / sz + 1 : Nat) : Int) ≤ (cnt : Int) := p2
    omega
  have hdiv : off + q * sz = (off / sz + q) * sz := by
    rw [Nat.add_mul]
    have := Nat.div_add_mod off sz
    rw [hoff, Nat.mul_comm] at this
    omega
  obtain ⟨bk, o, c, t', fr, had, h5, h6, hsz, hpl⟩ : ∃ bk o c t' fr, ad = ⟨bk, o + (off + q * sz), none⟩ ∧ w.heap[bk]? = some (.cells c t' fr) ∧
      (∀ (i : Nat) (v : AV), (expand [(p, cnt)])[i]? = some v → v.scalar = true ∧ ∃ v', c[o + i]? = some v' ∧ VRel μ v v') ∧ 0 < sz ∧ ∀ x ∈ [(p, cnt)], x.1.length = sz := by
    rcases hg with hg | hg
    · cases l with
      | obj b => obtain ⟨ob, h3, h4⟩ := hs.live a _ g1 rfl; rw [hg] at h3; cases h3; exact h4.elim
      | dead => rw [hs.dead a g1] at hg; cases hg
      | ro b o => obtain ⟨ob, h3, h4⟩ := hs.ro a b o g1; rw [hg] at h3; cases h3; exact h4.elim
      | row b o e' =>
        obtain ⟨ob, h3, h4⟩ := hs.live a _ g1 rfl
        rw [hg] at h3; cases h3
        simp only [ObjRel] at h4
        obtain ⟨⟨c, t', fr, h5, _, _, _, h6⟩, hsz, hpl⟩ := h4
        exact ⟨b, o, c, t', fr, g2, h5, h6, hsz, hpl⟩
    · cases l with
      | obj b => obtain ⟨ob, h3, h4⟩ := hs.live a _ g1 rfl; rw [hg] at h3; cases h3; exact h4.elim
      | dead => rw [hs.dead a g1] at hg; cases hg
      | row b o e' => obtain ⟨ob, h3, h4⟩ := hs.live a _ g1 rfl; rw [hg] at h3; cases h3; exact h4.elim
      | ro b o =>
        obtain ⟨ob, h3, h4⟩ := hs.ro a b o g1
        rw [hg] at h3; cases h3
        simp only [ObjRel] at h4
        obtain ⟨⟨c, t', fr, h5, h6⟩, hsz, hpl⟩ := h4
        exact ⟨b, o, c, t', fr, g2, h5, h6, hsz, hpl⟩
  clear g2
  subst had
  have hpl : p.length = sz := hpl (p, cnt) (by simp)
  have hpne : p ≠ [] := by intro e0; rw [e0] at hpl; simp at hpl; omega
  have hcells : ∀ (j : Nat) (v : AV), p[j]? = some v → v.scalar = true ∧ ∃ v', c[o + (off + q * sz) + j]? = some v' ∧ VRel μ v v' := by
    intro j v hj
    have hjl := (List.getElem?_eq_some_iff.1 hj).1
    have := h6 ((off / sz + q) * sz + j) v (by
      simp only [expand, List.append_nil]
      have hr := repL_at hpne p2 hjl
      rw [hpl] at hr
      rw [hr]; exact hj)
    rw [hdiv, Nat.add_assoc]; exact this
  unfold Instr.loadAt loadVar
  simp only [Sem.run_bind, Instr.sureAddr, Sem.run_pure, Result.andThen_ok, run_isAgg h2]
  cases b with
  | true =>
    simp only [partL, Option.map_eq_some_iff] at he
    obtain ⟨r, hr2, rfl⟩ := he
    obtain ⟨hb1, hreq⟩ := takeL_some hr2
    have hlen := takeL_length hr2
    obtain ⟨r', e3, e4, e5⟩ := load_at (P := P) (μ := μ) h5 hlen (fun j v hj => by
      have hj2 : j < n := by rw [← hlen]; exact (List.getElem?_eq_some_iff.1 hj).1
      rw [takeL_get hr2 j hj2, Nat.zero_add] at hj
      exact hcells j v hj)
    simp only [if_true, Sem.run_bind, run_sizeOf h1, Result.andThen_ok, e3, Sem.run_pure]
    exact ⟨_, rfl, by simp only [VRel]; exact ⟨_, rfl, by simpa using e4, e5⟩⟩
  | false =>
    simp only [partL, nth_eq] at he
    obtain ⟨_, v', f6, f7⟩ := hcells 0 v he
    simp only [Nat.add_zero] at f6
    simp only [Bool.false_eq_true, if_false, run_load, cell_at h5, f6]
    exact ⟨v', rfl, f7⟩

theorem load_sound (hs : Sim P tab μ h w) {t : TypeId} {n : Nat} {b : Bool} (h1 : sizeT P t = some n) (h2 : aggT P t = some b) {vs : List AV} {x' : Value} (hv : VRelL μ vs [x']) {v : AV} (he : rLoad b n h vs = some v) :
    ∃ v', (Instr.loadAt t x').run P w = .ok v' w ∧ VRel μ v v' := by
  unfold rLoad at he
  split at he
  · rename_i a off
    split at he
    · rename_i cs hr
      obtain ⟨x2, e1, e2⟩ := VRelL_one hv
      simp at e1; subst e1
      obtain ⟨ad, l, rfl, g1, g2, g3⟩ := sureAddr_rel e2
      unfold Instr.loadAt loadVar
      simp only [Sem.run_bind, g3, Result.andThen_ok, run_isAgg h2]
      cases b with
      | true =>
        simp only [partL, Option.map_eq_some_iff] at he
        obtain ⟨r, hr2, rfl⟩ := he
        obtain ⟨r', e3, e4, e5⟩ := load_cells hs g1 hr hr2 (.inl g2)
        simp only [if_true, Sem.run_bind, run_sizeOf h1, Result.andThen_ok, e3, Sem.run_pure]
        exact ⟨_, rfl, by simp only [VRel]; exact ⟨_, rfl, by simpa using e4, e5⟩⟩
      | false =>
        simp only [partL, nth_eq] at he
        obtain ⟨b', o, c, t', fr, hat, f1, f4, f5⟩ := hs.read_of g1 hr
        obtain ⟨_, v', f6, f7⟩ := f5 _ _ he
        have g2 := hat _ _ g2
        subst g2
        simp only [Bool.false_eq_true, if_false, run_load, cell_at f1, f6]
        exact ⟨v', rfl, f7⟩
    · cases he
  · rename_i a off sz e K
    split at he <;> try (cases he; done)
    rotate_left
    · rename_i hg; exact rle_sound hs h1 h2 (.inl hg) hv he
    · rename_i hg; exact rle_sound hs h1 h2 (.inr hg) hv he
    rename_i k base ln hg
    obtain ⟨x2, e1, e2⟩ := VRelL_one hv
    simp at e1; subst e1
    simp only [VRel] at e2
    obtain ⟨ad, l, rfl, g1, g2, hK⟩ := e2
    unfold symLoad at he
    split at he <;> try (cases he; done)
    rename_i hc hle
    simp only [Bool.and_eq_true, Bool.not_eq_true', Nat.beq_eq] at hc
    obtain ⟨⟨⟨⟨rfl, rfl⟩, rfl⟩, rfl⟩, hs0⟩ := hc
    simp only [Option.some.injEq] at he; subst he
    have p1 := SK.sure_ok hK hs0
    rw [SE.lin_ok] at p1
    have p2 := of_decide_eq_true (SK.le_ok hK hle).symm
    simp only [SE.eval] at p2
    cases l with
    | row b o e' =>
      obtain ⟨ob, h3, h4⟩ := hs.live a _ g1 rfl
      rw [hg] at h3; cases h3
      exact h4.elim
    | obj b =>
      obtain ⟨ob, h3, h4⟩ := hs.live a _ g1 rfl
      rw [hg] at h3; cases h3
      exact h4.elim
    | dead => rw [hs.dead a g1] at hg; cases hg
    | ro b o =>
      obtain ⟨ob, h3, h4⟩ := hs.ro a b o g1
      rw [hg] at h3; cases h3
      simp only [ObjRel] at h4
      obtain ⟨c, t', fr, h5, h6⟩ := h4
      obtain ⟨j, hj⟩ := Int.eq_ofNat_of_zero_le p1
      have hjn : (e.eval μ.val).toNat = j := by rw [hj]; rfl
      rw [hjn] at g2
      simp only [Loc.isAt, Nat.zero_add, Nat.mul_one] at g2
      subst g2
      have h7 := h6 j (by show (j : Int) < _; omega)
      unfold Instr.loadAt loadVar
      simp only [Sem.run_bind, Instr.sureAddr, Sem.run_pure, Result.andThen_ok, run_isAgg h2, Bool.false_eq_true, if_false, run_load, cell_at h5, h7]
      refine ⟨_, rfl, ?_⟩
      simp only [VRel, SE.eval, hjn]
      exact ⟨trivial, hK⟩
  · cases he

theorem bytes_fold : ∀ (ns : List Int) (s : ByteArray), ns.foldl (fun r n => r.push (UInt8.ofNat n.toNat)) s = ⟨s.data ++ (ns.map fun n => UInt8.ofNat n.toNat).toArray⟩
  | [], s => by simp
  | n :: ns, s => by
    rw [List.foldl_cons, bytes_fold ns]
    apply ByteArray.ext
    simp [ByteArray.push]

theorem bytesOfCells_some : ∀ {cs : List AV} {s : List UInt8}, bytesOfCells cs = some s → ∃ ns : List Int, cs = ns.map (AV.int .u8) ∧ s = ns.map fun n => UInt8.ofNat n.toNat
  | [], s, h => by simp [bytesOfCells] at h; subst h; exact ⟨[], rfl, rfl⟩
  | v :: cs, s, h => by
    unfold bytesOfCells at h
    split at h
    · cases ‹v :: cs = []›
    · rename_i n vs heq
      cases heq
      rw [Option.map_eq_some_iff] at h
      obtain ⟨s', h1, rfl⟩ := h
      obtain ⟨ns, rfl, rfl⟩ := bytesOfCells_some h1
      exact ⟨n :: ns, rfl, rfl⟩
    · cases h

theorem VRelL_ints {k : IntKind} : ∀ {ns : List Int} {vs : List Value}, VRelL μ (ns.map (AV.int k)) vs → vs = ns.map (Value.int k)
  | [], vs, h => VRelL_nil.1 h
  | n :: ns, vs, h => by
    obtain ⟨b, bs, rfl, h1, h2⟩ := VRelL_cons.1 h
    rw [VRel_int] at h1; subst h1
    rw [VRelL_ints h2]; rfl

theorem isU8_spec {e : TypeId} (h : isU8 P e = true) : P.underlying e = some (.int .u8) := by
  unfold isU8 at h
  split at h
  · assumption
  · cases h

theorem bytes_sound (hs : Sim P tab μ h w) {s d e : TypeId} (h1 : P.underlying s = some (.slice e)) (h2 : P.underlying d = some .string) (h3 : isU8 P e = true) {vs : List AV} {x' : Value} (hv : VRelL μ vs [x']) {v : AV} (he : rBytes h vs = some v) :
    ∃ v', (convert s d x').run P w = .ok v' w ∧ VRel μ v v' := by
  have h3 := isU8_spec h3
  unfold rBytes at he
  split at he
  · simp only [Option.some.injEq] at he; subst he
    obtain ⟨x2, e1, e2⟩ := VRelL_one hv
    simp at e1; subst e1
    simp only [VRel] at e2; obtain ⟨rfl, _⟩ := e2
    rw [run_convert_bytes_string w s d e _ _ _ h1 h3 h2]
    exact ⟨_, rfl, by simp only [VRel]; rfl⟩
  · rename_i a off len cap opn
    split at he
    · rename_i cs hr
      split at he
      · rename_i r hr2
        rw [Option.map_eq_some_iff] at he
        obtain ⟨s', hs', rfl⟩ := he
        obtain ⟨x2, e1, e2⟩ := VRelL_one hv
        simp at e1; subst e1
        simp only [VRel] at e2
        obtain ⟨ad, c', l, rfl, g1, g2, g3, g4, g5⟩ := e2
        obtain ⟨r', e3, e4, e5⟩ := load_cells hs g1 hr hr2 (ad := ad) (by
          by_cases h0 : len = 0
          · exact .inr h0
          · exact .inl (isAt_of_isSl g5 (by omega)))
        obtain ⟨ns, rfl, rfl⟩ := bytesOfCells_some hs'
        have := VRelL_ints e4
        subst this
        rw [run_convert_bytes_string w s d e _ _ _ h1 h3 h2, run_bytesToString (P := P) w ad len c' ns e3, bytes_fold]
        exact ⟨_, rfl, by simp only [VRel]; simp⟩
      · cases he
    · cases he
  · cases he

/-! ### Maps with strings for keys -/
theorem beq_mk (a b : List UInt8) : ((⟨a.toArray⟩ : ByteArray) == ⟨b.toArray⟩) = decide (a = b) := by
  rw [Bool.eq_iff_iff, decide_eq_true_iff]
  show ((a.toArray == b.toArray) = true) ↔ _
  rw [beq_iff_eq]
  constructor
  · intro h; simpa using h
  · intro h; rw [h]

theorem findNow_rel (k : List UInt8) : ∀ (l : List (List UInt8 × AV)) (es : List MapEntry) (i : Nat), entRel μ l es →
    match findStr k l with
    | none => Instr.findNow .string (.string ⟨k.toArray⟩) es i = some none
    | some v => ∃ j v', Instr.findNow .string (.string ⟨k.toArray⟩) es i = some (some (j, v')) ∧ VRel μ v v'
  | [], es, i, h => by simp only [entRel] at h; subst h; rfl
  | (a, v) :: l, es, i, h => by
    simp only [entRel] at h
    obtain ⟨e, es', rfl, h1, h2, h3⟩ := h
    simp only [findStr, beqBytes_eq, Instr.findNow, Instr.sameNow, h1, beq_mk]
    by_cases hk : k = a
    · simp only [hk, decide_true]
      exact ⟨i, e.val, rfl, h2⟩
    · simp only [hk, decide_false]
      exact findNow_rel k l es' (i + 1) h3

theorem mapAt_rel (hs : Sim P tab μ h w) {r : Option Nat} {es : List (List UInt8 × AV)} (he : mapAt h r = some es) {x' : Value} (hx : VRel μ (.map r) x') :
    (r = none ∧ x' = .map none ∧ es = []) ∨ ∃ a b l es' clock, r = some a ∧ x' = .map (some b) ∧ μ a = some l ∧ l.blk = some b ∧ w.heap[b]? = some (.map es' clock) ∧ entRel μ es es'.toList ∧ h.get a = some (.map es) := by
  cases r with
  | none =>
    simp only [mapAt, Option.some.injEq] at he; subst he
    simp only [VRel] at hx
    exact .inl ⟨rfl, hx, rfl⟩
  | some a =>
    simp only [mapAt] at he
    split at he
    · rename_i es0 hg
      simp only [Option.some.injEq] at he; subst he
      simp only [VRel] at hx
      obtain ⟨b, l, rfl, h1, h2⟩ := hx
      cases l with
      | row _ _ _ => exact h2.elim
      | obj b' =>
        simp only [Loc.isObj] at h2; subst h2
        obtain ⟨ob, h3, h4⟩ := hs.live a _ h1 rfl
        rw [hg] at h3; cases h3
        simp only [ObjRel] at h4
        obtain ⟨es', clock, h5, h6⟩ := h4
        exact .inr ⟨a, b, _, es', clock, rfl, rfl, h1, rfl, h5, h6, hg⟩
      | ro _ _ => exact h2.elim
      | dead => rw [hs.dead a h1] at hg; cases hg
    · cases he

theorem run_checkKey_str {k : TypeId} (hk : P.underlying k = some .string) (b : Bool) (s : ByteArray) (w : World) : (Instr.checkKey b 10000 k (.string s)).run P w = .ok () w := by
  show (Instr.checkKey b (9999 + 1) k (.string s)).run P w = _
  unfold Instr.checkKey
  simp only [Sem.run_bind, run_underlying hk, Result.andThen_ok]
  rfl

theorem run_getObj {b : Nat} {o : Obj} (hb : w.heap[b]? = some o) (ho : ∀ c t fr, o ≠ .cells c t fr) : (getObj b).run P w = .ok o w := by
  unfold getObj
  simp only [Sem.run, hb]

theorem lookup_sound (hs : Sim P tab μ h w) {t kt et : TypeId} (hu : P.underlying t = some (.map kt et)) (hk : P.underlying kt = some .string) {z : AV} (hz : zeroT P et = some z) {ok : Bool} {vs : List AV} {x' k' : Value} (hv : VRelL μ vs [x', k']) {v : AV}
    (he : rLookup z ok h vs = some v) : ∃ v', (Instr.lookup t x' k' ok).run P w = .ok v' w ∧ VRel μ v v' := by
  unfold rLookup at he
  split at he
  · rename_i r k
    split at he
    · rename_i es hes
      obtain ⟨x2, k2, e1, e2, e3⟩ := VRelL_two hv
      simp at e1; obtain ⟨rfl, rfl⟩ := e1
      rw [VRel_str] at e3; subst e3
      obtain ⟨z', g1, g2⟩ := run_zeroValue hz w
      have hzr := toAV_rel μ g2
      have key : ∀ es' : Array MapEntry, entRel μ es es'.toList → ∃ v', (do
          Instr.checkKey es'.isEmpty 10000 kt (.string ⟨k.toArray⟩)
          let (v, ok') ← match ← Instr.findKey kt (.string ⟨k.toArray⟩) es'.toList with
            | some (_, v) => pure (v, true)
            | none => pure (← zeroValue et, false)
          pure (if ok then .tuple #[v, .bool ok'] else v) : Sem Value).run P w = .ok v' w ∧ VRel μ v v' := by
        intro es' hrel
        have hf := findNow_rel (μ := μ) k es es'.toList 0 hrel
        simp only [Sem.run_bind, run_checkKey_str hk, Result.andThen_ok, Instr.findKey, run_underlying hk]
        cases hfs : findStr k es with
        | none =>
          rw [hfs] at hf
          simp only [hf, Sem.run_pure, Result.andThen_ok, Sem.run_bind, g1]
          rw [hfs] at he
          cases ok with
          | true => simp at he; subst he; exact ⟨_, rfl, by simp only [VRel]; exact ⟨_, rfl, VRelL_cons'.2 ⟨hzr, VRelL_cons'.2 ⟨VRel_bool.2 rfl, VRelL_nil.2 rfl⟩⟩⟩⟩
          | false => simp at he; subst he; exact ⟨_, rfl, hzr⟩
        | some u =>
          rw [hfs] at hf
          obtain ⟨j, u', f1, f2⟩ := hf
          simp only [f1, Sem.run_pure, Result.andThen_ok]
          rw [hfs] at he
          cases ok with
          | true => simp at he; subst he; exact ⟨_, rfl, by simp only [VRel]; exact ⟨_, rfl, VRelL_cons'.2 ⟨f2, VRelL_cons'.2 ⟨VRel_bool.2 rfl, VRelL_nil.2 rfl⟩⟩⟩⟩
          | false => simp at he; subst he; exact ⟨_, rfl, f2⟩
      unfold Instr.lookup
      simp only [Sem.run_bind, run_underlying hu, Result.andThen_ok]
      rcases mapAt_rel hs hes e2 with ⟨rfl, rfl, rfl⟩ | ⟨a, b, l, es', clock, rfl, rfl, f1, f2, f3, f4, _⟩
      · obtain ⟨v', m1, m2⟩ := key #[] rfl
        simp only [Sem.run_bind] at m1
        simp only [Sem.run_bind, Sem.run_pure, Result.andThen_ok]
        exact ⟨v', m1, m2⟩
      · obtain ⟨v', m1, m2⟩ := key es' f4
        simp only [Sem.run_bind] at m1
        simp only [Sem.run_bind, run_getObj f3 (by simp), Result.andThen_ok, Sem.run_pure]
        exact ⟨v', m1, m2⟩
    · cases he
  · cases he

theorem entRel_length : ∀ {l : List (List UInt8 × AV)} {es : List MapEntry}, entRel μ l es → l.length = es.length
  | [], es, h => by simp only [entRel] at h; subst h; rfl
  | (k, v) :: l, es, h => by
    simp only [entRel] at h
    obtain ⟨e, es', rfl, _, _, h3⟩ := h
    simp [entRel_length h3]

theorem lenMap_sound (hs : Sim P tab μ h w) {ts : Array TypeId} {t kt et : TypeId} (ht : ts[0]? = some t) (hu : P.underlying t = some (.map kt et)) {args : Array Operand} {ρ : Operand → Value} {vs : List AV} (hv : VRelL μ vs (args.toList.map ρ)) {v : AV}
    (he : rLenMap h vs = some v) (ty : TypeId) : ∃ v', (Builtin.len_ ts ty (args.map ρ)).run P w = .ok v' w ∧ VRel μ v v' := by
  unfold rLenMap at he
  split at he
  · rename_i r
    split at he
    · rename_i es hes
      simp only [Option.some.injEq] at he; subst he
      obtain ⟨x2, h1, h2⟩ := VRelL_one hv
      have ha : (args.map ρ)[0]? = some x2 := by rw [← Array.getElem?_toList]; simp only [Array.toList_map, h1]; rfl
      unfold Builtin.len_
      simp only [ht, ha, Sem.run_bind, run_underlying hu, Result.andThen_ok]
      rcases mapAt_rel hs hes h2 with ⟨rfl, rfl, rfl⟩ | ⟨a, b, l, es', clock, rfl, rfl, f1, f2, f3, f4, _⟩
      · exact ⟨_, rfl, by simp only [VRel]; rfl⟩
      · simp only [Sem.run_bind, run_getObj f3 (by simp), Result.andThen_ok, Sem.run_pure]
        refine ⟨_, rfl, ?_⟩
        simp only [VRel]
        have := entRel_length f4
        simp at this
        rw [this]; rfl
    · cases he
  · cases he

theorem rop_sound (hs : Sim P tab μ h w) {op : Op} {p : ROp} {xs : List Operand} (hc : compOp P tab op = some (.r p, xs)) {ρ : Operand → Value} {vs : List AV} (hv : VRelL μ vs (xs.map ρ)) {v : AV} (he : p.exec vs h = some v)
    {o : Oper} (ho : o.op = op) : ∃ v', (execOp ρ o).run P w = .ok (.value v') w ∧ VRel μ v v' := by
  cases op <;> simp only [compOp] at hc <;> try (cases hc; done)
  case alloc e => rw [Option.map_eq_some_iff] at hc; obtain ⟨_, _, h⟩ := hc; cases h
  case build t parts => split at hc <;> cases hc
  case buildSlice t n parts =>
    split at hc
    · split at hc
      · split at hc
        · cases hc
        · cases hc
      · cases hc
    · cases hc
  case load t x =>
    split at hc
    · rename_i b n h1 h2
      simp only [Option.some.injEq, Prod.mk.injEq, IOp.r.injEq] at hc; obtain ⟨rfl, rfl⟩ := hc
      unfold execOp; rw [ho]
      exact lift_value (load_sound hs h2 h1 hv he)
    · cases hc
  case store t x y => rw [Option.map_eq_some_iff] at hc; obtain ⟨_, _, h⟩ := hc; cases h
  case binOp bop t x y yt =>
    split at hc <;> first | (cases hc; done) | (split at hc <;> cases hc; done)
  case convert s d x =>
    unfold execOp; rw [ho]
    split at hc
    · cases hc
    · cases hc
    · rename_i e hs' hd
      split at hc
      · rename_i h8
        simp only [Option.some.injEq, Prod.mk.injEq, IOp.r.injEq] at hc; obtain ⟨rfl, rfl⟩ := hc
        exact lift_value (bytes_sound hs hs' hd h8 hv he)
      · cases hc
    · split at hc <;> cases hc
    · split at hc <;> cases hc
    · cases hc
  case slice t x lo hi mx =>
    cases mx with
    | none =>
      simp only at hc
      split at hc
      · rw [Option.map_eq_some_iff] at hc; obtain ⟨_, _, h⟩ := hc; cases h
      · rw [Option.map_eq_some_iff] at hc; obtain ⟨_, _, h⟩ := hc; cases h
      · cases hc
      · cases hc
    | some mx =>
      cases hi with
      | none => cases hc
      | some hi =>
        simp only at hc
        split at hc
        · rw [Option.map_eq_some_iff] at hc; obtain ⟨_, _, h⟩ := hc; cases h
        · cases hc
  case fieldAddr t x f =>
    split at hc
    · split at hc
      · split at hc
        · split at hc <;> cases hc
        · cases hc
      · cases hc
    · cases hc
  case field t x f =>
    split at hc
    · split at hc
      · split at hc <;> cases hc
      · cases hc
    · cases hc
  case indexAddr t x i =>
    split at hc
    · rw [Option.map_eq_some_iff] at hc; obtain ⟨_, _, h⟩ := hc; cases h
    · rw [Option.map_eq_some_iff] at hc; obtain ⟨_, _, h⟩ := hc; cases h
    · cases hc
  case index t x i =>
    split at hc
    · split at hc <;> cases hc
    · cases hc
    · cases hc
  case lookup t x i ok =>
    unfold execOp; rw [ho]
    split at hc
    · rename_i k e hu
      split at hc
      · rename_i z hk hz
        simp only [Option.some.injEq, Prod.mk.injEq, IOp.r.injEq] at hc; obtain ⟨rfl, rfl⟩ := hc
        exact lift_value (lookup_sound hs hu hk hz hv he)
      · cases hc
    · cases hc
  case mapUpdate t m k x =>
    split at hc
    · split at hc <;> cases hc
    · cases hc
  case makeMap t r => cases r <;> cases hc
  case makeSlice t l c =>
    split at hc
    · split at hc
      · split at hc <;> cases hc
      · cases hc
    · cases hc
  case makeFunc fn first captured => cases fn <;> cases hc
  case makeInterface t x => split at hc <;> cases hc
  case range t x => split at hc <;> cases hc
  case next x s => split at hc <;> cases hc
  case call c =>
    obtain ⟨callee, args, ts⟩ := c
    simp only at hc
    cases callee with
    | value f => cases hc
    | invoke r name => simp only at hc; split at hc <;> cases hc
    | builtin b =>
      simp only at hc
      unfold execOp; rw [ho]
      simp only [resolve, Sem.run_bind, Sem.run_pure, Result.andThen_ok]
      unfold compBuiltin at hc
      split at hc
      · split at hc
        · split at hc
          · split at hc <;> cases hc
          · split at hc <;> cases hc
        · cases hc
      · cases hc
      · cases hc
      · rename_i k e hu
        simp only [Option.some.injEq, Prod.mk.injEq, IOp.r.injEq] at hc; obtain ⟨rfl, rfl⟩ := hc
        rw [Option.bind_eq_some_iff] at hu
        obtain ⟨t, ht, hu⟩ := hu
        exact lift_value (lenMap_sound hs ht hu hv he _)
      · cases hc
      · rw [Option.bind_eq_some_iff] at hc; obtain ⟨_, _, h⟩ := hc; split at h <;> cases h
      · rw [Option.map_eq_some_iff] at hc; obtain ⟨_, _, h⟩ := hc; cases h
      · cases hc
      · cases hc
      · cases hc
end
end Go.Proofs.YtjjdminaacibeaaGreatDoor.Ev
