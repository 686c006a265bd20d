/- A verified evaluator of the model's code, part 3: what it is, and that its runs are the model's runs. -/
import Derived.OrdersIn
import Derived.RangeFuncLeaves
import Derived.Scope
import Derived.Test.YtjjdminaacibeaaGreatDoorEv2
/- The operations that make a block, against the model. -/
namespace Go.Proofs.YtjjdminaacibeaaGreatDoor.Ev

section
variable {P : Program} {tab : String → List (TypeId × FuncId)} {μ : Mu} {w : World}

/-- What the making of one block comes to. -/
structure Laid (P : Program) (tab : String → List (TypeId × FuncId)) (μ : Mu) (w w' : World) (l : Loc) (ob : AObj) (f : Nat → AV) (v' : Value) : Prop where
  blk : l.blk = some w.heap.size
  size : w.heap.size ≤ w'.heap.size
  old : ∀ b, b < w.heap.size → w'.heap[b]? = w.heap[b]?
  obj : ObjRel P tab μ w' l ob
  val : ∀ μ' : Mu, ∀ a, μ' a = some l → VRel μ' (f a) v'
  os : w'.os = w.os
  output : w'.output = w.output
  tape : w'.tape = w.tape

theorem push_old (w : World) (o : Obj) (b : Nat) (h : b < w.heap.size) : (w.heap.push o)[b]? = w.heap[b]? := by
  rw [Array.getElem?_push, if_neg (by omega)]
theorem push_new (w : World) (o : Obj) : (w.heap.push o)[w.heap.size]? = some o := by
  rw [Array.getElem?_push, if_pos rfl]

/-- A row of related cells, laid. -/
theorem laid_row {cs : List AV} {c : Array Value} (hc : VRelL μ cs c.toList) (hs : cs.all AV.scalar = true) (t : TypeId) {f : Nat → AV} {v' : Value}
    (hf : ∀ (μ' : Mu) a, μ' a = some (.row w.heap.size 0 c.size) → VRel μ' (f a) v') : Laid P tab μ w { w with heap := w.heap.push (.cells c t (0, 0)) } (.row w.heap.size 0 c.size) (.row cs) f v' where
  blk := rfl
  size := by simp
  old := fun b hb => push_old w _ b hb
  obj := by
    simp only [ObjRel]
    have hl := VRelL_length hc
    refine ⟨c, t, (0, 0), push_new w _, .inl rfl, by simp at hl; omega, Nat.le_refl _, fun i v hv => ⟨all_scalar_get hs hv, ?_⟩⟩
    obtain ⟨b, h1, h2⟩ := VRelL_get hc hv
    exact ⟨b, by simpa using h1, h2⟩
  val := hf
  os := rfl
  output := rfl
  tape := rfl

theorem ptr_rel {μ' : Mu} {a : Nat} {b e : Nat} (h : μ' a = some (.row b 0 e)) : VRel μ' (.ptr (some (a, 0))) (.pointer (some ⟨b, 0, none⟩)) := by
  simp only [VRel]; exact ⟨_, _, rfl, h, rfl⟩

theorem slice_rel {μ' : Mu} {a : Nat} {b e n c : Nat} (h : μ' a = some (.row b 0 e)) (hn : n ≤ c) : VRel μ' (.slice (some (a, 0)) n c 0) (.slice (some ⟨b, 0, none⟩) n c) := by
  simp only [VRel]; exact ⟨_, c, _, rfl, h, hn, Nat.le_refl _, fun _ => rfl, ⟨rfl, rfl, fun _ => rfl, fun h => absurd rfl h⟩⟩

theorem alloc_laid {e : TypeId} {z : List AV} (hz : zerosT P e = some z) : ∃ v' w' l, (Instr.alloc e true (.tuple #[])).run P w = .ok v' w' ∧ Laid P tab μ w w' l (.row z) (fun a => .ptr (some (a, 0))) v' := by
  obtain ⟨z', h1, h2, h3, h4⟩ := run_zeros hz w
  unfold Instr.alloc
  simp only [Sem.run_bind, h1, Result.andThen_ok, newVar, newRow, run_newObj, Sem.run_pure]
  exact ⟨_, _, _, rfl, laid_row (h2 μ) h3 e fun μ' a ha => ptr_rel ha⟩

theorem box_laid {e : TypeId} {x : AV} {x' : Value} (hx : VRel μ x x') {cs : List AV} (hc : x.cells = some cs) : ∃ v' w' l, (Instr.box e x').run P w = .ok v' w' ∧ Laid P tab μ w w' l (.row cs) (fun a => .ptr (some (a, 0))) v' := by
  obtain ⟨h2, h3⟩ := VRel_cells hx hc
  unfold Instr.box
  simp only [Sem.run_bind, newVar, newRow, run_newObj, Sem.run_pure, Result.andThen_ok]
  exact ⟨_, _, _, rfl, laid_row h2 h3 e fun μ' a ha => ptr_rel ha⟩

theorem zeros_rep {zs : List AV} {z : Array Value} (h : VRelL μ zs z.toList) (hs : zs.all AV.scalar = true) (hn : zs ≠ []) (n : Nat) :
    VRelL μ (repL n zs) ((Array.range (n * zs.length)).map (z[· % z.size]!)).toList ∧ (repL n zs).all AV.scalar = true := by
  have hl := VRelL_length h
  have hp : 0 < zs.length := List.length_pos_iff.2 hn
  refine ⟨VRelL_of_get (by rw [repL_length]; simp) ?_, ?_⟩
  · intro i v hv
    rw [repL_get n zs hn] at hv
    split at hv
    · rename_i hi
      obtain ⟨b, h1, h2⟩ := VRelL_get h hv
      refine ⟨b, ?_, h2⟩
      have hz : z.size = zs.length := by rw [hl]; simp
      have hlt : i % z.size < z.size := Nat.mod_lt _ (by omega)
      rw [Array.getElem?_toList, Array.getElem?_map, Array.getElem?_range]
      rw [if_pos hi]
      simp only [Option.map_some]
      congr 1
      have h3 : z[i % z.size]? = some b := by rw [hz]; simpa using h1
      rw [getElem!_pos z _ hlt]
      rw [Array.getElem?_eq_getElem hlt] at h3
      exact Option.some.inj h3
    · cases hv
  · rw [all_scalar]
    intro v hv
    exact all_scalar.1 hs v (repL_mem hv)

theorem zeros_nonempty {e : TypeId} {z : List AV} {n : Nat} (hz : zerosT P e = some z) (hn : sizeT P e = some n) (h0 : n ≠ 0) : z ≠ [] ∧ z.length = n := by
  obtain ⟨_, _, _, _, h4⟩ := run_zeros hz (default : World)
  rw [hn] at h4
  simp only [Option.some.injEq] at h4
  exact ⟨fun h => by subst h; exact h0 h4, h4.symm⟩

theorem buildSlice_laid {t e : TypeId} (hu : P.underlying t = some (.slice e)) {z : List AV} (hz : zerosT P e = some z) {n len : Nat} (hn : sizeT P e = some n) (h0 : n ≠ 0) (hmax : len * n ≤ 2 ^ 24) {parts : Array (Nat × Operand)} {ρ : Operand → Value} {vs : List AV}
    (hv : VRelL μ vs ((parts.toList.map (·.2)).map ρ)) {c : List AV} (he : fillL (repL len z) (parts.toList.map fun p => (p.1 * n, n)) vs = some c) :
    ∃ v' w' l, (Instr.buildSlice t len (parts.map fun p => (p.1, ρ p.2))).run P w = .ok v' w' ∧ Laid P tab μ w w' l (.row c) (fun a => .slice (some (a, 0)) len len 0) v' := by
  obtain ⟨z', h1, h2, h3, h4⟩ := run_zeros hz w
  obtain ⟨hne, hlen⟩ := zeros_nonempty hz hn h0
  have hvs : VRelL μ vs ((parts.toList.map fun p => (p.1, ρ p.2)).map (·.2)) := by rw [List.map_map] at hv ⊢; exact hv
  have hidx : (parts.toList.map fun p => (p.1, ρ p.2)).map (·.1) = parts.toList.map (·.1) := by rw [List.map_map]; rfl
  have hparts : (parts.map fun p => (p.1, ρ p.2)).toList = parts.toList.map fun p => (p.1, ρ p.2) := by simp
  have hF : ∀ (ps : List (Nat × Operand)), F2 (fun i p => (fun i => some (i * n, n)) i = some p) (ps.map (·.1)) (ps.map fun p => (p.1 * n, n)) := by
    intro ps
    induction ps with
    | nil => exact .nil
    | cons p ps ih => exact .cons rfl ih
  unfold Instr.buildSlice
  simp only [Sem.run_bind, run_underlying hu, Result.andThen_ok, run_sizeOf hn]
  rw [if_neg (by omega)]
  simp only [hparts]
  by_cases hl0 : len * n = 0
  · have hlen0 : len = 0 := by
      rcases Nat.mul_eq_zero.1 hl0 with h | h
      · exact h
      · exact absurd h h0
    subst hlen0
    rw [if_pos (by simp)]
    obtain ⟨c', f1, f2, f3⟩ := fill_sound (μ := μ) (fun i => some (i * n, n)) _ _ vs (repL 0 z) c #[] he (VRelL_nil.2 rfl) rfl (by rw [hidx]; exact hF _) hvs
    simp only [Nat.zero_mul, Array.range_zero', Array.map_empty]
    rw [f1]
    simp only [Sem.run_bind, newRow, run_newObj, Sem.run_pure, Result.andThen_ok]
    exact ⟨_, _, _, rfl, laid_row f2 f3 e fun μ' a ha => slice_rel ha (Nat.le_refl _)⟩
  · rw [if_neg hl0]
    simp only [Sem.run_bind, h1, Result.andThen_ok, Sem.run_pure]
    obtain ⟨g1, g2⟩ := zeros_rep (h2 μ) h3 hne len
    obtain ⟨c', f1, f2, f3⟩ := fill_sound (μ := μ) (fun i => some (i * n, n)) _ _ vs (repL len z) c _ he g1 g2 (by rw [hidx]; exact hF _) hvs
    rw [hlen] at f1
    rw [f1]
    simp only [Sem.run_bind, newRow, run_newObj, Sem.run_pure, Result.andThen_ok]
    exact ⟨_, _, _, rfl, laid_row f2 f3 e fun μ' a ha => slice_rel ha (Nat.le_refl _)⟩

theorem wrap_small (n : Nat) (h : n ≤ 1073741824) : IntKind.i64.wrap (Int.ofNat n) = Int.ofNat n := by
  unfold IntKind.wrap
  simp only [IntKind.bits, IntKind.signed]
  simp
  omega

theorem run_bytes {e : TypeId} {m : Nat} (h : bytesT P e = some m) (w : World) : ∃ i, (typeInfo e).run P w = .ok i w ∧ i.bytes = m := by
  unfold bytesT at h
  rw [Option.map_eq_some_iff] at h
  obtain ⟨i, h1, h2⟩ := h
  exact ⟨i, run_typeInfo h1 w, h2⟩

/-- A row of copies of one pattern. -/
theorem laid_rle {p : List AV} {n : Nat} (hp : 0 < p.length) {c : Array Value} (hc : VRelL μ (repL n p) c.toList) (hs : (repL n p).all AV.scalar = true) (t : TypeId) {f : Nat → AV} {v' : Value}
    (hf : ∀ (μ' : Mu) a, μ' a = some (.row w.heap.size 0 c.size) → VRel μ' (f a) v') : Laid P tab μ w { w with heap := w.heap.push (.cells c t (0, 0)) } (.row w.heap.size 0 c.size) (.rle (lenL p) [(p, n)]) f v' := by
  have L := laid_row (P := P) (tab := tab) (w := w) hc hs t hf
  have hob := L.obj
  refine ⟨L.blk, L.size, L.old, ?_, L.val, L.os, L.output, L.tape⟩
  simp only [ObjRel] at hob ⊢
  refine ⟨by simpa [expand] using hob, by rw [lenL_eq]; exact hp, fun q hq => ?_⟩
  simp only [List.mem_cons, List.not_mem_nil, or_false] at hq
  subst hq; rw [lenL_eq]

theorem makeSlice_laid {t e : TypeId} (hu : P.underlying t = some (.slice e)) {z : List AV} (hz : zerosT P e = some z) {n m : Nat} (hn : sizeT P e = some n) (h0 : n ≠ 0) (hm : bytesT P e = some m) {vs : List AV} {l' c' : Value}
    (hv : VRelL μ vs [l', c']) {ob : AObj} {f : Nat → AV} (he : aMakeSlice z m vs = some (ob, f)) : ∃ v' w' l, (Instr.makeSlice t l' c').run P w = .ok v' w' ∧ Laid P tab μ w w' l ob f v' := by
  obtain ⟨z', h1, h2, h3, h4⟩ := run_zeros hz w
  obtain ⟨hne, hlen⟩ := zeros_nonempty hz hn h0
  obtain ⟨i, hi1, hi2⟩ := run_bytes hm w
  unfold aMakeSlice at he
  split at he
  · rename_i l c
    split at he
    · rename_i ln cn hl hc
      split at he
      · rename_i hb
        simp only [Bool.and_eq_true, Nat.ble_eq] at hb
        obtain ⟨⟨hb1, hb2⟩, hb3⟩ := hb
        simp only [Option.some.injEq, Prod.mk.injEq] at he; obtain ⟨rfl, rfl⟩ := he
        obtain ⟨l2, c2, e1, e2, e3⟩ := VRelL_two hv
        simp at e1; obtain ⟨rfl, rfl⟩ := e1
        obtain ⟨k1, rfl⟩ := natOf_some hl
        obtain ⟨k2, rfl⟩ := natOf_some hc
        rw [VRel_int] at e2 e3; subst e2; subst e3
        have hcm : cn * m ≤ 1073741824 := hb2
        have hmc : (m : Int) * (cn : Int) ≤ 1073741824 := by rw [← Int.natCast_mul, Nat.mul_comm]; omega
        unfold Instr.makeSlice
        simp only [Sem.run_bind, run_underlying hu, Result.andThen_ok, asInt, asIntOf, Sem.run_pure, hi1, hi2, wrap_small ln (by omega), wrap_small cn hb3]
        rw [if_neg (by simp; omega)]
        simp only [Sem.run_bind, run_askRoom, Result.andThen_ok, run_sizeOf hn]
        have hcn : (Int.ofNat cn).toNat = cn := rfl
        have hln : (Int.ofNat ln).toNat = ln := rfl
        rw [hcn, hln]
        by_cases hz0 : cn * n = 0
        · have hcn0 : cn = 0 := by
            rcases Nat.mul_eq_zero.1 hz0 with h | h
            · exact h
            · exact absurd h h0
          subst hcn0
          rw [if_pos hz0]
          simp only [Sem.run_pure, Result.andThen_ok, newRow, run_newObj, Sem.run_bind, Nat.zero_mul, Array.range_zero', Array.map_empty]
          exact ⟨_, _, _, rfl, laid_row (cs := []) (c := #[]) (VRelL_nil.2 rfl) rfl e fun μ' a ha => slice_rel ha hb1⟩
        · rw [if_neg hz0]
          obtain ⟨g1, g2⟩ := zeros_rep (h2 μ) h3 hne cn
          rw [hlen] at g1
          simp only [Sem.run_bind, h1, Result.andThen_ok, Sem.run_pure, newRow, run_newObj]
          cases Nat.ble cn 256 with
          | true => exact ⟨_, _, _, rfl, laid_row g1 g2 e fun μ' a ha => slice_rel ha hb1⟩
          | false => exact ⟨_, _, _, rfl, laid_rle (List.length_pos_iff.2 hne) g1 g2 e fun μ' a ha => slice_rel ha hb1⟩
      · cases he
    · cases he
  · cases he

theorem strToBytes_laid {s d e : TypeId} (h1 : P.underlying s = some .string) (h2 : P.underlying d = some (.slice e)) (h3 : isU8 P e = true) {vs : List AV} {x' : Value} (hv : VRelL μ vs [x']) {ob : AObj} {f : Nat → AV} (he : aStrToBytes vs = some (ob, f)) :
    ∃ v' w' l, (convert s d x').run P w = .ok v' w' ∧ Laid P tab μ w w' l ob f v' := by
  have h3 := isU8_spec h3
  unfold aStrToBytes at he
  split at he
  · rename_i t
    split at he
    · rename_i hb
      have hb := Nat.le_of_ble_eq_true hb
      simp only [Option.some.injEq, Prod.mk.injEq] at he; obtain ⟨rfl, rfl⟩ := he
      obtain ⟨x2, e1, e2⟩ := VRelL_one hv
      simp at e1; subst e1
      rw [VRel_str] at e2; subst e2
      unfold convert
      simp only [Sem.run_bind, run_underlying h1, run_underlying h2, Result.andThen_ok, run_underlying h3]
      unfold Conv.stringToBytes
      simp only [Sem.run_bind, run_choose, Question.forced, Bool.false_eq_true, if_false, Result.andThen_ok, newRow, run_newObj, Sem.run_pure, markStringish, run_shape]
      obtain ⟨cap, hcap⟩ : ∃ cap, cap = (Question.appendCap (ByteArray.mk t.toArray).size 0 e).cut (w.tape w.drawn (.appendCap (ByteArray.mk t.toArray).size 0 e)) := ⟨_, rfl⟩
      rw [← hcap]
      have hge : t.length ≤ cap := by rw [hcap, size_mk]; simp [Question.cut]
      have hsz : (ByteArray.mk t.toArray).size = t.length := size_mk t
      rw [hsz]
      obtain ⟨c, hc⟩ : ∃ c : Array Value, c = (ByteArray.mk t.toArray).data.map (fun b => Value.int .u8 b.toNat) ++ Array.replicate (cap - t.length) (.int .u8 0) := ⟨_, rfl⟩
      rw [← hc]
      have hcs : c.size = cap := by rw [hc]; simp; omega
      have hshape : World.shape? { w with heap := w.heap.push (.cells c e), drawn := w.drawn + 1 } w.heap.size = some (e, c.size) := by
        simp [World.shape?]
      simp only [hshape, run_freeze, Result.andThen_ok]
      refine ⟨_, _, .row w.heap.size 0 cap, rfl, ⟨rfl, ?_, ?_, ?_, ?_, ?_, ?_, ?_⟩⟩
      · simp [World.freeze]
      · intro b hb'
        simp only [World.freeze]
        rw [if_neg (by simp)]
        simp only [Array.getElem?_modify]
        rw [if_neg (by omega)]
        exact push_old w _ b hb'
      · simp only [ObjRel]
        refine ⟨c, e, (c.size, c.size + 1), ?_, .inr (Nat.le_refl _), ?_, by omega, ?_⟩
        · simp only [World.freeze]
          rw [if_neg (by simp)]
          simp only [Array.getElem?_modify, if_true, push_new]
          simp
        · simp [cellsOfBytes]; omega
        · intro i v hvi
          simp only [cellsOfBytes, List.getElem?_map, Option.map_eq_some_iff] at hvi
          obtain ⟨b, hb1, rfl⟩ := hvi
          have hi : i < t.length := (List.getElem?_eq_some_iff.1 hb1).1
          refine ⟨rfl, .int .u8 b.toNat, ?_, VRel_int.2 rfl⟩
          rw [Nat.zero_add, hc, Array.getElem?_append_left (by simp; exact hi)]
          simp [hb1]
      · intro μ' a ha
        simp only [VRel]
        exact ⟨_, cap, _, rfl, ha, Nat.le_refl _, hge, fun h => absurd h (by simp), ⟨rfl, rfl, fun _ => rfl, fun _ => by simp⟩⟩
      · simp [World.freeze]
      · simp [World.freeze]
      · simp [World.freeze]
    · cases he
  · cases he

theorem laid_obj {o : Obj} {ob : AObj} {f : Nat → AV} {v' : Value} (ho : ∀ w' : World, w'.heap[w.heap.size]? = some o → ObjRel P tab μ w' (.obj w.heap.size) ob) (hf : ∀ (μ' : Mu) a, μ' a = some (.obj w.heap.size) → VRel μ' (f a) v') :
    Laid P tab μ w { w with heap := w.heap.push o } (.obj w.heap.size) ob f v' :=
  ⟨rfl, by simp, fun b hb => push_old w _ b hb, ho _ (push_new w _), hf, rfl, rfl, rfl⟩

theorem aop_sound {op : Op} {p : AOp} {xs : List Operand} (hc : compOp P tab op = some (.a p, xs)) {ρ : Operand → Value} {vs : List AV} (hv : VRelL μ vs (xs.map ρ)) {ob : AObj} {f : Nat → AV} (he : p.exec vs = some (ob, f))
    {o : Oper} (ho : o.op = op) (w : World) : ∃ v' w' l, (execOp ρ o).run P w = .ok (.value v') w' ∧ Laid P tab μ w w' l ob f v' := by
  have lift : ∀ {s : Sem Value}, (∃ v' w' l, s.run P w = .ok v' w' ∧ Laid P tab μ w w' l ob f v') → ∃ v' w' l, (do pure (Next.value (← s)) : Sem Next).run P w = .ok (.value v') w' ∧ Laid P tab μ w w' l ob f v' := by
    rintro s ⟨v', w', l, h1, h2⟩
    exact ⟨v', w', l, run_value h1, h2⟩
  cases op <;> simp only [compOp] at hc <;> try (cases hc; done)
  case alloc e =>
    rw [Option.map_eq_some_iff] at hc
    obtain ⟨z, hz, h⟩ := hc
    simp only [Prod.mk.injEq, IOp.a.injEq] at h; obtain ⟨rfl, rfl⟩ := h
    unfold execOp; rw [ho]
    change aAlloc z vs = some (ob, f) at he
    unfold aAlloc at he
    split at he
    · simp only [Option.some.injEq, Prod.mk.injEq] at he; obtain ⟨rfl, rfl⟩ := he
      exact lift (alloc_laid hz)
    · cases he
  case box e x =>
    simp only [Option.some.injEq, Prod.mk.injEq, IOp.a.injEq] at hc; obtain ⟨rfl, rfl⟩ := hc
    unfold execOp; rw [ho]
    change aBox vs = some (ob, f) at he
    unfold aBox at he
    split at he
    · split at he
      · rename_i c hcl
        simp only [Option.some.injEq, Prod.mk.injEq] at he; obtain ⟨rfl, rfl⟩ := he
        obtain ⟨x2, e1, e2⟩ := VRelL_one hv
        simp at e1; subst e1
        exact lift (box_laid e2 hcl)
      · cases he
    · cases he
  case build t parts => split at hc <;> cases hc
  case buildSlice t n parts =>
    split at hc
    · rename_i e hu
      split at hc
      · rename_i z m hz hm
        split at hc
        · cases hc
        · rename_i hcond
          simp only [Option.some.injEq, Prod.mk.injEq, IOp.a.injEq] at hc; obtain ⟨rfl, rfl⟩ := hc
          unfold execOp; rw [ho]
          change (fillL _ _ vs).map _ = some (ob, f) at he
          rw [Option.map_eq_some_iff] at he
          obtain ⟨c, hc2, h⟩ := he
          simp only [Prod.mk.injEq] at h; obtain ⟨rfl, rfl⟩ := h
          exact lift (buildSlice_laid hu hz hm (by omega) (by omega) hv hc2)
      · cases hc
    · cases hc
  case load t x => split at hc <;> cases hc
  case store t x y => rw [Option.map_eq_some_iff] at hc; obtain ⟨_, _, h⟩ := hc; cases h
  case binOp bop t x y yt =>
    split at hc <;> first | (cases hc; done) | (split at hc <;> cases hc; done)
  case convert s d x =>
    unfold execOp; rw [ho]
    split at hc
    · cases hc
    · cases hc
    · split at hc <;> cases hc
    · rename_i e hs' hd
      split at hc
      · rename_i h8
        simp only [Option.some.injEq, Prod.mk.injEq, IOp.a.injEq] at hc; obtain ⟨rfl, rfl⟩ := hc
        exact lift (strToBytes_laid hs' hd h8 hv he)
      · cases hc
    · split at hc <;> cases hc
    · cases hc
  case slice t x lo hi mx =>
    cases mx with
    | none =>
      simp only at hc
      split at hc
      · rw [Option.map_eq_some_iff] at hc; obtain ⟨_, _, h⟩ := hc; cases h
      · rw [Option.map_eq_some_iff] at hc; obtain ⟨_, _, h⟩ := hc; cases h
      · cases hc
      · cases hc
    | some mx =>
      cases hi with
      | none => cases hc
      | some hi =>
        simp only at hc
        split at hc
        · rw [Option.map_eq_some_iff] at hc; obtain ⟨_, _, h⟩ := hc; cases h
        · cases hc
  case fieldAddr t x f =>
    split at hc
    · split at hc
      · split at hc
        · split at hc <;> cases hc
        · cases hc
      · cases hc
    · cases hc
  case field t x f =>
    split at hc
    · split at hc
      · split at hc <;> cases hc
      · cases hc
    · cases hc
  case indexAddr t x i =>
    split at hc
    · rw [Option.map_eq_some_iff] at hc; obtain ⟨_, _, h⟩ := hc; cases h
    · rw [Option.map_eq_some_iff] at hc; obtain ⟨_, _, h⟩ := hc; cases h
    · cases hc
  case index t x i =>
    split at hc
    · split at hc <;> cases hc
    · cases hc
    · cases hc
  case lookup t x i ok =>
    split at hc
    · split at hc <;> cases hc
    · cases hc
  case mapUpdate t m k x =>
    split at hc
    · split at hc <;> cases hc
    · cases hc
  case makeMap t r =>
    cases r with
    | some _ => cases hc
    | none =>
      simp only [Option.some.injEq, Prod.mk.injEq, IOp.a.injEq] at hc; obtain ⟨rfl, rfl⟩ := hc
      unfold execOp; rw [ho]
      change aMakeMap vs = some (ob, f) at he
      unfold aMakeMap at he
      split at he
      · simp only [Option.some.injEq, Prod.mk.injEq] at he; obtain ⟨rfl, rfl⟩ := he
        refine lift ⟨.map (some w.heap.size), _, _, rfl, laid_obj (o := .map #[] 0) ?_ ?_⟩
        · intro w' hw; simp only [ObjRel]; exact ⟨#[], 0, hw, rfl⟩
        · intro μ' a ha; simp only [VRel]; exact ⟨_, _, rfl, ha, rfl⟩
      · cases he
  case makeSlice t l c =>
    split at hc
    · rename_i e hu
      split at hc
      · rename_i z n m hz hn hm
        split at hc
        · cases hc
        · rename_i h0
          simp only [Option.some.injEq, Prod.mk.injEq, IOp.a.injEq] at hc; obtain ⟨rfl, rfl⟩ := hc
          unfold execOp; rw [ho]
          exact lift (makeSlice_laid hu hz hn h0 hm hv he)
      · cases hc
    · cases hc
  case makeFunc fn first captured => cases fn <;> cases hc
  case makeInterface t x => split at hc <;> cases hc
  case range t x =>
    split at hc
    · rename_i hu
      simp only [Option.some.injEq, Prod.mk.injEq, IOp.a.injEq] at hc; obtain ⟨rfl, rfl⟩ := hc
      unfold execOp; rw [ho]
      change aRange vs = some (ob, f) at he
      unfold aRange at he
      split at he
      · rename_i s
        simp only [Option.some.injEq, Prod.mk.injEq] at he; obtain ⟨rfl, rfl⟩ := he
        obtain ⟨x2, e1, e2⟩ := VRelL_one hv
        simp at e1; subst e1
        rw [VRel_str] at e2
        refine lift ⟨.pointer (some ⟨w.heap.size, 0, none⟩), _, .obj w.heap.size, ?_, laid_obj (o := .stringIter ⟨s.toArray⟩ 0) ?_ ?_⟩
        · unfold Instr.range
          simp only [Sem.run_bind, run_underlying hu, Result.andThen_ok, e2, Sem.run_pure, run_newObj]
        · intro w' hw; simp only [ObjRel]; exact hw
        · intro μ' a ha; simp only [VRel]; exact ⟨_, _, rfl, ha, rfl⟩
      · cases he
    · cases hc
  case next x s => split at hc <;> cases hc
  case call c =>
    obtain ⟨callee, args, ts⟩ := c
    simp only at hc
    cases callee with
    | value f => cases hc
    | invoke r name => simp only at hc; split at hc <;> cases hc
    | builtin b =>
      simp only at hc
      unfold compBuiltin at hc
      split at hc
      · split at hc
        · split at hc
          · split at hc <;> cases hc
          · split at hc <;> cases hc
        · cases hc
      · cases hc
      · cases hc
      · cases hc
      · cases hc
      · rw [Option.bind_eq_some_iff] at hc; obtain ⟨_, _, h⟩ := hc; split at h <;> cases h
      · rw [Option.map_eq_some_iff] at hc; obtain ⟨_, _, h⟩ := hc; cases h
      · cases hc
      · cases hc
      · cases hc
end
end Go.Proofs.YtjjdminaacibeaaGreatDoor.Ev
/- The operations that write memory, against the model. -/
namespace Go.Proofs.YtjjdminaacibeaaGreatDoor.Ev

section
variable {P : Program} {tab : String → List (TypeId × FuncId)} {μ : Mu} {h : Heap} {w : World}

theorem Sim.heapEq (hs : Sim P tab μ h w) {w' : World} (e : w'.heap = w.heap) : Sim P tab μ h w' where
  live := fun a l ha hl => let ⟨ob, h1, h2⟩ := hs.live a l ha hl; ⟨ob, h1, h2.mono (.refl _) (fun b _ => by rw [e])⟩
  inj := hs.inj
  ro := fun a b o ha => let ⟨ob, h1, h2⟩ := hs.ro a b o ha; ⟨ob, h1, h2.mono (.refl _) (fun b _ => by rw [e])⟩
  apart := hs.apart
  dead := hs.dead
  dom := hs.dom
  full := hs.full
  fresh := hs.fresh

/-- Cells written into a block of the model's. -/
theorem store_cells {b o e off : Nat} {c : Array Value} {t : TypeId} {fr : Nat × Nat} {cs cs' vs : List AV} (h1 : w.heap[b]? = some (.cells c t fr)) (h2 : Free fr c.size) (h3 : o + cs.length ≤ e) (h4 : e ≤ c.size)
    (h5 : ∀ i v, cs[i]? = some v → v.scalar = true ∧ ∃ v', c[o + i]? = some v' ∧ VRel μ v v') (hb : off + vs.length ≤ cs.length) (hg : ∀ i, cs'[i]? = if off ≤ i ∧ i < off + vs.length then vs[i - off]? else cs[i]?)
    {vs' : List Value} (hv : VRelL μ vs vs') (hsc : vs.all AV.scalar = true) : ∃ w' c', (storeCells ⟨b, o + off, none⟩ vs').run P w = .ok () w' ∧ w'.heap[b]? = some (.cells c' t fr) ∧ c'.size = c.size ∧ Turned w w' b ∧
      ∀ i v, cs'[i]? = some v → v.scalar = true ∧ ∃ v', c'[o + i]? = some v' ∧ VRel μ v v' := by
  have hl := VRelL_length hv
  obtain ⟨w', c', e1, e2, e3, e4, e5⟩ := run_storeCells P vs' w b (o + off) 0 c t fr h1 h2 (by omega) (fun v' hv' => by
    obtain ⟨i, hi⟩ := List.mem_iff_getElem?.1 hv'
    have hlt : i < vs.length := by rw [hl]; exact (List.getElem?_eq_some_iff.1 hi).1
    obtain ⟨b', hb1, hb2⟩ := VRelL_get hv (List.getElem?_eq_getElem hlt)
    rw [hi] at hb1; cases hb1
    exact VRel_oneCell hb2 (all_scalar_get hsc (List.getElem?_eq_getElem hlt)))
  refine ⟨w', c', e1, e2, e3, e4, fun i v hi => ?_⟩
  rw [hg] at hi
  rw [e5]
  split at hi
  · rename_i hc
    refine ⟨all_scalar_get hsc hi, ?_⟩
    obtain ⟨b', hb1, hb2⟩ := VRelL_get hv hi
    rw [if_pos (by omega)]
    have : o + i - (o + off + 0) = i - off := by omega
    rw [this]
    exact ⟨b', hb1, hb2⟩
  · rename_i hc
    rw [if_neg (by omega)]
    exact h5 i v hi

/-- Cells written into a row. -/
theorem store_row (hs : Sim P tab μ h w) {a : Nat} (hlim : a < lim) {l : Loc} (ha : μ a = some l) {cs cs' vs : List AV} (hr : h.get a = some (.row cs)) {off : Nat} {ad : Addr} (had : l.isAt off ad) (hw : writeL cs off vs = some cs')
    {vs' : List Value} (hv : VRelL μ vs vs') (hsc : vs.all AV.scalar = true) : ∃ w', (storeCells ad vs').run P w = .ok () w' ∧ Goes P tab μ h w μ (h.put a (some (.row cs'))) w' := by
  obtain ⟨b, o, e, c, t, fr, rfl, h1, h2, h3, h4, h5⟩ := hs.row_of ha hr
  simp only [Loc.isAt] at had; subst had
  obtain ⟨hb, _⟩ := writeL_some hw
  obtain ⟨w', c', e1, e2, e3, e4, e5⟩ := store_cells (P := P) h1 h2 h3 h4 h5 hb (writeL_get hw) hv hsc
  refine ⟨w', e1, Goes.turn hs hlim ha rfl e4 ?_⟩
  simp only [ObjRel]
  exact ⟨c', t, fr, e2, by rw [e3]; exact h2, by rw [writeL_length hw]; exact h3, by rw [e3]; exact h4, e5⟩

/-! ### Rows that are written as patterns -/
theorem expand_consSeg (p : List AV) (c : Nat) (l : List (List AV × Nat)) : expand (consSeg p c l) = repL c p ++ expand l := by
  unfold consSeg
  split
  · rename_i h
    have := Nat.eq_of_beq_eq_true h; subst this
    simp [repL]
  · split
    · rename_i q d r
      split
      · rename_i hb
        have := AV.beqL_sound _ _ hb; subst this
        simp only [expand, ← List.append_assoc]
        congr 1
        exact repL_add c d p
      · rfl
    · simp [expand]
theorem consSeg_len {p : List AV} {c sz : Nat} {l : List (List AV × Nat)} (hp : p.length = sz) (hl : ∀ q ∈ l, q.1.length = sz) : ∀ q ∈ consSeg p c l, q.1.length = sz := by
  unfold consSeg
  split
  · exact hl
  · split
    · rename_i q d r
      split
      · intro x hx
        rcases List.mem_cons.1 hx with rfl | hx
        · exact hp
        · exact hl x (by simp [hx])
      · intro x hx
        rcases List.mem_cons.1 hx with rfl | hx
        · exact hp
        · exact hl x hx
    · intro x hx
      simp only [List.mem_cons, List.not_mem_nil, or_false] at hx
      subst hx; exact hp
theorem setSeg_ok {v : List AV} {sz : Nat} (hv : v.length = sz) : ∀ {l l' : List (List AV × Nat)} {i : Nat}, (∀ q ∈ l, q.1.length = sz) → setSeg v l i = some l' →
    (∀ q ∈ l', q.1.length = sz) ∧ ∃ A q B, expand l = A ++ (q ++ B) ∧ A.length = i * sz ∧ q.length = sz ∧ expand l' = A ++ (v ++ B)
  | [], _, _, _, h => by cases h
  | (p, c) :: r, l', i, hl, h => by
    have hp : p.length = sz := hl (p, c) (by simp)
    simp only [setSeg] at h
    split at h
    · rename_i hlt
      have hlt : i < c := by simpa using hlt
      simp only [Option.some.injEq] at h; subst h
      refine ⟨consSeg_len hp (consSeg_len hv (consSeg_len hp fun q hq => hl q (by simp [hq]))), repL i p, p, repL (c - i - 1) p ++ expand r, ?_, by rw [repL_length, hp], hp, ?_⟩
      · simp only [expand]
        have hc : c = i + (1 + (c - i - 1)) := by omega
        have : repL c p = repL i p ++ (p ++ repL (c - i - 1) p) := by
          conv => lhs; rw [hc]
          rw [repL_add, repL_add]
          simp [repL]
        rw [this]
        simp only [List.append_assoc]
      · simp only [expand_consSeg]
        have : repL 1 v = v := by simp [repL]
        rw [this]
        rfl
    · rename_i hlt
      have hlt : ¬ i < c := by
        intro h2
        have h3 : Nat.blt i c = true := by simpa using h2
        rw [h3] at hlt; cases hlt
      split at h <;> try (cases h; done)
      rename_i r' hr
      simp only [Option.some.injEq] at h; subst h
      have hr : setSeg v r (i - c) = some r' := hr
      obtain ⟨k1, A, q, B, k2, k3, k4, k5⟩ := setSeg_ok hv (fun q hq => hl q (by simp [hq])) hr
      refine ⟨consSeg_len hp k1, repL c p ++ A, q, B, ?_, ?_, k4, ?_⟩
      · simp only [expand, k2, List.append_assoc]
      · rw [List.length_append, repL_length, hp, k3, ← Nat.add_mul]; congr 1; omega
      · rw [expand_consSeg, k5]; simp only [List.append_assoc]

theorem store_rle (hs : Sim P tab μ h w) {a : Nat} {l : Loc} (ha : μ a = some l) {sz : Nat} {segs : List (List AV × Nat)} {vs : List AV} (hr : h.get a = some (.rle sz segs)) {off : Nat} {ad : Addr} (had : l.isAt off ad) {h' : Heap} (hw : storeRle h a off vs sz segs = some h')
    {vs' : List Value} (hv : VRelL μ vs vs') (hsc : vs.all AV.scalar = true) : ∃ w', (storeCells ad vs').run P w = .ok () w' ∧ Goes P tab μ h w μ h' w' := by
  unfold storeRle at hw
  split at hw <;> try (cases hw; done)
  rename_i hc
  simp only [Bool.and_eq_true, Nat.beq_eq, lenL_eq] at hc
  obtain ⟨⟨hlim, hoff⟩, hlen⟩ := hc
  have hlim : a < lim := by simpa using hlim
  have hoff : off % sz = 0 := hoff
  split at hw <;> try (cases hw; done)
  rename_i segs' hset
  simp only [Option.some.injEq] at hw; subst hw
  cases l with
  | obj b => obtain ⟨ob, h3, h4⟩ := hs.live a _ ha rfl; rw [hr] at h3; cases h3; exact h4.elim
  | dead => rw [hs.dead a ha] at hr; cases hr
  | ro b o => obtain ⟨ob, h3, h4⟩ := hs.ro a b o ha; rw [hr] at h3; cases h3; exact h4.elim
  | row b o e =>
    obtain ⟨ob, h3, h4⟩ := hs.live a _ ha rfl
    rw [hr] at h3; cases h3
    simp only [ObjRel] at h4
    obtain ⟨⟨c, t, fr, g1, g2, g3, g4, g5⟩, hsz, hpl⟩ := h4
    simp only [Loc.isAt] at had; subst had
    obtain ⟨k1, A, q, B, k2, k3, k4, k5⟩ := setSeg_ok hlen hpl hset
    have hdiv : A.length = off := by
      rw [k3]
      have e1 : Nat.div off sz = off / sz := rfl
      rw [e1]
      have := Nat.div_add_mod off sz
      rw [hoff, Nat.mul_comm] at this
      omega
    have hlen2 : (expand segs').length = (expand segs).length := by rw [k5, k2]; simp only [List.length_append]; omega
    obtain ⟨w', c', e1, e2, e3, e4, e5⟩ := store_cells (P := P) (cs' := expand segs') (off := off) g1 g2 g3 g4 g5 (by rw [k2]; simp only [List.length_append]; omega) (fun i => by
      rw [k5, k2]
      rw [List.getElem?_append, List.getElem?_append, List.getElem?_append, List.getElem?_append]
      rw [hdiv]
      by_cases c1 : i < off
      · rw [if_pos c1, if_neg (by omega), if_pos c1]
      · rw [if_neg c1]
        by_cases c2 : i < off + vs.length
        · rw [if_pos (by omega), if_pos (by omega)]
        · rw [if_neg (by omega), if_neg (by omega), if_neg c1, if_neg (by omega)]
          congr 1; omega) hv hsc
    refine ⟨w', e1, Goes.turn hs hlim ha rfl e4 ?_⟩
    simp only [ObjRel]
    exact ⟨⟨c', t, fr, e2, by rw [e3]; exact g2, by rw [hlen2]; exact g3, by rw [e3]; exact g4, e5⟩, hsz, k1⟩

theorem storeAt_some {a off : Nat} {vs : List AV} {h' : Heap} (e : storeAt h a off vs = some h') : a < lim ∧ ∃ cs cs', h.get a = some (.row cs) ∧ writeL cs off vs = some cs' ∧ h' = h.put a (some (.row cs')) := by
  unfold storeAt at e
  split at e
  · rename_i hl
    split at e
    · rename_i cs hr
      rw [Option.map_eq_some_iff] at e
      obtain ⟨cs', h1, h2⟩ := e
      exact ⟨by simpa using hl, cs, cs', rowAt_some hr, h1, h2.symm⟩
    · cases e
  · cases e

/-- What an operation that writes comes to. -/
def LGoes (P : Program) (tab : String → List (TypeId × FuncId)) (μ : Mu) (h : Heap) (w : World) (s : Sem Value) (v : AV) (h' : Heap) : Prop :=
  ∃ v' w' μ', s.run P w = .ok v' w' ∧ Goes P tab μ h w μ' h' w' ∧ VRel μ' v v'

theorem store_sound (hs : Sim P tab μ h w) {t : TypeId} {n : Nat} (hn : sizeT P t = some n) {vs : List AV} {x' y' : Value} (hv : VRelL μ vs [x', y']) {v : AV} {h' : Heap} (he : lStore n h vs = some (v, h')) :
    v = .undef ∧ ∃ w', (Instr.storeAt t x' y').run P w = .ok () w' ∧ Goes P tab μ h w μ h' w' := by
  unfold lStore at he
  split at he
  · rename_i a off y
    split at he
    · rename_i c hc
      split at he
      · rename_i hlen
        rw [lenL_eq, Nat.beq_eq] at hlen
        obtain ⟨x2, y2, e1, e2, e3⟩ := VRelL_two hv
        simp at e1; obtain ⟨rfl, rfl⟩ := e1
        obtain ⟨ad, l, rfl, g1, g2, g3⟩ := sureAddr_rel e2
        obtain ⟨c1, c2⟩ := VRel_cells e3 hc
        obtain ⟨rfl, w', k1, k2⟩ : v = .undef ∧ ∃ w', (storeCells ad y'.cells.toList).run P w = .ok () w' ∧ Goes P tab μ h w μ h' w' := by
          split at he
          · rename_i sz segs hg
            rw [Option.map_eq_some_iff] at he
            obtain ⟨h2, hst, heq⟩ := he
            simp only [Prod.mk.injEq] at heq; obtain ⟨rfl, rfl⟩ := heq
            obtain ⟨w', k1, k2⟩ := store_rle hs g1 hg g2 hst c1 c2
            exact ⟨rfl, w', k1, k2⟩
          · rw [Option.map_eq_some_iff] at he
            obtain ⟨h2, hst, heq⟩ := he
            simp only [Prod.mk.injEq] at heq; obtain ⟨rfl, rfl⟩ := heq
            obtain ⟨hlim, cs, cs', f1, f2, rfl⟩ := storeAt_some hst
            obtain ⟨w', k1, k2⟩ := store_row hs hlim g1 f1 g2 f2 c1 c2
            exact ⟨rfl, w', k1, k2⟩
        refine ⟨rfl, w', ?_, k2⟩
        unfold Instr.storeAt storeVar
        have hsz : y'.cells.size = n := by
          have := VRelL_length c1
          simp at this; omega
        simp only [Sem.run_bind, g3, Result.andThen_ok, run_sizeOf hn]
        rw [if_neg (by simp [hsz])]
        simp only [k1]
      · cases he
    · cases he
  · cases he

/-! ### Append -/
theorem src_rel (hs : Sim P tab μ h w) {sz n m : Nat} {x : AV} (hm : lenAV x = some m) (hn : n ≤ m) {r : List AV} (he : srcCells sz x n h = some r) {x' : Value} (hx : VRel μ x x') :
    ∃ r' : Array Value, (Builtin.firstCells sz n x').run P w = .ok r' w ∧ VRelL μ r r'.toList ∧ r.all AV.scalar = true := by
  unfold srcCells at he
  split at he
  · simp only [Option.some.injEq] at he; subst he
    simp only [VRel] at hx; obtain ⟨rfl, _⟩ := hx
    exact ⟨#[], rfl, VRelL_nil.2 rfl, rfl⟩
  · rename_i a off len cap opn
    simp only [lenAV, Option.some.injEq] at hm; subst hm
    simp only [VRel] at hx
    obtain ⟨ad, c', l, rfl, g1, g2, g3, g4, g5⟩ := hx
    split at he
    · simp only [Option.some.injEq] at he; subst he
      exact ⟨#[], by simp only [Builtin.firstCells, Nat.zero_mul]; rfl, VRelL_nil.2 rfl, rfl⟩
    · rename_i n0 hne
      split at he
      · rename_i cs hr
        obtain ⟨r', e1, e2, e3⟩ := load_cells hs g1 hr he (.inl (isAt_of_isSl g5 (by
          have : n ≠ 0 := fun h => hne h
          omega)))
        exact ⟨r'.toArray, e1, by simpa using e2, e3⟩
      · cases he
  · rename_i s
    simp only [lenAV, Option.some.injEq] at hm; subst hm
    split at he <;> try (cases he; done)
    simp only [Option.some.injEq] at he; subst he
    rw [VRel_str] at hx; subst hx
    refine ⟨_, rfl, VRelL_of_get ?_ ?_, ?_⟩
    · simp [cellsOfBytes, extract_mk]
    · intro i v hv
      simp only [cellsOfBytes, List.getElem?_map, Option.map_eq_some_iff] at hv
      obtain ⟨b, hb, rfl⟩ := hv
      refine ⟨.int .u8 b.toNat, ?_, VRel_int.2 rfl⟩
      rw [extract_mk]
      simp only [Nat.sub_zero, List.drop_zero, Array.toList_map]
      rw [List.getElem?_map, hb]; rfl
    · refine all_scalar_of_get fun i v hv => ?_
      simp only [cellsOfBytes, List.getElem?_map, Option.map_eq_some_iff] at hv
      obtain ⟨b, hb, rfl⟩ := hv
      rfl
  · cases he

theorem run_lenOf {x : AV} {m : Nat} (hm : lenAV x = some m) {x' : Value} (hx : VRel μ x x') (w : World) : (Builtin.lenOf x').run P w = .ok m w := by
  unfold lenAV at hm
  split at hm
  · rename_i a n c opn
    simp only [Option.some.injEq] at hm; subst hm
    cases a with
    | none => simp only [VRel] at hx; obtain ⟨rfl, rfl, _⟩ := hx; rfl
    | some p => obtain ⟨a, off⟩ := p; simp only [VRel] at hx; obtain ⟨ad, c', l, rfl, _⟩ := hx; rfl
  · simp only [Option.some.injEq] at hm; subst hm
    rw [VRel_str] at hx; subst hx
    simp only [Builtin.lenOf, Sem.run_pure, size_mk]
  · cases hm

/-- What append comes to, the number of the new elements and their cells being known: in place, where there is room; else in a new row, whose size is drawn. -/
structure Appends (P : Program) (w : World) (elem : TypeId) (sz : Nat) (base : Option Addr) (len cap m : Nat) (s' : Value) (new' : Array Value) (s : Sem Value) : Prop where
  fit : len + m ≤ cap → ∀ ad w2, base = some ad → (storeCells (ad.add (len * sz)) new'.toList).run P w = .ok () w2 → s.run P w = .ok (.slice base (len + m) cap) w2
  grow : ¬ len + m ≤ cap → ∀ (bytes : Nat) (z' : Value) (old' : Array Value), bytesT P elem = some bytes → len + m ≤ 1073741824 → ¬ Builtin.nextslicecap (len + m) cap * bytes > 2 ^ 48 →
    (zeroValue elem).run P { w with drawn := w.drawn + 1 } = .ok z' { w with drawn := w.drawn + 1 } → (Builtin.firstCells sz len s').run P { w with drawn := w.drawn + 1 } = .ok old' { w with drawn := w.drawn + 1 } →
    ∀ nc, nc = (Question.appendCap (len + m) cap elem).cut (w.tape w.drawn (.appendCap (len + m) cap elem)) →
      s.run P w = .ok (.slice (some ⟨w.heap.size, 0, none⟩) (len + m) nc) { w with heap := w.heap.push (.cells (old' ++ new' ++ Builtin.zeroCells z'.cells (nc - (len + m))) elem (0, 0)), drawn := w.drawn + 1 }

theorem zeroCells_size (z : Array Value) (n : Nat) : (Builtin.zeroCells z n).size = n * z.size := by simp [Builtin.zeroCells]

/-- A fresh row out of the old cells and the new ones. -/
theorem new_row (hs : Sim P tab μ h w) (hn : h.next < lim) {old new : List AV} {old' new' rest : Array Value} (h1 : VRelL μ old old'.toList) (h2 : VRelL μ new new'.toList) (s1 : old.all AV.scalar = true) (s2 : new.all AV.scalar = true) (elem : TypeId) (d : Nat) :
    Goes P tab μ h w (upd μ h.next (.row w.heap.size 0 (old' ++ new' ++ rest).size)) (h.alloc (.row (app old new))) { w with heap := w.heap.push (.cells (old' ++ new' ++ rest) elem (0, 0)), drawn := d } := by
  refine Goes.new hs hn rfl (by simp) (fun b hb => push_old w _ b hb) ?_ rfl rfl rfl
  simp only [ObjRel, app_eq]
  have hl := VRelL_length (VRelL_append h1 h2)
  refine ⟨_, elem, (0, 0), push_new w _, .inl rfl, ?_, Nat.le_refl _, fun i v hi => ⟨?_, ?_⟩⟩
  · simp at hl ⊢; omega
  · exact all_scalar_get (by rw [List.all_append, s1, s2]; rfl) hi
  · obtain ⟨b, h3, h4⟩ := VRelL_get (VRelL_append h1 h2) hi
    have hlt : i < (old'.toList ++ new'.toList).length := (List.getElem?_eq_some_iff.1 h3).1
    refine ⟨b, ?_, h4⟩
    rw [Nat.zero_add, Array.getElem?_append_left (by simp at hlt ⊢; exact hlt)]
    rw [← Array.getElem?_toList, Array.toList_append]
    exact h3

theorem append_new (hs : Sim P tab μ h w) {elem : TypeId} {z : List AV} (hz : zerosT P elem = some z) {sz bytes : Nat} (hsz : sizeT P elem = some sz) (h0 : sz ≠ 0) (hby : bytesT P elem = some bytes) 
    {base : Option (Nat × Nat)} {len cap opn m : Nat} (hm : m ≠ 0) {new : List AV} {v : AV} {h' : Heap} (he : appendNew sz bytes base len cap opn m new h = some (v, h')) {s' : Value} (hx : VRel μ (.slice base len cap opn) s')
    {new' : Array Value} (hnew : VRelL μ new new'.toList) (hsc : new.all AV.scalar = true) (hlen : new.length = m * sz)
    {base' : Option Addr} {sCap : Nat} (hs' : s' = .slice base' len sCap) {s : Sem Value} (hap : Appends P w elem sz base' len sCap m s' new' s) : LGoes P tab μ h w s v h' := by
  obtain ⟨z', z1, z2, z3, z4⟩ := run_zeros hz { w with drawn := w.drawn + 1 }
  obtain ⟨hzne, hzlen⟩ := zeros_nonempty hz hsz h0
  have hzs : z'.cells.size = sz := by
    have := VRelL_length (z2 μ)
    simp at this; omega
  obtain ⟨i0, i1, i2⟩ := run_bytes hby w
  obtain ⟨i3, i4, i5⟩ := run_bytes hby { w with drawn := w.drawn + 1 }
  unfold appendNew at he
  dsimp only at he
  split at he
  · cases he
  · rename_i hb
    simp only [Bool.and_eq_true, Nat.ble_eq] at hb
    obtain ⟨hb1, hb2⟩ := hb
    have hb1 : (len + m) * bytes ≤ 1073741824 := hb1
    have hb2 : len + m ≤ 1073741824 := hb2
    have grow : ∀ {h1 : Heap} {μ1 : Mu} {old : List AV} {old' : Array Value}, ¬ (len + m ≤ sCap) → Sim P tab μ1 h1 w → h1.next < lim → Ext μ μ1 → VRelL μ1 old old'.toList → old.all AV.scalar = true → old.length = len * sz →
        (∀ d, (Builtin.firstCells sz len s').run P { w with drawn := d } = .ok old' { w with drawn := d }) →
        ∃ v' w' μ', s.run P w = .ok v' w' ∧ Goes P tab μ1 h1 w μ' (h1.alloc (.row (app old new))) w' ∧ VRel μ' (.slice (some (h1.next, 0)) (len + m) (len + m) sz) v' := by
      intro h1 μ1 old old' hgt hs1 hn1 hext ho1 ho2 ho3 hf
      have hfits : ¬ (Builtin.nextslicecap (len + m) sCap * bytes > 2 ^ 48) := by
        have := growslice_fits (need := len + m) (old := sCap) (bytes := bytes) (by omega) (by omega)
        omega
      obtain ⟨nc, hnc⟩ : ∃ nc, nc = (Question.appendCap (len + m) sCap elem).cut (w.tape w.drawn (.appendCap (len + m) sCap elem)) := ⟨_, rfl⟩
      have hge : len + m ≤ nc := by rw [hnc]; simp [Question.cut]
      have g := new_row (tab := tab) hs1 hn1 (rest := Builtin.zeroCells z'.cells (nc - (len + m))) ho1 (VRelL.mono hext _ _ hnew) ho2 hsc elem (w.drawn + 1)
      refine ⟨.slice (some ⟨w.heap.size, 0, none⟩) (len + m) nc, _, _, ?_, g, ?_⟩
      · exact hap.grow hgt bytes z' old' hby hb2 hfits z1 (hf _) nc hnc
      · simp only [VRel]
        refine ⟨_, nc, _, rfl, upd_same _ _ _, Nat.le_refl _, hge, fun h => absurd h h0, ⟨rfl, rfl, fun _ => rfl, fun _ => ?_⟩⟩
        simp only [Array.size_append, zeroCells_size, hzs]
        have l1 := VRelL_length ho1
        have l2 := VRelL_length hnew
        simp only [Array.length_toList] at l1 l2
        rw [← l1, ← l2, ho3, hlen, ← Nat.add_mul, ← Nat.add_mul]
        have e : len + m + (nc - (len + m)) = nc := by omega
        rw [e]; omega
    cases base with
    | none =>
      simp only at he
      rw [Option.map_eq_some_iff] at he
      obtain ⟨h2, ha, heq⟩ := he
      simp only [Prod.mk.injEq] at heq; obtain ⟨rfl, rfl⟩ := heq
      obtain ⟨hn, rfl⟩ := allocAt_some ha
      simp only [VRel] at hx
      obtain ⟨rfl, rfl, rfl⟩ := hx
      cases hs'
      obtain ⟨v', w', μ', k1, k2, k3⟩ := grow (h1 := h) (μ1 := μ) (old := []) (old' := #[]) (by omega) hs hn (.refl _) (VRelL_nil.2 rfl) rfl (by simp) (fun d => rfl)
      exact ⟨v', w', μ', k1, k2, k3⟩
    | some p =>
      obtain ⟨a, off⟩ := p
      simp only [VRel] at hx
      obtain ⟨ad, c', l, rfl, g1, g2, g3, g4, g5⟩ := hx
      cases hs'
      simp only at he
      split at he
      · rename_i hc
        have hc := Nat.le_of_ble_eq_true hc
        have hc : len + m ≤ cap := hc
        rw [Option.map_eq_some_iff] at he
        obtain ⟨h2, hst, heq⟩ := he
        simp only [Prod.mk.injEq] at heq; obtain ⟨rfl, rfl⟩ := heq
        obtain ⟨hlim, cs, cs', f1, f2, rfl⟩ := storeAt_some hst
        have hat := isAt_add (isAt_of_isSl g5 (by omega)) (len * sz)
        obtain ⟨w', k1, k2⟩ := store_row hs hlim g1 f1 hat f2 hnew hsc
        refine ⟨.slice (some ad) (len + m) sCap, w', μ, ?_, k2, ?_⟩
        · exact hap.fit (by omega) ad w' rfl k1
        · simp only [VRel]
          exact ⟨ad, sCap, l, rfl, g1, hc, g3, g4, g5⟩
      · rename_i hc
        have hc : ¬ (len + m ≤ cap) := by
          intro h6
          have hc : (len + m).ble cap = false := hc
          rw [Nat.ble_eq_true_of_le h6] at hc; cases hc
        split at he
        · cases he
        · rename_i cs hr
          have hrR : rowR h a = some cs := by unfold rowR; rw [rowAt_some hr]
          have hr := rowAt_some hr
          split at he
          · cases he
          · rename_i old hold
            obtain ⟨b, o, e, c, t, fr, rfl, f1, f2, f3, f4, f5⟩ := hs.row_of g1 hr
            have hold : takeL cs off (len * sz) = some old := hold
            have hold_len := takeL_length hold
            obtain ⟨hold_le, _⟩ := takeL_some hold
            have hfirst : ∃ old' : Array Value, VRelL μ old old'.toList ∧ old.all AV.scalar = true ∧ ∀ d, (Builtin.firstCells sz len (.slice (some ad) len sCap)).run P { w with drawn := d } = .ok old' { w with drawn := d } := by
              have hor : (Loc.row b o e).isAt off ad ∨ len * sz = 0 := by
                by_cases hl0 : len = 0
                · right; rw [hl0, Nat.zero_mul]
                · exact .inl (isAt_of_isSl g5 (by omega))
              obtain ⟨r', q1, q2, q3⟩ := load_cells hs g1 hrR hold hor
              refine ⟨r'.toArray, by simpa using q2, q3, fun d => ?_⟩
              obtain ⟨r2, p1, p2, _⟩ := load_cells (hs.heapEq (w' := { w with drawn := d }) rfl) g1 hrR hold hor
              have hcell : ∀ (w2 : World), w2.heap = w.heap → (loadCells ad (len * sz)).run P w2 = .ok r'.toArray w2 := by
                intro w2 hw2
                rcases hor with hor | hz0
                · simp only [Loc.isAt] at hor; subst hor
                  have hcl : ∀ j, j < len * sz → w2.cell? ((⟨b, o + off, none⟩ : Addr).add j) = some (c.getD (o + off + j) undef) := by
                    intro j hj
                    rw [addr_add, cell_at (by rw [hw2]; exact f1)]
                    have : o + off + j < c.size := by omega
                    simp [Array.getD, this]
                  have hcl0 : ∀ j, j < len * sz → w.cell? ((⟨b, o + off, none⟩ : Addr).add j) = some (c.getD (o + off + j) undef) := by
                    intro j hj
                    rw [addr_add, cell_at f1]
                    have : o + off + j < c.size := by omega
                    simp [Array.getD, this]
                  have e1 := run_loadCells (P := P) w2 _ _ _ hcl
                  have e0 := run_loadCells (P := P) w _ _ _ hcl0
                  rw [q1] at e0
                  rw [e1]
                  cases e0
                  rfl
                · rw [hz0] at q1 ⊢
                  change Result.ok #[] w = _ at q1
                  cases q1
                  rfl
              exact hcell _ rfl
            obtain ⟨old', o1, o2, o3⟩ := hfirst
            split at he
            · rename_i hop
              rw [Nat.beq_eq] at hop
              rw [Option.map_eq_some_iff] at he
              obtain ⟨h2, ha, heq⟩ := he
              simp only [Prod.mk.injEq] at heq; obtain ⟨rfl, rfl⟩ := heq
              obtain ⟨hn, rfl⟩ := allocAt_some ha
              have hcc := g4 hop
              obtain ⟨v', w', μ', k1, k2, k3⟩ := grow (h1 := h) (μ1 := μ) (by omega) hs hn (.refl _) o1 o2 hold_len o3
              exact ⟨v', w', μ', k1, k2, k3⟩
            · split at he
              · rename_i hop hk
                simp only [Bool.and_eq_true, Nat.beq_eq] at hk
                obtain ⟨hk1, hk2⟩ := hk
                have hlim : a < lim := by simpa using hk1
                subst hk2
                rw [Option.map_eq_some_iff] at he
                obtain ⟨h2, ha, heq⟩ := he
                simp only [Prod.mk.injEq] at heq; obtain ⟨rfl, rfl⟩ := heq
                obtain ⟨hn, rfl⟩ := allocAt_some ha
                have hn' : h.next < lim := hn
                obtain ⟨s1, s2, s3, s4⟩ := g5
                have s4 := s4 h0
                by_cases hin : len + m ≤ sCap
                · -- in its place
                  have had : ad = ⟨b, o + off, none⟩ := by
                    obtain ⟨b', o', sp⟩ := ad
                    simp only at s1 s2 s3
                    have := s3 (by omega)
                    subst s1; subst s2; subst this; rfl
                  have hmul : (len + m) * opn ≤ sCap * opn := Nat.mul_le_mul_right _ hin
                  rw [Nat.add_mul] at hmul
                  have hnl := VRelL_length hnew
                  obtain ⟨w', c2, e1, e2, e3, e4, e5⟩ := run_storeCells P new'.toList w b (o + off + len * opn) 0 c t fr f1 f2 (by omega) (fun v' hv' => by
                    obtain ⟨i, hi⟩ := List.mem_iff_getElem?.1 hv'
                    have hlt : i < new.length := by rw [hnl]; exact (List.getElem?_eq_some_iff.1 hi).1
                    obtain ⟨b', hb1, hb2⟩ := VRelL_get hnew (List.getElem?_eq_getElem hlt)
                    rw [hi] at hb1; cases hb1
                    exact VRel_oneCell hb2 (all_scalar_get hsc (List.getElem?_eq_getElem hlt)))
                  have hob : ObjRel P tab μ w' (.row b (o + off) e) (.row (app old new)) := by
                    simp only [ObjRel, app_eq]
                    refine ⟨c2, t, fr, e2, by rw [e3]; exact f2, by simp; omega, by rw [e3]; exact f4, fun i v hi => ?_⟩
                    rw [e5]
                    rw [List.getElem?_append] at hi
                    split at hi
                    · rename_i hlt
                      rw [takeL_get hold i (by omega)] at hi
                      rw [if_neg (by omega)]
                      have := f5 _ _ hi
                      rw [show o + off + i = o + (off + i) by omega]
                      exact this
                    · rename_i hge
                      refine ⟨all_scalar_get hsc hi, ?_⟩
                      obtain ⟨b', hb1, hb2⟩ := VRelL_get hnew hi
                      have hlt : i - old.length < new.length := (List.getElem?_eq_some_iff.1 hi).1
                      rw [if_pos (by omega)]
                      refine ⟨b', ?_, hb2⟩
                      rw [← hb1]
                      congr 1
                      omega
                  have g := Goes.regrow hs hlim hn' g1 (l' := .row b (o + off) e) rfl rfl e4 hob
                  refine ⟨.slice (some ad) (len + m) sCap, w', _, ?_, g, ?_⟩
                  · have e1' : (storeCells ⟨b, o + off + len * opn, none⟩ new'.toList).run P w = .ok () w' := e1
                    refine hap.fit hin ad w' rfl ?_
                    subst had
                    rw [addr_add]
                    exact e1'
                  · simp only [VRel]
                    refine ⟨ad, sCap, _, rfl, upd_same _ _ _, Nat.le_refl _, hin, fun hz => absurd hz h0, ⟨s1, s2, fun hp => s3 hp, fun _ => s4⟩⟩
                · have gk := Goes.kill hs hlim g1
                  obtain ⟨v', w', μ', k1, k2, k3⟩ := grow (h1 := h.put a none) (μ1 := upd μ a .dead) hin gk.sim hn gk.ext (VRelL.mono gk.ext _ _ o1) o2 hold_len o3
                  exact ⟨v', w', μ', k1, gk.trans k2, k3⟩
              · cases he
end
end Go.Proofs.YtjjdminaacibeaaGreatDoor.Ev
/- The operations that write memory, against the model: all together. -/
namespace Go.Proofs.YtjjdminaacibeaaGreatDoor.Ev

section
variable {P : Program} {tab : String → List (TypeId × FuncId)} {μ : Mu} {h : Heap} {w : World}

theorem slice_form {base : Option (Nat × Nat)} {len cap opn : Nat} {s' : Value} (hx : VRel μ (.slice base len cap opn) s') : ∃ base' sCap, s' = .slice base' len sCap ∧ cap ≤ sCap ∧ (base = none → base' = none ∧ len = 0 ∧ sCap = 0) := by
  cases base with
  | none => simp only [VRel] at hx; obtain ⟨rfl, rfl, rfl⟩ := hx; exact ⟨none, 0, rfl, Nat.le_refl _, fun _ => ⟨rfl, rfl, rfl⟩⟩
  | some p => obtain ⟨a, off⟩ := p; simp only [VRel] at hx; obtain ⟨ad, c', l, rfl, _, _, g, _⟩ := hx; exact ⟨some ad, c', rfl, g, fun h => by cases h⟩

theorem slice_len_cap {base : Option (Nat × Nat)} {len cap opn : Nat} {s' : Value} (hx : VRel μ (.slice base len cap opn) s') : len ≤ cap := by
  cases base with
  | none => simp only [VRel] at hx; obtain ⟨_, rfl, rfl⟩ := hx; exact Nat.le_refl _
  | some p => obtain ⟨a, off⟩ := p; simp only [VRel] at hx; obtain ⟨_, _, _, _, _, g, _⟩ := hx; exact g

theorem args_two {args : Array Operand} {ρ : Operand → Value} {x y : Value} (h1 : args.toList.map ρ = [x, y]) : (args.map ρ)[0]? = some x ∧ (args.map ρ)[1]? = some y := by
  constructor
  · rw [← Array.getElem?_toList]; simp only [Array.toList_map, h1]; rfl
  · rw [← Array.getElem?_toList]; simp only [Array.toList_map, h1]; rfl

/-- append(s, x...) where x is a slice or a string. -/
theorem append_sound (hs : Sim P tab μ h w) {ts : Array TypeId} {t0 t1 elem : TypeId} {d : TypeDesc} (ht0 : ts[0]? = some t0) (ht1 : ts[1]? = some t1) (hu0 : P.underlying t0 = some (.slice elem)) (hu1 : P.underlying t1 = some d) (hd : ∀ k, d ≠ .int k)
    {z : List AV} (hz : zerosT P elem = some z) {sz bytes : Nat} (hsz : sizeT P elem = some sz) (h0 : sz ≠ 0) (hby : bytesT P elem = some bytes) {args : Array Operand} {ρ : Operand → Value} {vs : List AV} (hv : VRelL μ vs (args.toList.map ρ))
    {v : AV} {h' : Heap} (he : lAppend sz bytes h vs = some (v, h')) (ty : TypeId) : LGoes P tab μ h w (Builtin.append_ ts ty (args.map ρ)) v h' := by
  unfold lAppend at he
  split at he
  · rename_i s x
    obtain ⟨s', x', e1, e2, e3⟩ := VRelL_two hv
    obtain ⟨a1, a2⟩ := args_two e1
    unfold appendAV at he
    split at he
    · rename_i base len cap opn m hm
      obtain ⟨base', sCap, rfl, hcap, hnil⟩ := slice_form e2
      have hnum : ∀ k, d ≠ .int k := hd
      have hni : (match d with | .int _ => true | _ => false) = false := by
        cases d <;> first | rfl | exact absurd rfl (hd _)
      have hfit : ∀ (new' : Array Value) (w2 : World), len + m ≤ sCap → (Builtin.firstCells sz m x').run P w = .ok new' w → (∀ ad, base' = some ad → (storeCells (ad.add (len * sz)) new'.toList).run P w = .ok () w2) → (base' = none → w2 = w) →
          (Builtin.append_ ts ty (args.map ρ)).run P w = .ok (.slice base' (len + m) sCap) w2 := by
        intro new' w2 hle hfc hst hno
        unfold Builtin.append_
        simp only [ht0, a1, a2, Sem.run_bind, run_underlying hu0, Result.andThen_ok, run_sizeOf hsz, ht1, run_underlying hu1, Sem.run_pure]
        simp only [if_neg Bool.false_ne_true, Sem.run_bind, run_lenOf hm e3, Result.andThen_ok, Bool.not_false, if_true]
        rw [if_pos hle]
        simp only [Sem.run_bind, hfc, Result.andThen_ok]
        cases base' with
        | none => rw [hno rfl]; rfl
        | some ad => simp only [Sem.run_bind, hst ad rfl, Result.andThen_ok, Sem.run_pure]
      have hap : ∀ (new' : Array Value), (∀ d, (Builtin.firstCells sz m x').run P { w with drawn := d } = .ok new' { w with drawn := d }) → Appends P w elem sz base' len sCap m (.slice base' len sCap) new' (Builtin.append_ ts ty (args.map ρ)) := by
        intro new' happ
        refine ⟨fun hle ad w2 hb hst => hfit new' w2 hle (happ w.drawn) (fun ad' h => by rw [hb] at h; cases h; exact hst) (fun h => by rw [hb] at h; cases h), ?_⟩
        intro hgt bytes' z' old' hby' hb2 hfits hz1 hf nc hnc
        obtain ⟨i0, i1, i2⟩ := run_bytes hby' w
        obtain ⟨i3, i4, i5⟩ := run_bytes hby' { w with drawn := w.drawn + 1 }
        have hmax : ¬ (((len + m : Nat) : Int) > IntKind.i64.max ∧ (false = true ∨ i0.bytes = 0)) := by
          rintro ⟨h5, _⟩
          simp [IntKind.max, IntKind.bits, IntKind.signed] at h5
          omega
        rw [← i2] at hfits
        unfold Builtin.append_
        simp only [ht0, a1, a2, Sem.run_bind, run_underlying hu0, Result.andThen_ok, run_sizeOf hsz, ht1, run_underlying hu1, Sem.run_pure]
        simp only [if_neg Bool.false_ne_true, Sem.run_bind, run_lenOf hm e3, Result.andThen_ok, Bool.not_false, if_true]
        rw [if_neg hgt]
        simp only [Sem.run_bind, i1, Result.andThen_ok]
        rw [if_neg hmax]
        simp only [Sem.run_bind, i1, Result.andThen_ok]
        rw [if_neg hfits]
        simp only [Sem.run_bind, Sem.run_pure, Result.andThen_ok, run_choose, Question.forced, Bool.false_eq_true, if_false]
        rw [← hnc]
        simp only [i4, Result.andThen_ok, run_askRoom, hf, happ, hz1, newRow, Sem.run_bind, run_newObj, Sem.run_pure]
      unfold LGoes
      split at he
      · simp only [Option.some.injEq, Prod.mk.injEq] at he; obtain ⟨rfl, rfl⟩ := he
        refine ⟨.slice base' len sCap, w, μ, ?_, Goes.refl hs, e2⟩
        have q1 : (Builtin.firstCells sz 0 x').run P w = .ok #[] w := by
          cases x with
          | slice a n c o =>
            obtain ⟨b', c', rfl, _, _⟩ := slice_form e3
            cases b' with
            | none => rfl
            | some ad => simp only [Builtin.firstCells, Nat.zero_mul]; rfl
          | str s =>
            rw [VRel_str] at e3; subst e3
            simp only [Builtin.firstCells, Sem.run_pure, extract_mk]
            simp
          | _ => cases hm
        exact hfit #[] w (by have := slice_len_cap e2; omega) q1 (fun ad _ => rfl) (fun _ => rfl)
      · rename_i hm0
        split at he
        · cases he
        · rename_i new hnew
          obtain ⟨new', q1, q2, q3⟩ := src_rel (P := P) hs hm (Nat.le_refl _) hnew e3
          refine append_new hs hz hsz h0 hby (fun h => hm0 h) he e2 (new' := new') q2 q3 ?_ rfl (hap new' ?_)
          · cases x with
            | str s =>
              simp only [lenAV, Option.some.injEq] at hm; subst hm
              unfold srcCells at hnew
              simp only at hnew
              split at hnew
              · rename_i hs1
                rw [Nat.beq_eq] at hs1
                simp only [Option.some.injEq] at hnew; subst hnew; subst hs1
                simp [cellsOfBytes]
              · cases hnew
            | slice a n c o =>
              simp only [lenAV, Option.some.injEq] at hm; subst hm
              cases a with
              | none =>
                simp only [VRel] at e3; obtain ⟨_, rfl, _⟩ := e3
                exact absurd rfl hm0
              | some p =>
                obtain ⟨a, off⟩ := p
                obtain ⟨n1, rfl⟩ : ∃ k, n = k + 1 := ⟨n - 1, by have := Nat.pos_of_ne_zero (fun h => hm0 h); omega⟩
                unfold srcCells at hnew
                simp only at hnew
                split at hnew
                · exact takeL_length hnew
                · cases hnew
            | _ => cases hm
          · intro dr
            obtain ⟨r2, p1, p2, _⟩ := src_rel (P := P) (hs.heapEq (w' := { w with drawn := dr }) rfl) hm (Nat.le_refl _) hnew e3
            -- the same cells, whatever was drawn
            cases x with
            | str s =>
              rw [VRel_str] at e3; subst e3
              simp only [Builtin.firstCells, Sem.run_pure] at q1 ⊢
              cases q1; rfl
            | slice a n c o =>
              cases a with
              | none =>
                simp only [VRel] at e3; obtain ⟨rfl, _⟩ := e3
                simp only [Builtin.firstCells, Sem.run_pure] at q1 ⊢
                cases q1; rfl
              | some p =>
                obtain ⟨a, off⟩ := p
                have e30 := e3
                simp only [VRel] at e3
                obtain ⟨ad, c', l, rfl, g1, g2, g3, g4, g5⟩ := e3
                simp only [lenAV, Option.some.injEq] at hm
                subst hm
                have hpos : 0 < n := Nat.pos_of_ne_zero (fun h => hm0 h)
                have hat := isAt_of_isSl g5 (show 0 < c' by omega)
                obtain ⟨n1, rfl⟩ : ∃ k, n = k + 1 := ⟨n - 1, by omega⟩
                unfold srcCells at hnew
                simp only at hnew
                · split at hnew
                  · rename_i cs hr
                    obtain ⟨b, o2, c, t, fr, hat2, f1, f4, f5⟩ := hs.read_of g1 hr
                    have hat := hat2 _ _ hat
                    subst hat
                    have hnew : takeL cs off ((n1 + 1) * sz) = some new := hnew
                    obtain ⟨hb, _⟩ := takeL_some hnew
                    have hcl : ∀ (w2 : World), w2.heap = w.heap → ∀ j, j < (n1 + 1) * sz → w2.cell? ((⟨b, o2 + off, none⟩ : Addr).add j) = some (c.getD (o2 + off + j) undef) := by
                      intro w2 hw2 j hj
                      rw [addr_add, cell_at (by rw [hw2]; exact f1)]
                      have : o2 + off + j < c.size := by omega
                      simp [Array.getD, this]
                    have e1' := run_loadCells (P := P) { w with drawn := dr } _ _ _ (hcl _ rfl)
                    have e0' := run_loadCells (P := P) w _ _ _ (hcl w rfl)
                    simp only [Builtin.firstCells] at q1 ⊢
                    rw [q1] at e0'
                    rw [e1']
                    cases e0'; rfl
                  · cases hnew
            | _ => cases hm
    · cases he
  · cases he
end
end Go.Proofs.YtjjdminaacibeaaGreatDoor.Ev
/- The operations that write memory, against the model: the others. -/
namespace Go.Proofs.YtjjdminaacibeaaGreatDoor.Ev

section
variable {P : Program} {tab : String → List (TypeId × FuncId)} {μ : Mu} {h : Heap} {w : World}

theorem wrap_i64 {m : Nat} (h : m ≤ 1073741824) : IntKind.i64.wrap (Int.ofNat m) = Int.ofNat m := by
  unfold IntKind.wrap
  simp only [IntKind.signed, IntKind.bits]
  simp
  omega

theorem run_zeros_all {t : TypeId} {zs : List AV} (h : zerosT P t = some zs) : ∃ z, (∀ w, (zeroValue t).run P w = .ok z w) ∧ (∀ μ, VRelL μ zs z.cells.toList) ∧ zs.all AV.scalar = true := by
  unfold zerosT at h
  split at h <;> try (cases h; done)
  rename_i z n hz hn
  split at h <;> try (cases h; done)
  rename_i c hc
  split at h <;> try (cases h; done)
  rename_i hl
  simp only [Option.some.injEq] at h; subst h
  unfold zeroT at hz
  rw [Option.bind_eq_some_iff] at hz
  obtain ⟨z', h1, h2⟩ := hz
  rw [Option.bind_eq_some_iff] at h1
  obtain ⟨i, h3, h4⟩ := h1
  have h3' := fun μ => VRel_cells (toAV_rel μ h2) hc
  exact ⟨z', fun w => by simp [zeroValue, run_typeInfo h3, h4], fun μ => (h3' μ).1, (h3' ⟨fun _ => none, fun _ => 0⟩).2⟩

/-- append(s, make([]T, n)...). -/
theorem appendZ_sound (hs : Sim P tab μ h w) {ts : Array TypeId} {t0 t1 elem : TypeId} {k : IntKind} (ht0 : ts[0]? = some t0) (ht1 : ts[1]? = some t1) (hu0 : P.underlying t0 = some (.slice elem)) (hu1 : P.underlying t1 = some (.int k))
    {z : List AV} (hz : zerosT P elem = some z) {sz bytes : Nat} (hsz : sizeT P elem = some sz) (h0 : sz ≠ 0) (hby : bytesT P elem = some bytes) (hb : bytes ≤ 65536) {args : Array Operand} {ρ : Operand → Value} {vs : List AV} (hv : VRelL μ vs (args.toList.map ρ))
    {v : AV} {h' : Heap} (he : lAppendZ z sz bytes h vs = some (v, h')) (ty : TypeId) : LGoes P tab μ h w (Builtin.append_ ts ty (args.map ρ)) v h' := by
  unfold lAppendZ at he
  split at he <;> try (cases he; done)
  rename_i base len cap opn x
  obtain ⟨s', x', e1, e2, e3⟩ := VRelL_two hv
  obtain ⟨a1, a2⟩ := args_two e1
  obtain ⟨base', sCap, rfl, hcap, hnil⟩ := slice_form e2
  obtain ⟨i0, i1, i2⟩ := run_bytes hby w
  obtain ⟨i3, i4, i5⟩ := run_bytes hby { w with drawn := w.drawn + 1 }
  obtain ⟨z', z1, z2, z3⟩ := run_zeros_all hz
  have hbig : ∀ m : Nat, m ≤ 1073741824 → ¬ ((Int.ofNat m) * (bytes : Int) > 2 ^ 48) := by
    intro m hm
    have : m * bytes ≤ 1073741824 * 65536 := Nat.mul_le_mul hm hb
    have h2 : (Int.ofNat m) * (bytes : Int) = ((m * bytes : Nat) : Int) := by simp
    rw [h2]; omega
  have hfit : ∀ (m : Nat) (new' : Array Value) (w2 : World), m ≤ 1073741824 → natOf x = some m → len + m ≤ sCap → new' = (if m * sz = 0 then #[] else Builtin.zeroCells z'.cells m) → (∀ ad, base' = some ad → (storeCells (ad.add (len * sz)) new'.toList).run P w = .ok () w2) → (base' = none → w2 = w) →
      (Builtin.append_ ts ty (args.map ρ)).run P w = .ok (.slice base' (len + m) sCap) w2 := by
    intro m new' w2 hm hx hle hnew hst hno
    obtain ⟨k', rfl⟩ := natOf_some hx
    rw [VRel_int] at e3; subst e3
    have hai : (asInt (.int k' (Int.ofNat m))).run P w = .ok (Int.ofNat m) w := rfl
    unfold Builtin.append_
    simp only [ht0, a1, a2, Sem.run_bind, run_underlying hu0, Result.andThen_ok, run_sizeOf hsz, ht1, run_underlying hu1, Sem.run_pure, hai, if_true, wrap_i64 hm]
    rw [if_neg (by simp)]
    simp only [Sem.run_bind, Result.andThen_ok, i1, i2]
    rw [if_neg (hbig m hm)]
    simp only [Sem.run_bind, Sem.run_pure, Result.andThen_ok, Int.ofNat_eq_natCast, Int.toNat_natCast, Bool.not_true, Bool.false_eq_true, if_false]
    rw [if_pos hle]
    have hcells : ((if m * sz = 0 then pure #[] else do pure (Builtin.zeroCells (← zeroValue elem).cells m)) : Sem (Array Value)).run P w = .ok new' w := by
      rw [hnew]
      split
      · rfl
      · simp only [Sem.run_bind, z1, Result.andThen_ok, Sem.run_pure]
    simp only [Sem.run_bind, hcells, Result.andThen_ok]
    cases base' with
    | none => rw [hno rfl]; rfl
    | some ad => simp only [Sem.run_bind, hst ad rfl, Result.andThen_ok, Sem.run_pure]
  split at he <;> try (cases he; done)
  · rename_i hx
    simp only [Option.some.injEq, Prod.mk.injEq] at he; obtain ⟨rfl, rfl⟩ := he
    refine ⟨.slice base' len sCap, w, μ, ?_, Goes.refl hs, e2⟩
    exact hfit 0 #[] w (by omega) hx (by have := slice_len_cap e2; omega) (by simp) (fun ad _ => rfl) (fun _ => rfl)
  · rename_i m hm0 hx
    split at he <;> try (cases he; done)
    rename_i hle
    have hle := Nat.le_of_ble_eq_true hle
    have hm : m ≠ 0 := fun h => hm0 (by rw [h])
    obtain ⟨hzne, hzlen⟩ := zeros_nonempty hz hsz h0
    have hmz : ¬ (m * sz = 0) := fun h => by
      rcases Nat.mul_eq_zero.1 h with h | h
      · exact hm h
      · exact h0 h
    have hrep := zeros_rep (z2 μ) z3 hzne m
    have hsize : z'.cells.size = z.length := by
      have := VRelL_length (z2 μ)
      simp at this; omega
    have hvals : VRelL μ (repL m z) (Builtin.zeroCells z'.cells m).toList := by
      have := hrep.1
      unfold Builtin.zeroCells
      rw [← hsize] at this; exact this
    refine append_new hs hz hsz h0 hby hm he e2 (new' := Builtin.zeroCells z'.cells m) hvals hrep.2 (by rw [repL_length, hzlen]) rfl ⟨fun hfl ad w2 hb hst => ?_, ?_⟩
    · exact hfit m _ w2 hle hx hfl (by rw [if_neg hmz]) (fun ad' h => by rw [hb] at h; cases h; exact hst) (fun h => by rw [hb] at h; cases h)
    · intro hgt bytes' z'' old' hby' hb2 hfits hz1 hf nc hnc
      rw [hby] at hby'
      simp only [Option.some.injEq] at hby'; subst hby'
      have hmax : ¬ (((len + m : Nat) : Int) > IntKind.i64.max ∧ (true = true ∨ i0.bytes = 0)) := by
        rintro ⟨h5, _⟩
        simp [IntKind.max, IntKind.bits, IntKind.signed] at h5
        omega
      rw [← i2] at hfits
      obtain ⟨k', rfl⟩ := natOf_some hx
      rw [VRel_int] at e3; subst e3
      have hai : (asInt (.int k' (Int.ofNat m))).run P w = .ok (Int.ofNat m) w := rfl
      unfold Builtin.append_
      simp only [ht0, a1, a2, Sem.run_bind, run_underlying hu0, Result.andThen_ok, run_sizeOf hsz, ht1, run_underlying hu1, Sem.run_pure, hai, if_true, wrap_i64 hle]
      rw [if_neg (by simp)]
      simp only [Sem.run_bind, Result.andThen_ok, i1, i2]
      rw [if_neg (hbig m hle)]
      simp only [Sem.run_bind, Sem.run_pure, Result.andThen_ok, Int.ofNat_eq_natCast, Int.toNat_natCast, Bool.not_true, Bool.false_eq_true, if_false]
      rw [if_neg hgt]
      simp only [Sem.run_bind, i1, Result.andThen_ok]
      rw [if_neg (by rw [Bool.true_eq] at hmax; simpa using hmax)]
      simp only [Sem.run_bind, i1, Result.andThen_ok]
      rw [if_neg hfits]
      simp only [Sem.run_bind, Sem.run_pure, Result.andThen_ok, run_choose, Question.forced, Bool.false_eq_true, if_false]
      rw [← hnc]
      rw [z1] at hz1
      cases hz1
      simp only [i4, Result.andThen_ok, run_askRoom, hf, z1, newRow, Sem.run_bind, run_newObj, Sem.run_pure, if_neg hmz]

end
end Go.Proofs.YtjjdminaacibeaaGreatDoor.Ev
/- The operations that write memory, against the model: the rest, and all in one. -/
namespace Go.Proofs.YtjjdminaacibeaaGreatDoor.Ev

section
variable {P : Program} {tab : String → List (TypeId × FuncId)} {μ : Mu} {h : Heap} {w : World}

theorem run_setObj {b : Nat} {o o' : Obj} (hb : w.heap[b]? = some o) (ho : ∀ c t fr, o ≠ .cells c t fr) : (setObj b o').run P w = .ok () { w with heap := w.heap.setIfInBounds b o' } := by
  unfold setObj
  simp only [Sem.run, hb]

theorem turned_set {b : Nat} {o' : Obj} : Turned w { w with heap := w.heap.setIfInBounds b o' } b where
  size := by simp
  other := fun b' h => by
    rw [Array.getElem?_setIfInBounds, if_neg (fun e => h e.symm)]
  os := rfl
  output := rfl
  tape := rfl

theorem set_at {b : Nat} {o o' : Obj} (hb : w.heap[b]? = some o) : (w.heap.setIfInBounds b o')[b]? = some o' := by
  have := heap_lt hb
  rw [Array.getElem?_setIfInBounds, if_pos rfl, if_pos this]

/-- The conversion that makes a string share its bytes: nothing that the evaluator sees. -/
theorem mark_sound (hs : Sim P tab μ h w) {s e : TypeId} (hu : P.underlying s = some (.slice e)) (h3 : isU8 P e = true) {vs : List AV} {x' : Value} (hv : VRelL μ vs [x']) {v : AV} {h' : Heap}
    (he : lMark h vs = some (v, h')) : LGoes P tab μ h w (convert s s x') v h' := by
  have h3 := isU8_spec h3
  unfold lMark at he
  split at he <;> try (cases he; done)
  rename_i a off n c o
  split at he <;> try (cases he; done)
  rename_i _ cs hlim hr
  have hlim : a < lim := by simpa using hlim
  simp only [Option.some.injEq, Prod.mk.injEq] at he; obtain ⟨rfl, rfl⟩ := he
  obtain ⟨x2, e1, e2⟩ := VRelL_one hv
  simp at e1; subst e1
  have e20 := e2
  simp only [VRel] at e2
  obtain ⟨ad, c', l, rfl, g1, g2, g3, g4, g5⟩ := e2
  obtain ⟨b, o2, e', cc, t, fr, rfl, f1, f2, f3, f4, f5⟩ := hs.row_of g1 (rowAt_some hr)
  have hblk : ad.block = b := by simp only [Loc.isSl] at g5; exact g5.1
  refine ⟨_, w.freeze { block := ad.block, off := cc.size } 1, μ, ?_, ?_, e20⟩
  · unfold convert
    have hsh : w.shape? ad.block = some (t, cc.size) := by unfold World.shape?; rw [hblk, f1]
    simp only [Sem.run_bind, run_underlying hu, Result.andThen_ok, run_underlying h3, beq_self_eq_true, markStringish, run_shape, hsh, run_freeze, Sem.run_pure]
  · have hh : w.freeze { block := ad.block, off := cc.size } 1 = { w with heap := w.heap.setIfInBounds b (.cells cc t (if fr.1 == fr.2 then (cc.size, cc.size + 1) else (min fr.1 cc.size, max fr.2 (cc.size + 1)))) } := by
      unfold World.freeze
      rw [if_neg (by omega)]
      congr 1
      rw [hblk]
      apply Array.ext_getElem?
      intro i
      rw [Array.getElem?_modify, Array.getElem?_setIfInBounds]
      by_cases hi : b = i
      · subst hi
        rw [if_pos rfl, if_pos rfl, if_pos (heap_lt f1), f1]
        rfl
      · rw [if_neg hi, if_neg hi]
    rw [hh]
    have hput : h = h.put a (some (.row cs)) ∨ True := .inr trivial
    have g := Goes.turn hs hlim g1 (b := b) rfl (ob := .row cs) (w' := { w with heap := w.heap.setIfInBounds b (.cells cc t (if fr.1 == fr.2 then (cc.size, cc.size + 1) else (min fr.1 cc.size, max fr.2 (cc.size + 1)))) }) turned_set (by
      simp only [ObjRel]
      refine ⟨cc, t, _, set_at f1, ?_, f3, f4, f5⟩
      rcases f2 with f2 | f2
      · rw [if_pos (by simp [f2])]; exact .inr (Nat.le_refl _)
      · split
        · exact .inr (Nat.le_refl _)
        · right; simp; omega)
    refine ⟨g.ext, ⟨?_, hs.inj, ?_, hs.apart, hs.dead, hs.dom, hs.full, hs.fresh⟩, g.size, g.cfr, fun a ha hn => ⟨rfl, hn⟩, Nat.le_refl _, g.os, g.output, g.tape⟩
    · intro a' l' ha' hl'
      obtain ⟨ob, k1, k2⟩ := g.sim.live a' l' ha' hl'
      rw [get_put (hs.full _ hlim)] at k1
      by_cases he' : a' = a
      · subst he'
        rw [if_pos rfl] at k1; cases k1
        exact ⟨_, rowAt_some hr, k2⟩
      · rw [if_neg he'] at k1
        exact ⟨ob, k1, k2⟩
    · intro a' b' o' ha'
      obtain ⟨ob, k1, k2⟩ := g.sim.ro a' b' o' ha'
      rw [get_put (hs.full _ hlim)] at k1
      by_cases he' : a' = a
      · subst he'
        rw [if_pos rfl] at k1; cases k1
        exact k2.elim
      · rw [if_neg he'] at k1
        exact ⟨ob, k1, k2⟩

/-- The next character of a string that is ranged over. -/
theorem next_sound (hs : Sim P tab μ h w) {vs : List AV} {x' : Value} (hv : VRelL μ vs [x']) {v : AV} {h' : Heap} (he : lNext h vs = some (v, h')) (ty : TypeId) : LGoes P tab μ h w (Instr.next x' true ty) v h' := by
  unfold lNext at he
  split at he <;> try (cases he; done)
  rename_i a
  split at he <;> try (cases he; done)
  rename_i s pos hlt hg
  obtain ⟨x2, e1, e2⟩ := VRelL_one hv
  simp at e1; subst e1
  simp only [VRel] at e2
  obtain ⟨ad, l, rfl, g1, g2⟩ := e2
  have hlim : a < lim := by simpa using hlt
  cases l with
  | dead => rw [hs.dead a g1] at hg; cases hg
  | ro b o =>
    obtain ⟨ob, k1, k2⟩ := hs.ro a b o g1
    rw [hg] at k1; cases k1
    exact k2.elim
  | row b o e =>
    obtain ⟨ob, k1, k2⟩ := hs.live a _ g1 rfl
    rw [hg] at k1; cases k1
    exact k2.elim
  | obj b =>
    obtain ⟨ob, k1, k2⟩ := hs.live a _ g1 rfl
    rw [hg] at k1; cases k1
    simp only [ObjRel] at k2
    simp only [Loc.isAt] at g2
    subst g2
    have hrun : (Instr.next (.pointer (some ⟨b, 0, none⟩)) true ty).run P w = (if pos < (ByteArray.mk s.toArray).size then do
      let (c, width) := Utf8.decode ⟨s.toArray⟩ pos
      setObj b (.stringIter ⟨s.toArray⟩ (pos + width))
      pure (.tuple #[.bool true, goInt pos, .int .i32 c])
      else pure (.tuple #[.bool false]) : Sem Value).run P w := by
      unfold Instr.next
      simp only [Sem.run_bind, run_getObj k2 (by simp), Result.andThen_ok]
    unfold LGoes
    rw [hrun, size_mk]
    split at he
    · rename_i hp
      have hp : pos < s.length := by simpa using hp
      simp only [Option.some.injEq, Prod.mk.injEq] at he; obtain ⟨rfl, rfl⟩ := he
      rw [if_pos hp]
      simp only [Sem.run_bind, run_setObj k2 (by simp), Result.andThen_ok, Sem.run_pure]
      refine ⟨_, _, μ, rfl, Goes.turn hs hlim g1 rfl turned_set ?_, ?_⟩
      · simp only [ObjRel]
        exact set_at k2
      · simp only [VRel]
        exact ⟨_, rfl, VRelL_cons'.2 ⟨VRel_bool.2 rfl, VRelL_cons'.2 ⟨VRel_int.2 rfl, VRelL_cons'.2 ⟨VRel_int.2 rfl, VRelL_nil.2 rfl⟩⟩⟩⟩
    · rename_i hp
      have hp : ¬ pos < s.length := fun hc => by
        have : Nat.blt pos s.length = true := by simpa using hc
        rw [this] at hp; cases hp
      simp only [Option.some.injEq, Prod.mk.injEq] at he; obtain ⟨rfl, rfl⟩ := he
      rw [if_neg hp]
      exact ⟨_, _, μ, rfl, Goes.refl hs, by simp only [VRel]; exact ⟨_, rfl, VRelL_cons'.2 ⟨VRel_bool.2 rfl, VRelL_nil.2 rfl⟩⟩⟩

/-! ### Maps -/
theorem findStr_at (k : List UInt8) (v : AV) {nv : Value} (hnv : VRel μ v nv) : ∀ (l : List (List UInt8 × AV)) (es : List MapEntry) (i : Nat), entRel μ l es →
    (Instr.findNow .string (.string ⟨k.toArray⟩) es i = some none ∧ ∀ c, entRel μ (setStr k v l) (es ++ [{ key := .string ⟨k.toArray⟩, val := nv, born := c }])) ∨
    (∃ j v' e, Instr.findNow .string (.string ⟨k.toArray⟩) es i = some (some (i + j, v')) ∧ es[j]? = some e ∧ e.key = .string ⟨k.toArray⟩ ∧ entRel μ (setStr k v l) (es.modify j fun e => { e with key := .string ⟨k.toArray⟩, val := nv }))
  | [], es, i, h => by
    simp only [entRel] at h; subst h
    exact .inl ⟨rfl, fun c => by simp only [setStr, entRel]; exact ⟨_, [], rfl, rfl, hnv, rfl⟩⟩
  | (a, u) :: l, es, i, h => by
    simp only [entRel] at h
    obtain ⟨e, es', rfl, h1, h2, h3⟩ := h
    simp only [setStr, beqBytes_eq, Instr.findNow, Instr.sameNow, h1, beq_mk]
    by_cases hk : k = a
    · subst hk
      simp only [decide_true]
      refine .inr ⟨0, e.val, e, rfl, rfl, h1, ?_⟩
      simp only [entRel, List.modify_zero_cons]
      exact ⟨_, es', rfl, rfl, hnv, h3⟩
    · simp only [hk, decide_false]
      rcases findStr_at k v hnv l es' (i + 1) h3 with ⟨a1, a2⟩ | ⟨j, v', e2, a1, a2, a3, a4⟩
      · exact .inl ⟨a1, fun c => by simp only [entRel]; exact ⟨e, _, rfl, h1, h2, a2 c⟩⟩
      · refine .inr ⟨j + 1, v', e2, by rw [a1]; congr 3; omega, by simpa using a2, a3, ?_⟩
        simp only [entRel, List.modify_succ_cons]
        exact ⟨e, _, rfl, h1, h2, a4⟩

theorem mapUpdate_sound (hs : Sim P tab μ h w) {t kt et : TypeId} (hu : P.underlying t = some (.map kt et)) (hk : P.underlying kt = some .string) {vs : List AV} {m' k' x' : Value} (hv : VRelL μ vs [m', k', x']) {v : AV} {h' : Heap}
    (he : lMapUpdate h vs = some (v, h')) : v = .undef ∧ ∃ w', (Instr.mapUpdate t m' k' x').run P w = .ok () w' ∧ Goes P tab μ h w μ h' w' := by
  unfold lMapUpdate at he
  split at he <;> try (cases he; done)
  rename_i b k x
  split at he <;> try (cases he; done)
  rename_i es hlim hg
  have hlim : b < lim := by simpa using hlim
  simp only [Option.some.injEq, Prod.mk.injEq] at he; obtain ⟨rfl, rfl⟩ := he
  obtain ⟨m2, k2, x2, e1, e2, e3, e4⟩ := VRelL_three hv
  simp at e1; obtain ⟨rfl, rfl, rfl⟩ := e1
  rw [VRel_str] at e3; subst e3
  refine ⟨rfl, ?_⟩
  rcases mapAt_rel hs (r := some b) (es := es) (by simp only [mapAt, hg]) e2 with ⟨hc, _⟩ | ⟨a, bb, l, es', clock, f0, rfl, f1, f2, f3, f4, _⟩
  · cases hc
  · cases f0
    unfold Instr.mapUpdate
    simp only [Sem.run_bind, run_underlying hu, Result.andThen_ok, run_getObj f3 (by simp), run_checkKey_str hk, Instr.findKey, run_underlying hk]
    cases l with
    | row _ _ _ => 
      obtain ⟨ob, q1, q2⟩ := hs.live b _ f1 rfl
      rw [hg] at q1; cases q1; exact q2.elim
    | ro _ _ => cases f2
    | dead => cases f2
    | obj b2 =>
    simp only [Loc.blk, Option.some.injEq] at f2; subst f2
    rcases findStr_at k x e4 es es'.toList 0 f4 with ⟨a1, a2⟩ | ⟨j, v', e, a1, a2, a3, a4⟩
    · simp only [a1, Sem.run_pure, Result.andThen_ok, run_setObj f3 (by simp)]
      refine ⟨_, rfl, Goes.turn hs hlim f1 rfl turned_set ?_⟩
      simp only [ObjRel]
      exact ⟨_, _, set_at f3, by simpa using a2 clock⟩
    · rw [Nat.zero_add] at a1
      have a2' : es'[j]? = some e := by simpa using a2
      have hkey : (Instr.keyThatStays (((es'[j]?).map (·.key)).getD (.string ⟨k.toArray⟩)) (.string ⟨k.toArray⟩)).run P w = .ok (.string ⟨k.toArray⟩) w := by
        rw [a2']
        simp only [Option.map_some, Option.getD_some, a3]
        unfold Instr.keyThatStays
        rw [if_pos (by show (ByteArray.mk k.toArray == ByteArray.mk k.toArray) = true; rw [beq_mk]; simp)]
        rfl
      simp only [a1, Sem.run_pure, Result.andThen_ok, Sem.run_bind, hkey, run_setObj f3 (by simp)]
      refine ⟨_, rfl, Goes.turn hs hlim f1 rfl turned_set ?_⟩
      simp only [ObjRel]
      refine ⟨_, _, set_at f3, ?_⟩
      rw [Array.toList_modify]
      exact a4

/-! ### copy and clear -/
theorem srcCells_zero {sz : Nat} {x : AV} {cs : List AV} (he : srcCells sz x 0 h = some cs) : cs = [] := by
  unfold srcCells at he
  split at he
  · simp only [Option.some.injEq] at he; exact he.symm
  · simp only [Option.some.injEq] at he; exact he.symm
  · split at he
    · simp only [Option.some.injEq] at he; subst he; rfl
    · cases he
  · cases he

theorem copy_sound (hs : Sim P tab μ h w) {ts : Array TypeId} {t0 elem : TypeId} (ht0 : ts[0]? = some t0) (hu0 : P.underlying t0 = some (.slice elem)) {sz : Nat} (hsz : sizeT P elem = some sz) {args : Array Operand} {ρ : Operand → Value} {vs : List AV} (hv : VRelL μ vs (args.toList.map ρ))
    {v : AV} {h' : Heap} (he : lCopy sz h vs = some (v, h')) (ty : TypeId) : LGoes P tab μ h w (Builtin.copy_ ts ty (args.map ρ)) v h' := by
  unfold lCopy at he
  split at he <;> try (cases he; done)
  rename_i base dlen cap opn x
  obtain ⟨s', x', e1, e2, e3⟩ := VRelL_two hv
  obtain ⟨a1, a2⟩ := args_two e1
  split at he <;> try (cases he; done)
  rename_i m hm
  simp only at he
  split at he <;> try (cases he; done)
  rename_i cs hsrc
  obtain ⟨base', sCap, rfl, hcap, hnil⟩ := slice_form e2
  obtain ⟨r', q1, q2, q3⟩ := src_rel (P := P) hs hm (Nat.min_le_left m dlen) hsrc e3
  have hform : (Builtin.copy_ ts ty (args.map ρ)).run P w = (do
      if let some a := base' then storeCells a r'.toList
      pure (goInt (Nat.min m dlen)) : Sem Value).run P w := by
    unfold Builtin.copy_
    simp only [ht0, a1, a2, Sem.run_bind, run_underlying hu0, Result.andThen_ok, run_lenOf hm e3, run_sizeOf hsz, q1]
    rfl
  unfold LGoes
  rw [hform]
  split at he
  · simp only [Option.some.injEq, Prod.mk.injEq] at he; obtain ⟨rfl, rfl⟩ := he
    obtain ⟨rfl, rfl, _⟩ := hnil rfl
    exact ⟨_, w, μ, rfl, Goes.refl hs, VRel_int.2 rfl⟩
  · rename_i a off
    simp only [VRel] at e2
    obtain ⟨ad, c', l, k0, g1, g2, g3, g4, g5⟩ := e2
    cases k0
    split at he
    · rename_i hn
      simp only [Option.some.injEq, Prod.mk.injEq] at he; obtain ⟨rfl, rfl⟩ := he
      have hr0 : r'.toList = [] := by
        have hz : srcCells sz x 0 h = some cs := by rw [← hn]; exact hsrc
        rw [srcCells_zero hz] at q2
        exact VRelL_nil.1 q2
      refine ⟨_, w, μ, ?_, Goes.refl hs, VRel_int.2 rfl⟩
      simp only [hr0, hn]
      rfl
    · rename_i n hn0
      rw [Option.map_eq_some_iff] at he
      obtain ⟨h2, hst, heq⟩ := he
      simp only [Prod.mk.injEq] at heq; obtain ⟨rfl, rfl⟩ := heq
      obtain ⟨hlim, cs1, cs2, p1, p2, rfl⟩ := storeAt_some hst
      have hc' : 0 < sCap := by
        have h1 : Nat.min m dlen ≤ dlen := Nat.min_le_right m dlen
        have h2 : Nat.min m dlen ≠ 0 := fun h => hn0 h
        omega
      obtain ⟨w', k1, k2⟩ := store_row hs hlim g1 p1 (isAt_of_isSl g5 hc') p2 q2 q3
      refine ⟨_, w', μ, ?_, k2, VRel_int.2 rfl⟩
      simp only [Sem.run_bind, k1, Result.andThen_ok, Sem.run_pure]
      rfl

theorem clear_sound (hs : Sim P tab μ h w) {ts : Array TypeId} {t0 elem : TypeId} (ht0 : ts[0]? = some t0) (hu0 : P.underlying t0 = some (.slice elem)) {z : List AV} (hz : zerosT P elem = some z) {args : Array Operand} {ρ : Operand → Value} {vs : List AV} (hv : VRelL μ vs (args.toList.map ρ))
    {v : AV} {h' : Heap} (he : lClear z h vs = some (v, h')) (ty : TypeId) : LGoes P tab μ h w (Builtin.clear_ ts ty (args.map ρ)) v h' := by
  unfold lClear at he
  split at he <;> try (cases he; done)
  rename_i base n cap opn
  obtain ⟨s', e1, e2⟩ := VRelL_one hv
  have a1 : (args.map ρ)[0]? = some s' := by rw [← Array.getElem?_toList]; simp only [Array.toList_map, e1]; rfl
  have hnil : VRel μ (.tuple []) (.tuple #[]) := by simp only [VRel]; exact ⟨_, rfl, VRelL_nil.2 rfl⟩
  unfold LGoes Builtin.clear_
  simp only [ht0, a1, Sem.run_bind, run_underlying hu0, Result.andThen_ok]
  split at he
  · simp only [Option.some.injEq, Prod.mk.injEq] at he; obtain ⟨rfl, rfl⟩ := he
    simp only [VRel] at e2; obtain ⟨rfl, _⟩ := e2
    exact ⟨_, w, μ, rfl, Goes.refl hs, hnil⟩
  · simp only [Option.some.injEq, Prod.mk.injEq] at he; obtain ⟨rfl, rfl⟩ := he
    obtain ⟨base', sCap, rfl, hcap, _⟩ := slice_form e2
    refine ⟨_, w, μ, ?_, Goes.refl hs, hnil⟩
    cases base' <;> rfl
  · rename_i a off hn0
    rw [Option.map_eq_some_iff] at he
    obtain ⟨h2, hst, heq⟩ := he
    simp only [Prod.mk.injEq] at heq; obtain ⟨rfl, rfl⟩ := heq
    simp only [VRel] at e2
    obtain ⟨ad, c', l, rfl, g1, g2, g3, g4, g5⟩ := e2
    obtain ⟨hlim, cs1, cs2, p1, p2, rfl⟩ := storeAt_some hst
    obtain ⟨n1, rfl⟩ : ∃ k, n = k + 1 := ⟨n - 1, by have : n ≠ 0 := fun h => hn0 h; omega⟩
    obtain ⟨z', z1, z2, z3⟩ := run_zeros_all hz
    by_cases hz0 : z = []
    · subst hz0
      have hz0' : z'.cells.toList = [] := VRelL_nil.1 (z2 μ)
      have hzs : z'.cells.size = 0 := by rw [← Array.length_toList, hz0']; rfl
      have hr1 : repL (n1 + 1) ([] : List AV) = [] := List.eq_nil_of_length_eq_zero (by rw [repL_length]; simp)
      have hr2 : (Builtin.zeroCells z'.cells (n1 + 1)).toList = [] := List.eq_nil_of_length_eq_zero (by rw [Array.length_toList, zeroCells_size, hzs]; simp)
      rw [hr1] at p2
      obtain ⟨w', k1, k2⟩ := store_row hs hlim g1 p1 (isAt_of_isSl g5 (by omega)) p2 (VRelL_nil.2 rfl) rfl
      refine ⟨_, w', μ, ?_, k2, hnil⟩
      simp only [Sem.run_bind, z1, Result.andThen_ok, hr2]
      simp only [k1, Result.andThen_ok]
      rfl
    · have hrep := zeros_rep (z2 μ) z3 hz0 (n1 + 1)
      have hzs : z'.cells.size = z.length := by have := VRelL_length (z2 μ); simp at this; omega
      obtain ⟨w', k1, k2⟩ := store_row hs hlim g1 p1 (isAt_of_isSl g5 (by omega)) p2 hrep.1 hrep.2
      refine ⟨_, w', μ, ?_, k2, hnil⟩
      simp only [Sem.run_bind, z1, Result.andThen_ok]
      unfold Builtin.zeroCells
      rw [hzs] at k1 ⊢
      simp only [k1, Result.andThen_ok]
      rfl
end
end Go.Proofs.YtjjdminaacibeaaGreatDoor.Ev
/- The operations that write memory, all in one. -/
namespace Go.Proofs.YtjjdminaacibeaaGreatDoor.Ev

section
variable {P : Program} {tab : String → List (TypeId × FuncId)} {μ : Mu} {h : Heap} {w : World}

/-- What an operation's outcome leaves in the temporary that it fills. -/
def NextVal : Next → Value → Prop
  | .value v, u => u = v
  | .skip, u => u = undef
  | _, _ => False

theorem lop_lift {s : Sem Value} {v : AV} {h' : Heap} (g : LGoes P tab μ h w s v h') :
    ∃ n v' w' μ', (do pure (Next.value (← s)) : Sem Next).run P w = .ok n w' ∧ NextVal n v' ∧ Goes P tab μ h w μ' h' w' ∧ VRel μ' v v' := by
  obtain ⟨v', w', μ', h1, h2, h3⟩ := g
  exact ⟨_, v', w', μ', run_value h1, rfl, h2, h3⟩

theorem lop_unit {s : Sem Unit} {v : AV} {h' : Heap} (g : v = .undef ∧ ∃ w', s.run P w = .ok () w' ∧ Goes P tab μ h w μ h' w') :
    ∃ n v' w' μ', (do s; pure Next.skip : Sem Next).run P w = .ok n w' ∧ NextVal n v' ∧ Goes P tab μ h w μ' h' w' ∧ VRel μ' v v' := by
  obtain ⟨rfl, w', h1, h2⟩ := g
  refine ⟨.skip, undef, w', μ, by simp only [Sem.run_bind, h1, Result.andThen_ok, Sem.run_pure], rfl, h2, ?_⟩
  simp only [AV.undef, VRel]
  exact ⟨#[], rfl, VRelL_nil.2 rfl⟩

theorem lop_sound (hs : Sim P tab μ h w) {op : Op} {p : LOp} {xs : List Operand} (hc : compOp P tab op = some (.l p, xs)) {ρ : Operand → Value} {vs : List AV} (hv : VRelL μ vs (xs.map ρ)) {v : AV} {h' : Heap} (he : p.exec vs h = some (v, h'))
    {o : Oper} (ho : o.op = op) : ∃ n v' w' μ', (execOp ρ o).run P w = .ok n w' ∧ NextVal n v' ∧ Goes P tab μ h w μ' h' w' ∧ VRel μ' v v' := by
  cases op <;> simp only [compOp] at hc <;> try (cases hc; done)
  case alloc e => rw [Option.map_eq_some_iff] at hc; obtain ⟨_, _, h⟩ := hc; cases h
  case build t parts => split at hc <;> cases hc
  case buildSlice t n parts =>
    split at hc
    · split at hc
      · split at hc
        · cases hc
        · cases hc
      · cases hc
    · cases hc
  case load t x => split at hc <;> cases hc
  case store t x y =>
    rw [Option.map_eq_some_iff] at hc; obtain ⟨n, h1, h2⟩ := hc
    simp only [Prod.mk.injEq, IOp.l.injEq] at h2; obtain ⟨rfl, rfl⟩ := h2
    unfold execOp; rw [ho]
    exact lop_unit (store_sound hs h1 hv he)
  case binOp bop t x y yt =>
    split at hc <;> first | (cases hc; done) | (split at hc <;> cases hc; done)
  case convert s d x =>
    unfold execOp; rw [ho]
    split at hc
    · cases hc
    · cases hc
    · split at hc <;> cases hc
    · split at hc <;> cases hc
    · rename_i e0 e hs' hd
      split at hc
      · rename_i h8
        simp only [Option.some.injEq, Prod.mk.injEq, IOp.l.injEq] at hc; obtain ⟨rfl, rfl⟩ := hc
        obtain ⟨rfl, h8⟩ := h8
        exact lop_lift (mark_sound hs hd h8 hv he)
      · cases hc
    · cases hc
  case slice t x lo hi mx =>
    cases mx with
    | none =>
      simp only at hc
      split at hc
      · rw [Option.map_eq_some_iff] at hc; obtain ⟨_, _, h⟩ := hc; cases h
      · rw [Option.map_eq_some_iff] at hc; obtain ⟨_, _, h⟩ := hc; cases h
      · cases hc
      · cases hc
    | some mx =>
      cases hi with
      | none => cases hc
      | some hi =>
        simp only at hc
        split at hc
        · rw [Option.map_eq_some_iff] at hc; obtain ⟨_, _, h⟩ := hc; cases h
        · cases hc
  case fieldAddr t x f =>
    split at hc
    · split at hc
      · split at hc
        · split at hc <;> cases hc
        · cases hc
      · cases hc
    · cases hc
  case field t x f =>
    split at hc
    · split at hc
      · split at hc <;> cases hc
      · cases hc
    · cases hc
  case indexAddr t x i =>
    split at hc
    · rw [Option.map_eq_some_iff] at hc; obtain ⟨_, _, h⟩ := hc; cases h
    · rw [Option.map_eq_some_iff] at hc; obtain ⟨_, _, h⟩ := hc; cases h
    · cases hc
  case index t x i =>
    split at hc
    · split at hc <;> cases hc
    · cases hc
    · cases hc
  case lookup t x i ok =>
    split at hc
    · split at hc <;> cases hc
    · cases hc
  case mapUpdate t m k x =>
    unfold execOp; rw [ho]
    split at hc
    · rename_i kt et hu
      split at hc
      · rename_i hk
        simp only [Option.some.injEq, Prod.mk.injEq, IOp.l.injEq] at hc; obtain ⟨rfl, rfl⟩ := hc
        exact lop_unit (mapUpdate_sound hs hu hk hv he)
      · cases hc
    · cases hc
  case makeMap t r => cases r <;> cases hc
  case makeSlice t l c =>
    split at hc
    · split at hc
      · split at hc <;> cases hc
      · cases hc
    · cases hc
  case makeFunc fn first captured => cases fn <;> cases hc
  case makeInterface t x => split at hc <;> cases hc
  case range t x => split at hc <;> cases hc
  case next x s =>
    unfold execOp; rw [ho]
    split at hc
    · rename_i hst
      simp only [Option.some.injEq, Prod.mk.injEq, IOp.l.injEq] at hc; obtain ⟨rfl, rfl⟩ := hc
      subst hst
      exact lop_lift (next_sound hs hv he _)
    · cases hc
  case call c =>
    obtain ⟨callee, args, ts⟩ := c
    simp only at hc
    cases callee with
    | value f => cases hc
    | invoke r name => simp only at hc; split at hc <;> cases hc
    | builtin b =>
      simp only at hc
      unfold execOp; rw [ho]
      simp only [resolve, Sem.run_bind, Sem.run_pure, Result.andThen_ok]
      unfold compBuiltin at hc
      split at hc
      · rename_i e hu
        rw [Option.bind_eq_some_iff] at hu
        obtain ⟨t0, ht0, hu⟩ := hu
        split at hc
        · rename_i z n m d hz hn hm hd
          rw [Option.bind_eq_some_iff] at hd
          obtain ⟨t1, ht1, hd⟩ := hd
          split at hc
          · split at hc
            · cases hc
            · rename_i hcond
              simp only [Option.some.injEq, Prod.mk.injEq, IOp.l.injEq] at hc; obtain ⟨rfl, rfl⟩ := hc
              exact lop_lift (appendZ_sound hs ht0 ht1 hu hd hz hn (by omega) hm (by omega) hv he _)
          · rename_i hnk
            split at hc
            · cases hc
            · rename_i hcond
              simp only [Option.some.injEq, Prod.mk.injEq, IOp.l.injEq] at hc; obtain ⟨rfl, rfl⟩ := hc
              exact lop_lift (append_sound hs ht0 ht1 hu hd (fun k => by rintro rfl; exact hnk _ rfl) hz hn (by omega) hm hv he _)
        · cases hc
      · cases hc
      · cases hc
      · cases hc
      · cases hc
      · rename_i e hu
        rw [Option.bind_eq_some_iff] at hu
        obtain ⟨t0, ht0, hu⟩ := hu
        rw [Option.bind_eq_some_iff] at hc; obtain ⟨n, hn, h⟩ := hc
        split at h
        · cases h
        · simp only [Option.some.injEq, Prod.mk.injEq, IOp.l.injEq] at h; obtain ⟨rfl, rfl⟩ := h
          exact lop_lift (copy_sound hs ht0 hu hn hv he _)
      · rename_i e hu
        rw [Option.bind_eq_some_iff] at hu
        obtain ⟨t0, ht0, hu⟩ := hu
        rw [Option.map_eq_some_iff] at hc; obtain ⟨z, hz, h⟩ := hc
        simp only [Prod.mk.injEq, IOp.l.injEq] at h; obtain ⟨rfl, rfl⟩ := h
        exact lop_lift (clear_sound hs ht0 hu hz hv he _)
      · cases hc
      · cases hc
      · cases hc
end
end Go.Proofs.YtjjdminaacibeaaGreatDoor.Ev
/- The operations' soundness, put to the walk's use. -/
namespace Go.Proofs.YtjjdminaacibeaaGreatDoor.Ev

/-- The fence that lets everything in, of an activation's frame or of a round's. -/
def fence (ro : Option Nat) : Fence := { Fence.wide with round := ro }

section
variable {P : Program} {tab : String → List (TypeId × FuncId)}

/-- What the machine makes of an operation's outcome, panics and the rest left out. -/
def Upon (P : Program) (R : Value → World → Prop) : Result Next → Prop
  | .ok (.value v) w => R v w
  | .ok .skip w => R undef w
  | .ok (.enter f args) w => CallsIn Fence.wide 0 P f args w fun
      | .returned v, w' => R v w'
      | _, _ => False
  | .ok (.round l f tmps assign body) w => RoundIn Fence.wide 0 P l f tmps assign body w fun
      | .returned v, w' => R v w'
      | _, _ => False
  | _ => False

theorem Upon.mono {R R' : Value → World → Prop} (hr : ∀ v w, R v w → R' v w) {r : Result Next} (h : Upon P R r) : Upon P R' r := by
  cases r with
  | halt _ _ => exact h
  | ok n w =>
    cases n <;> simp only [Upon] at h ⊢ <;> try exact h
    · exact hr _ _ h
    · exact hr _ _ h
    · exact CallsIn.mono h (fun e w' he => by cases e <;> first | exact hr _ _ he | exact he)
    · exact RoundIn.mono h (fun e w' he => by cases e <;> first | exact hr _ _ he | exact he)

theorem upon_in {ro : Option Nat} {o : Oper} {a : Act} {next : Act → World → Prop} {Q : Exit → Act → World → Prop} {R : Value → World → Prop} {r : Result Next} (h : Upon P R r)
    (hn : ∀ v w', R v w' → next (a.put o.dst v) w') : o.uponIn (fence ro) 0 P a next Q r := by
  have h := h.mono hn
  cases r with
  | halt _ _ => exact h.elim
  | ok n w =>
    cases n <;> simp only [Upon] at h <;> try (exact h.elim)
    · exact h
    · exact h
    · refine ⟨fun hc => by simp [fence, Fence.wide] at hc, ?_⟩
      have := CallsIn.mono (R' := fun
        | .returned v, w'' => next (a.put o.dst v) w''
        | .panicked chain, w'' => Q (.panic chain) a w''
        | .outgrown, _ => LetsOut Q) h (fun e w' he => by cases e <;> first | exact he | exact he.elim)
      exact this
    · refine ⟨fun hc => by simp [fence, Fence.wide] at hc, ?_⟩
      have := RoundIn.mono (R' := fun
        | .returned v, w'' => next (a.put o.dst v) w''
        | .panicked chain, w'' => Q (.panic chain) a w''
        | .outgrown, _ => LetsOut Q) h (fun e w' he => by cases e <;> first | exact he | exact he.elim)
      exact this

/-- What the calling of a function value comes to. -/
def callSem (fv : Value) (args : Array Value) : Sem Next := do
  let d ← Deferred.ofValue fv args
  invoke d.target d.args

/-- The evaluator's calls are the model's. -/
def RecOk (P : Program) (tab : String → List (TypeId × FuncId)) (rec : Rec) : Prop :=
  ∀ fv args h v h', rec fv args h = some (v, h') → ∀ (μ : Mu) (w : World) (fv' : Value) (args' : Array Value), Sim P tab μ h w → VRel μ fv fv' → VRelL μ args args'.toList →
    Upon P (fun v' w' => ∃ μ', Goes P tab μ h w μ' h' w' ∧ VRel μ' v v') ((callSem fv' args').run P w) ∧
    ∀ f fs cs l, fv = .func (.func f) fs cs → args = [.func (.yield l) [] []] → ∃ f' as' w2, (callSem fv' args').run P w = .ok (.enter f' as') w2

/-! ### Arguments -/
/-- The values of a row of operands, the temporaries looked up by L. -/
def evalBy (L : Nat → Option AV) : List Opd → Option (List AV)
  | [] => some []
  | .tmp t :: r => match L t, evalBy L r with
    | some v, some vs => some (v :: vs)
    | _, _ => none
  | .const v :: r => match evalBy L r with
    | some vs => some (v :: vs)
    | none => none

theorem evalL_by (e : Env) : ∀ l : List Opd, evalL e l = evalBy e.get l
  | [] => rfl
  | .tmp t :: r => by
    have ih := evalL_by e r
    show (Option.rec none (fun v => consO v (evalL e r)) (e.get t) : Option (List AV)) = _
    rw [ih]
    simp only [evalBy]
    cases e.get t with
    | none => rfl
    | some v => cases evalBy e.get r <;> rfl
  | .const v :: r => by
    have ih := evalL_by e r
    show consO v (evalL e r) = _
    rw [ih]
    simp only [evalBy]
    cases evalBy e.get r <;> rfl

theorem evalBy_congr {L L' : Nat → Option AV} : ∀ (l : List Opd), (∀ t, Opd.tmp t ∈ l → L t = L' t) → evalBy L l = evalBy L' l
  | [], _ => rfl
  | .tmp t :: r, h => by
    simp only [evalBy]
    rw [h t (by simp), evalBy_congr r (fun t ht => h t (by simp [ht]))]
  | .const v :: r, h => by
    simp only [evalBy]
    rw [evalBy_congr r (fun t ht => h t (by simp [ht]))]

/-- The temporaries of an activation, related by L. -/
def LookRel (μ : Mu) (L : Nat → Option AV) (tmps : Array Value) : Prop := ∀ t v, L t = some v → ∃ v', tmps[t]? = some v' ∧ VRel μ v v'

theorem eval_tmp {a : Act} {t : Nat} {v' : Value} (h : a.tmps[t]? = some v') : a.eval (.tmp t) = v' := by
  show a.tmps.getD t undef = v'
  rw [Array.getD_eq_getD_getElem?, h]; rfl

theorem args_rel {μ : Mu} {L : Nat → Option AV} {a : Act} : ∀ {xs : List Operand} {ys : List Opd} {vs : List AV}, mapOpt opd xs = some ys → evalBy L ys = some vs →
    (∀ t, Opd.tmp t ∈ ys → ∀ v, L t = some v → ∃ v', a.tmps[t]? = some v' ∧ VRel μ v v') → VRelL μ vs (xs.map a.eval)
  | [], ys, vs, h1, h2, _ => by
    simp only [mapOpt, Option.some.injEq] at h1; subst h1
    simp only [evalBy, Option.some.injEq] at h2; subst h2
    exact VRelL_nil.2 rfl
  | x :: xs, ys, vs, h1, h2, hL => by
    simp only [mapOpt] at h1
    split at h1 <;> try (cases h1; done)
    rename_i y hy
    split at h1 <;> try (cases h1; done)
    rename_i ys' hys
    simp only [Option.some.injEq] at h1; subst h1
    cases x with
    | tmp t =>
      simp only [opd, Option.some.injEq] at hy; subst hy
      simp only [evalBy] at h2
      split at h2 <;> try (cases h2; done)
      rename_i v vs' e1 e2
      simp only [Option.some.injEq] at h2; subst h2
      obtain ⟨v', e3, e4⟩ := hL t (by simp) v e1
      refine VRelL_cons'.2 ⟨?_, args_rel hys e2 (fun t ht => hL t (by simp [ht]))⟩
      rw [eval_tmp e3]; exact e4
    | const c =>
      simp only [opd, Option.map_eq_some_iff] at hy
      obtain ⟨v, hv, rfl⟩ := hy
      simp only [evalBy] at h2
      split at h2 <;> try (cases h2; done)
      rename_i vs' e2
      simp only [Option.some.injEq] at h2; subst h2
      exact VRelL_cons'.2 ⟨toAV_rel μ hv, args_rel hys e2 (fun t ht => hL t (by simp [ht]))⟩
    | func f =>
      simp only [opd, Option.some.injEq] at hy; subst hy
      simp only [evalBy] at h2
      split at h2 <;> try (cases h2; done)
      rename_i vs' e2
      simp only [Option.some.injEq] at h2; subst h2
      refine VRelL_cons'.2 ⟨?_, args_rel hys e2 (fun t ht => hL t (by simp [ht]))⟩
      simp only [VRel]
      exact ⟨#[], #[], rfl, VRelL_nil.2 rfl, VRelL_nil.2 rfl⟩
    | global g => cases hy

/-! ### Calls -/
theorem compIns_ok {o : Op} {io : IOp} {ys : List Opd} (h : compIns P tab o = (io, ys)) : (io = .p .mv ∧ ys = []) ∨ ∃ xs, compOp P tab o = some (io, xs) ∧ mapOpt opd xs = some ys := by
  unfold compIns at h
  split at h
  · rename_i io' xs hc
    split at h
    · rename_i ys' hy
      simp only [Prod.mk.injEq] at h; obtain ⟨rfl, rfl⟩ := h
      exact .inr ⟨xs, hc, hy⟩
    · simp only [failIns, Prod.mk.injEq] at h; exact .inl ⟨h.1.symm, h.2.symm⟩
  · simp only [failIns, Prod.mk.injEq] at h; exact .inl ⟨h.1.symm, h.2.symm⟩

theorem run_program (w : World) : (program).run P w = .ok P w := rfl

theorem methOf_ok {name : String} {t : TypeId} {f : FuncId} : ∀ {table : List (TypeId × FuncId)}, methOk P name table = true → methOf t table = some f →
    ∃ i m e, P.info? t = some i ∧ P.underlying t = some (.pointer e) ∧ i.methods.find? (·.name == name) = some m ∧ m.path.isEmpty = true ∧ m.func = some (f, true)
  | [], _, h => by cases h
  | (u, g) :: r, h, hf => by
    simp only [methOk, Bool.and_eq_true] at h
    obtain ⟨h1, h2⟩ := h
    simp only [methOf] at hf
    split at hf
    · rename_i hb
      rw [Nat.beq_eq] at hb; subst hb
      simp only [Option.some.injEq] at hf; subst hf
      split at h1
      · rename_i i e hi hu
        split at h1
        · rename_i m hm
          simp only [Bool.and_eq_true] at h1
          obtain ⟨h3, h4⟩ := h1
          split at h4
          · rename_i g' hg
            refine ⟨i, m, e, hi, hu, hm, h3, ?_⟩
            rw [hg]
            have : g' = g := by simpa using h4
            rw [this]
          · cases h4
        · cases h1
      · cases h1
    · exact methOf_ok h2 hf

theorem run_method {name : String} {t : TypeId} {f : FuncId} {table : List (TypeId × FuncId)} (h : methOk P name table = true) (hf : methOf t table = some f) (v : Value) (w : World) :
    (method (P.types.size + Made.depth) t v name).run P w = .ok (f, v) w := by
  obtain ⟨i, m, e, hi, hu, hm, hp, hg⟩ := methOf_ok h hf
  have hpos : Made.depth = 100 := rfl
  obtain ⟨k, hk⟩ : ∃ k, P.types.size + Made.depth = k + 1 := ⟨P.types.size + Made.depth - 1, by omega⟩
  rw [hk]
  unfold method
  have hpl : m.path.toList = [] := by
    rw [Array.isEmpty_iff] at hp; rw [hp]
  simp only [Sem.run_bind, run_typeInfo hi, Result.andThen_ok, hm, hpl, follow, Sem.run_pure, hg, receiverAt, run_underlying hu, Place.get]

theorem insExec_sound {rec : Rec} (hr : RecOk P tab rec) {μ : Mu} {h h' : Heap} {w : World} (hs : Sim P tab μ h w) {op : Op} {io : IOp} {xs : List Operand} (hc : compOp P tab op = some (io, xs)) {ρ : Operand → Value} {vs : List AV} (hv : VRelL μ vs (xs.map ρ))
    {v : AV} (he : insExec rec io vs h = some (v, h')) {o : Oper} (ho : o.op = op) : Upon P (fun v' w' => ∃ μ', Goes P tab μ h w μ' h' w' ∧ VRel μ' v v') ((execOp ρ o).run P w) := by
  cases io with
  | p p =>
    simp only [insExec] at he
    unfold keepH at he
    split at he <;> try (cases he; done)
    rename_i v0 hx
    simp only [Option.some.injEq, Prod.mk.injEq] at he; obtain ⟨rfl, rfl⟩ := he
    obtain ⟨v', h1, h2⟩ := pop_sound hc hv hx ho w
    rw [h1]
    exact ⟨μ, Goes.refl hs, h2⟩
  | r p =>
    simp only [insExec] at he
    unfold keepH at he
    split at he <;> try (cases he; done)
    rename_i v0 hx
    simp only [Option.some.injEq, Prod.mk.injEq] at he; obtain ⟨rfl, rfl⟩ := he
    obtain ⟨v', h1, h2⟩ := rop_sound hs hc hv hx ho
    rw [h1]
    exact ⟨μ, Goes.refl hs, h2⟩
  | a p =>
    simp only [insExec] at he
    unfold insAlloc at he
    split at he <;> try (cases he; done)
    rename_i ob f hx
    split at he <;> try (cases he; done)
    rename_i h2 hal
    simp only [Option.some.injEq, Prod.mk.injEq] at he; obtain ⟨rfl, rfl⟩ := he
    obtain ⟨hn, rfl⟩ := allocAt_some hal
    obtain ⟨v', w', l, h1, L⟩ := aop_sound (tab := tab) hc hv hx ho w
    rw [h1]
    exact ⟨upd μ h.next l, Goes.new hs hn L.blk L.size L.old L.obj L.os L.output L.tape, L.val _ _ (upd_same _ _ _)⟩
  | l p =>
    obtain ⟨n, v', w', μ', h1, h2, h3, h4⟩ := lop_sound hs hc hv he ho
    rw [h1]
    cases n <;> simp only [NextVal] at h2 <;> try (exact h2.elim)
    · subst h2; exact ⟨μ', h3, h4⟩
    · subst h2; exact ⟨μ', h3, h4⟩
  | c p =>
    cases op <;> simp only [compOp] at hc <;> try (cases hc; done)
    case call c =>
      obtain ⟨callee, args, ts⟩ := c
      simp only at hc
      unfold execOp; rw [ho]
      cases callee with
      | value f =>
        simp only [Option.some.injEq, Prod.mk.injEq, IOp.c.injEq] at hc; obtain ⟨rfl, rfl⟩ := hc
        simp only [insExec] at he
        rw [List.map_cons] at hv
        cases vs with
        | nil => cases he
        | cons fv as =>
          obtain ⟨g1, g2⟩ := VRelL_cons'.1 hv
          simp only [insCall] at he
          have := (hr fv as h v h' he μ w (ρ f) (args.map ρ) hs g1 (by rw [Array.toList_map]; exact g2)).1
          exact this
      | invoke rv name =>
        simp only at hc
        split at hc <;> try (cases hc; done)
        rename_i hm
        simp only [Option.some.injEq, Prod.mk.injEq, IOp.c.injEq] at hc; obtain ⟨rfl, rfl⟩ := hc
        simp only [insExec] at he
        unfold insInvoke at he
        split at he <;> try (cases he; done)
        rename_i t x as
        split at he <;> try (cases he; done)
        rename_i f hf
        rw [List.map_cons] at hv
        obtain ⟨g1, g2⟩ := VRelL_cons'.1 hv
        simp only [VRel] at g1
        obtain ⟨x', g3, g4⟩ := g1
        have key := (hr _ _ h v h' he μ w (.func (.func f) #[] #[]) (#[x'] ++ args.map ρ) hs (by simp only [VRel]; exact ⟨#[], #[], rfl, VRelL_nil.2 rfl, VRelL_nil.2 rfl⟩)
          (by rw [Array.toList_append, Array.toList_map]; exact VRelL_cons'.2 ⟨g4, g2⟩)).1
        have h0 : (#[ρ rv] ++ args.map ρ)[0]? = some (.iface t x') := by
          rw [g3, ← Array.getElem?_toList, Array.toList_append]; rfl
        have hex : (#[ρ rv] ++ args.map ρ).extract 1 (#[ρ rv] ++ args.map ρ).size = args.map ρ := by
          apply Array.ext'
          simp
          exact List.take_of_length_le (by simp)
        have e1 : (do let d ← resolve ρ { callee := .invoke rv name, args := args, argTypes := ts } o.type; invoke d.target d.args : Sem Next).run P w = (callFunc f (#[x'] ++ args.map ρ)).run P w := by
          simp only [resolve, Sem.run_bind, Sem.run_pure, Result.andThen_ok, invoke, h0, callMethod, run_program, run_method hm hf, hex]
        have e2 : (callSem (.func (.func f) #[] #[]) (#[x'] ++ args.map ρ)).run P w = (callFunc f (#[x'] ++ args.map ρ)).run P w := by
          unfold callSem
          simp only [Deferred.ofValue, Sem.run_bind, Sem.run_pure, Result.andThen_ok, invoke]
          congr 2
          simp
        rw [e1, ← e2]
        exact key
      | builtin b =>
        simp only at hc
        unfold compBuiltin at hc
        repeat' (first | (cases hc; done) | (rw [Option.map_eq_some_iff] at hc; obtain ⟨_, _, hc⟩ := hc; cases hc; done) | (rw [Option.bind_eq_some_iff] at hc; obtain ⟨_, _, hc⟩ := hc) | split at hc)
    case makeMap t r => cases r <;> cases hc
    case slice t x lo hi mx =>
      cases mx with
      | none =>
        simp only at hc
        split at hc
        · rw [Option.map_eq_some_iff] at hc; obtain ⟨_, _, h⟩ := hc; cases h
        · rw [Option.map_eq_some_iff] at hc; obtain ⟨_, _, h⟩ := hc; cases h
        · cases hc
        · cases hc
      | some mx =>
        cases hi with
        | none => cases hc
        | some hi =>
          simp only at hc
          split at hc
          · rw [Option.map_eq_some_iff] at hc; obtain ⟨_, _, h⟩ := hc; cases h
          · cases hc
    all_goals repeat' (first | (cases hc; done) | (rw [Option.map_eq_some_iff] at hc; obtain ⟨_, _, hc⟩ := hc; cases hc; done) | (rw [Option.bind_eq_some_iff] at hc; obtain ⟨_, _, hc⟩ := hc) | split at hc)

end
end Go.Proofs.YtjjdminaacibeaaGreatDoor.Ev
/- One instruction, and a region in the order of its text. -/
namespace Go.Proofs.YtjjdminaacibeaaGreatDoor.Ev

section
variable {P : Program} {tab : String → List (TypeId × FuncId)} {B : Nat}

/-- The marks among an activation's deferred calls. -/
def markOf (r : Nat) : Deferred := { target := .collected r, args := #[] }

def DefOk (B : Nat) (ro : Option Nat) (μ : Mu) (w : World) (ds : List Deferred) : Prop :=
  B ≤ w.heap.size ∧ ∃ rs : List Nat, ds = rs.map markOf ∧ rs.Nodup ∧ (ro ≠ none → rs = []) ∧ ∀ r ∈ rs, B ≤ r ∧ w.heap[r]? = some (.deferred (some [])) ∧ ∀ x l, μ x = some l → l.blk ≠ some r

theorem DefOk.goes {ro : Option Nat} {μ μ' : Mu} {h h' : Heap} {w w' : World} {ds : List Deferred} (hd : DefOk B ro μ w ds) (g : Goes P tab μ h w μ' h' w') : DefOk B ro μ' w' ds := by
  obtain ⟨h0, rs, h1, h2, h3, h4⟩ := hd
  refine ⟨Nat.le_trans h0 g.size, rs, h1, h2, h3, fun r hr => ?_⟩
  obtain ⟨hb, h5, h6⟩ := h4 r hr
  obtain ⟨h7, h8⟩ := g.cfr r (heap_lt h5) h6
  exact ⟨hb, h7.trans h5, h8⟩

structure ActRel (B : Nat) (μ : Mu) (nt : Nat) (w : World) (ro : Option Nat) (env : Env) (a : Act) : Prop where
  size : nt ≤ a.tmps.size
  rel : EnvRel μ env a.tmps
  full : EnvFull env nt
  defs : DefOk B ro μ w a.defers

theorem ActRel.goes {ro : Option Nat} {μ μ' : Mu} {h h' : Heap} {w w' : World} {nt : Nat} {env : Env} {a : Act} (r : ActRel B μ nt w ro env a) (g : Goes P tab μ h w μ' h' w') : ActRel B μ' nt w' ro env a :=
  ⟨r.size, r.rel.mono g.ext, r.full, r.defs.goes g⟩

theorem put_size (a : Act) (d : Option Tmp) (v : Value) : (a.put d v).tmps.size = a.tmps.size := by
  cases d <;> simp [Act.put]
theorem put_defers (a : Act) (d : Option Tmp) (v : Value) : (a.put d v).defers = a.defers := by
  cases d <;> rfl

theorem ActRel.put {ro : Option Nat} {μ : Mu} {w : World} {nt : Nat} {env : Env} {a : Act} (r : ActRel B μ nt w ro env a) {d : Option Nat} (hd : dstOk nt d = true) {v : AV} {v' : Value} (hv : VRel μ v v') :
    ActRel B μ nt w ro (putDst env d v) (a.put d v') := by
  cases d with
  | none => exact r
  | some t =>
    have ht : t < nt := by simpa [dstOk] using hd
    exact ⟨by rw [put_size]; exact r.size, r.rel.put (r.full t ht) (Nat.lt_of_lt_of_le ht r.size) hv, r.full.put t v, by rw [put_defers]; exact r.defs⟩

theorem undef_rel (μ : Mu) : VRel μ .undef undef := by
  simp only [AV.undef, VRel]
  exact ⟨#[], rfl, VRelL_nil.2 rfl⟩

/-! ### One instruction -/
theorem compOper_some {nt : Nat} {ops : Array Oper} {o : Oper} {i : Ins} (h : compOper P tab nt ops o = some i) :
    compGuard ops o.guard = some i.guard ∧ dstOk nt o.dst = true ∧ compIns P tab o.op = (i.op, i.args) ∧ i.dst = o.dst := by
  unfold compOper at h
  split at h <;> try (cases h; done)
  rename_i g hg
  split at h <;> try (cases h; done)
  rename_i hd
  simp only [Option.some.injEq] at h; subst h
  exact ⟨hg, hd, rfl, rfl⟩

def wantBy (L : Nat → Option AV) : Option (Nat × Bool) → Option Bool
  | none => some true
  | some (t, want) => match L t with
    | some (.bool b) => some (b == want)
    | some (.tuple _) => some false
    | _ => none

theorem wantedI_by (e : Env) (g : Option (Nat × Bool)) : wantedI e g = wantBy e.get g := by
  cases g with
  | none => rfl
  | some p => obtain ⟨t, want⟩ := p; rfl

theorem wanted_rel {μ : Mu} {L : Nat → Option AV} {ops : Array Oper} {o : Oper} {g : Option (Nat × Bool)} {tmps : Array Value} (hg : compGuard ops o.guard = some g) {b : Bool} (hw : wantBy L g = some b)
    (hL : ∀ t want, g = some (t, want) → ∀ v, L t = some v → ∃ v', tmps[t]? = some v' ∧ VRel μ v v') : Region.wanted o (yielded ops tmps) = b := by
  unfold Region.wanted
  cases hog : o.guard with
  | none =>
    rw [hog] at hg
    simp only [compGuard, Option.some.injEq] at hg; subst hg
    simp only [wantBy, Option.some.injEq] at hw; exact hw
  | some p =>
    obtain ⟨j, want⟩ := p
    rw [hog] at hg
    simp only [compGuard, Option.map_eq_some_iff] at hg
    obtain ⟨t, ht, rfl⟩ := hg
    simp only [wantBy] at hw
    simp only [yielded, ht, Option.bind_some]
    split at hw
    · rename_i b0 hl
      obtain ⟨v', h1, h2⟩ := hL t want rfl _ hl
      rw [VRel_bool] at h2; subst h2
      simp only [Option.some.injEq] at hw; subst hw
      rw [h1]
      cases b0 <;> cases want <;> rfl
    · rename_i vs hl
      obtain ⟨v', h1, h2⟩ := hL t want rfl _ hl
      simp only [VRel] at h2
      obtain ⟨vs', rfl, _⟩ := h2
      simp only [Option.some.injEq] at hw; subst hw
      rw [h1]
      rfl
    · cases hw

theorem mv_nil : POp.exec .mv [] = none := rfl

/-- What a wanted operation's instruction comes to: it is an operation that the translation knows. -/
theorem ins_known {o : Oper} {i : Ins} (hc : compIns P tab o.op = (i.op, i.args)) {L : Nat → Option AV} {rec : Rec} {vs : List AV} {h h' : Heap} {v : AV} (hv : evalBy L i.args = some vs) (he : insExec rec i.op vs h = some (v, h')) :
    ∃ xs, compOp P tab o.op = some (i.op, xs) ∧ mapOpt opd xs = some i.args := by
  rcases compIns_ok hc with ⟨h1, h2⟩ | h
  · rw [h2] at hv
    simp only [evalBy, Option.some.injEq] at hv; subst hv
    rw [h1] at he
    simp only [insExec, mv_nil, keepH] at he
    cases he
  · exact h

theorem not_defer {o : Oper} {io : IOp} {xs : List Operand} (h : compOp P tab o.op = some (io, xs)) : ∀ c, o.op ≠ .defer c := by
  intro c hc
  rw [hc] at h
  cases h

theorem ins_sound {rec : Rec} (hr : RecOk P tab rec) {nt : Nat} {ops : Array Oper} {o : Oper} {i : Ins} (hc : compOper P tab nt ops o = some i) {μ : Mu} {h h' : Heap} {w : World} (hs : Sim P tab μ h w) {ro : Option Nat} {env : Env} {a : Act}
    (ha : ActRel B μ nt w ro env a) {v : AV} (he : insRun rec i env h (wantedI env i.guard) = some (v, h')) :
    if Region.wanted o (yielded ops a.tmps) = true then Upon P (fun v' w' => ∃ μ', Goes P tab μ h w μ' h' w' ∧ VRel μ' v v') ((o.semAt ro a.eval).run P w) else v = .undef ∧ h' = h := by
  obtain ⟨c1, c2, c3, c4⟩ := compOper_some hc
  rw [wantedI_by] at he
  cases hw : wantBy env.get i.guard with
  | none => rw [hw] at he; cases he
  | some b =>
    have hwt := wanted_rel (tmps := a.tmps) (μ := μ) c1 hw (fun t _ _ v hv => ha.rel t v hv)
    rw [hw] at he
    rw [hwt]
    cases b with
    | false =>
      simp only [insRun, Option.some.injEq, Prod.mk.injEq] at he
      simp only [Bool.false_eq_true, if_false]
      exact ⟨he.1.symm, he.2.symm⟩
    | true =>
      simp only [insRun] at he
      rw [evalL_by] at he
      cases hv : evalBy env.get i.args with
      | none => rw [hv] at he; cases he
      | some vs =>
        rw [hv] at he
        simp only [insGo] at he
        obtain ⟨xs, k1, k2⟩ := ins_known c3 hv he
        have hrel := args_rel (μ := μ) (a := a) k2 hv (fun t _ v hv => ha.rel t v hv)
        rw [if_pos rfl, Oper.semAt_eq _ _ _ (not_defer k1)]
        exact insExec_sound hr hs k1 hrel he rfl

/-! ### A region in the order of its text -/
def exOf : Exit' → Exit
  | .normal => .normal
  | .exit id => .exit id
  | .ret => .ret

/-- What a piece of code is to leave behind. -/
def Post (P : Program) (tab : String → List (TypeId × FuncId)) (B nt : Nat) (ro : Option Nat) (μ : Mu) (h : Heap) (w : World) (ex : Exit') (env' : Env) (h' : Heap) : Exit → Act → World → Prop :=
  fun e a' w' => e = exOf ex ∧ ∃ μ', Goes P tab μ h w μ' h' w' ∧ ActRel B μ' nt w' ro env' a'

theorem ops_sound {rec : Rec} (hr : RecOk P tab rec) {nt : Nat} {ops : Array Oper} {ro : Option Nat} {Q : Exit → Act → World → Prop} : ∀ (l : List Oper) (is : List Ins) (k : Nat), mapOpt (compOper P tab nt ops) l = some is → (∀ i o, l[i]? = some o → ops[k + i]? = some o) →
    ∀ (μ : Mu) (h : Heap) (w : World) (env : Env) (a : Act) (out : Out), Sim P tab μ h w → ActRel B μ nt w ro env a → itemsE rec (is.map .ins) env h = some out →
    (∀ ex env' h', out = .mk ex env' h' → ∀ a' w', Post P tab B nt ro μ h w ex env' h' (exOf ex) a' w' → Q (exOf ex) a' w') → wpOpsIn (fence ro) 0 P ops Q (List.range' k l.length) a w
  | [], is, k, hm, _, μ, h, w, env, a, out, hs, ha, he, hQ => by
    simp only [mapOpt, Option.some.injEq] at hm; subst hm
    have he : some (Out.mk .normal env h) = some out := he
    simp only [Option.some.injEq] at he
    exact hQ .normal env h he.symm a w ⟨rfl, μ, Goes.refl hs, ha⟩
  | o :: l, is, k, hm, hix, μ, h, w, env, a, out, hs, ha, he, hQ => by
    simp only [mapOpt] at hm
    split at hm <;> try (cases hm; done)
    rename_i i hi
    split at hm <;> try (cases hm; done)
    rename_i is' his
    simp only [Option.some.injEq] at hm; subst hm
    obtain ⟨c1, c2, c3, c4⟩ := compOper_some hi
    have h0 : ops[k]? = some o := hix 0 o rfl
    have hix' : ∀ j o', l[j]? = some o' → ops[k + 1 + j]? = some o' := fun j o' ho => by
      have := hix (j + 1) o' ho
      rw [show k + 1 + j = k + (j + 1) by omega]; exact this
    have he : itemsIns (itemsE rec (is'.map .ins)) env i.dst (insRun rec i env h (wantedI env i.guard)) = some out := he
    unfold itemsIns at he
    split at he <;> try (cases he; done)
    rename_i v h1 hrun
    have hstep := ins_sound hr hi hs ha hrun
    rw [List.length_cons, List.range'_succ]
    simp only [wpOpsIn, h0]
    have next : ∀ v' w', (∃ μ', Goes P tab μ h w μ' h1 w' ∧ VRel μ' v v') → wpOpsIn (fence ro) 0 P ops Q (List.range' (k + 1) l.length) (a.put o.dst v') w' := by
      rintro v' w' ⟨μ', g, hv⟩
      have ha' := ((ha.goes g).put c2 hv)
      rw [← c4] at ha'
      refine ops_sound hr l is' (k + 1) his hix' μ' h1 w' _ _ out g.sim (by rw [← c4]; exact ha') he ?_
      intro ex env' h' hout a' w'' hp
      obtain ⟨hp1, μ'', g', ha''⟩ := hp
      exact hQ ex env' h' hout a' w'' ⟨hp1, μ'', g.trans g', ha''⟩
    split
    · rename_i hw
      rw [if_pos hw] at hstep
      exact ⟨fun _ _ => trivial, upon_in hstep next⟩
    · rename_i hw
      rw [if_neg hw] at hstep
      obtain ⟨rfl, rfl⟩ := hstep
      exact ⟨fun _ _ => trivial, next _ _ ⟨μ, Goes.refl hs, undef_rel μ⟩⟩

end
end Go.Proofs.YtjjdminaacibeaaGreatDoor.Ev
/- Code: the pieces that are no calls. -/
namespace Go.Proofs.YtjjdminaacibeaaGreatDoor.Ev

section
variable {P : Program} {tab : String → List (TypeId × FuncId)} {B : Nat}

/-! ### Two rules more -/
section rules
variable {F : Fence} {n : Nat} {Q : Exit → Act → World → Prop} {a : Act} {w : World} {b : Frame} {k : List Go.Item} {cs : List Frame}
theorem stepR_scope {c : Code} : step P (lone (b.atR a (Go.Item.code (.scope c) :: k)) cs w) = .next (lone (b.atR a (Go.Item.code c :: Go.Item.inScope c :: k)) cs w) :=
  step_lone_go (by simp [stepG, stepG.exec, Frame.atR])
theorem stepR_inScope {c : Code} : step P (lone (b.atR a (Go.Item.inScope c :: k)) cs w) = .next (lone (b.atR a k) cs w) :=
  step_lone_go (by simp [stepG, stepG.exec, Frame.atR])

theorem wpIn_scope {c : Code} (h : c.wpIn F n P (Exit.noGoto Q) a w) : (Code.scope c).wpIn F n P Q a w := by
  intro b k cs hro hb hr
  have h0 : (lone (b.atR a (.code (.scope c) :: k)) cs w).fenced P F := fenced_calm hb hr rfl
  obtain ⟨e, a₁, w₁, hq, harr⟩ := h b (.inScope c :: k) cs hro hb hr
  cases e with
  | normal => exact ⟨.normal, a₁, w₁, hq, .head h0 stepR_scope (StepsIn.trans harr (.one (fenced_calm hb hr rfl) stepR_inScope))⟩
  | exit id =>
    have hx : exitTo id (.inScope c :: k) = exitTo id k := by simp [exitTo]
    exact ⟨.exit id, a₁, w₁, hq, fun k' hk => .head h0 stepR_scope (harr.1 k' (by rw [hx]; exact hk)),
      fun hr' hk => let ⟨k₁, h1, h2⟩ := harr.2 hr' (by rw [hx]; exact hk); ⟨k₁, h1, .head h0 stepR_scope h2⟩⟩
  | goto l => exact hq.elim
  | ret => exact ⟨_, a₁, w₁, hq, .of_steps (.one h0 stepR_scope) harr⟩
  | panic ch => exact ⟨_, a₁, w₁, hq, .of_steps (.one h0 stepR_scope) harr⟩
  | outgrown => exact ⟨_, a₁, w₁, hq, .of_steps (.one h0 stepR_scope) harr⟩
end rules

/-- A region that draws its order. -/
def DrawOk (P : Program) (tab : String → List (TypeId × FuncId)) (rec : Rec) : Prop :=
  ∀ (B nt id : Nat) (ops : Array Oper) (items : List Item), compRegion P tab nt ops true = some items → ∀ (ro : Option Nat) (μ : Mu) (h : Heap) (w : World) (env : Env) (a : Act) (ex : Exit') (env' : Env) (h' : Heap),
    Sim P tab μ h w → ActRel B μ nt w ro env a → itemsE rec items env h = some (.mk ex env' h') → (Code.region id ops true).wpIn (fence ro) 0 P (Post P tab B nt ro μ h w ex env' h') a w

/-- A piece of code does what its translation does. -/
def CodeOk (P : Program) (tab : String → List (TypeId × FuncId)) (B nt : Nat) (ro : Option Nat) (c : Code) (ic : Env → Heap → Option Out) : Prop :=
  ∀ (μ : Mu) (h : Heap) (w : World) (env : Env) (a : Act) (ex : Exit') (env' : Env) (h' : Heap), ic env h = some (.mk ex env' h') → Sim P tab μ h w → ActRel B μ nt w ro env a →
    c.wpIn (fence ro) 0 P (Post P tab B nt ro μ h w ex env' h') a w

theorem Post.trans {nt : Nat} {ro : Option Nat} {μ μ' : Mu} {h h1 : Heap} {w w1 : World} {ex : Exit'} {env' : Env} {h' : Heap} (g : Goes P tab μ h w μ' h1 w1) {e : Exit} {a : Act} {w' : World} (p : Post P tab B nt ro μ' h1 w1 ex env' h' e a w') : Post P tab B nt ro μ h w ex env' h' e a w' := by
  obtain ⟨h2, μ2, h3, h4⟩ := p
  exact ⟨h2, μ2, g.trans h3, h4⟩

theorem fail_none (rec : Rec) (env : Env) (h : Heap) : itemsE rec [failItem] env h = none := rfl

theorem failed {α : Prop} {rec : Rec} {env : Env} {h : Heap} {out : Out} (he : itemsE rec [failItem] env h = some out) : α := by
  rw [fail_none] at he; cases he

theorem region_sound {rec : Rec} (hr : RecOk P tab rec) (hd : DrawOk P tab rec) {nt : Nat} {ro : Option Nat} {id : Nat} {ops : Array Oper} {draw : Bool} :
    CodeOk P tab B nt ro (.region id ops draw) (fun env h => itemsE rec ((compRegion P tab nt ops draw).getD [failItem]) env h) := by
  intro μ h w env a ex env' h' he hs ha
  cases hc : compRegion P tab nt ops draw with
  | none => rw [hc] at he; exact failed he
  | some items =>
    rw [hc] at he
    simp only [Option.getD_some] at he
    cases draw with
    | true => exact hd B nt id ops items hc ro μ h w env a ex env' h' hs ha he
    | false =>
      unfold compRegion at hc
      split at hc <;> try (cases hc; done)
      rename_i is his
      simp only [Bool.false_eq_true, if_false, Option.some.injEq] at hc; subst hc
      refine wpIn_region ?_
      have key := ops_sound (Q := Post P tab B nt ro μ h w ex env' h') hr ops.toList is 0 his (fun i o hio => by simpa using hio) μ h w env a _ hs ha he (fun ex2 env2 h2 hout a2 w2 hp => by cases hout; exact hp)
      rw [Array.length_toList] at key
      rw [List.range_eq_range']
      exact key

theorem seq_sound {nt : Nat} {ro : Option Nat} {x y : Code} {ix iy : Env → Heap → Option Out} (hx : CodeOk P tab B nt ro x ix) (hy : CodeOk P tab B nt ro y iy) :
    CodeOk P tab B nt ro (.seq x y) (fun env h => seqOn iy (ix env h)) := by
  intro μ h w env a ex env' h' he hs ha
  refine wpIn_seq ?_
  cases h1 : ix env h with
  | none => simp only [h1, seqOn] at he; cases he
  | some o =>
    obtain ⟨ex1, env1, hp1⟩ := o
    have hx := hx μ h w env a ex1 env1 hp1 h1 hs ha
    refine wpIn_mono hx ?_
    rintro e a1 w1 ⟨rfl, μ1, g, ha1⟩
    simp only [h1] at he
    cases ex1 with
    | normal =>
      simp only [seqOn] at he
      exact wpIn_mono (hy μ1 hp1 w1 env1 a1 ex env' h' he g.sim ha1) fun e a w p => Post.trans g p
    | exit id =>
      simp only [seqOn, Option.some.injEq, Out.mk.injEq] at he
      obtain ⟨rfl, rfl, rfl⟩ := he
      exact ⟨rfl, μ1, g, ha1⟩
    | ret =>
      simp only [seqOn, Option.some.injEq, Out.mk.injEq] at he
      obtain ⟨rfl, rfl, rfl⟩ := he
      exact ⟨rfl, μ1, g, ha1⟩

theorem block_sound {nt : Nat} {ro : Option Nat} {id : Nat} {x : Code} {ix : Env → Heap → Option Out} (hx : CodeOk P tab B nt ro x ix) : CodeOk P tab B nt ro (.block id x) (fun env h => blockOut id (ix env h)) := by
  intro μ h w env a ex env' h' he hs ha
  refine wpIn_block ?_
  cases h1 : ix env h with
  | none => simp only [h1, blockOut] at he; cases he
  | some o =>
    obtain ⟨ex1, env1, hp1⟩ := o
    refine wpIn_mono (hx μ h w env a ex1 env1 hp1 h1 hs ha) ?_
    rintro e a1 w1 ⟨rfl, μ1, g, ha1⟩
    simp only [h1] at he
    cases ex1 with
    | normal =>
      simp only [blockOut, Option.some.injEq, Out.mk.injEq] at he
      obtain ⟨rfl, rfl, rfl⟩ := he
      exact ⟨rfl, μ1, g, ha1⟩
    | exit j =>
      simp only [blockOut] at he
      simp only [exOf, Exit.inBlock]
      split at he
      · rename_i hb
        rw [Nat.beq_eq] at hb
        simp only [Option.some.injEq, Out.mk.injEq] at he
        obtain ⟨rfl, rfl, rfl⟩ := he
        rw [if_pos hb]
        exact ⟨rfl, μ1, g, ha1⟩
      · rename_i hb
        simp only [Option.some.injEq, Out.mk.injEq] at he
        obtain ⟨rfl, rfl, rfl⟩ := he
        rw [if_neg (by intro e; rw [e, Nat.beq_refl] at hb; cases hb)]
        exact ⟨rfl, μ1, g, ha1⟩
    | ret =>
      simp only [blockOut, Option.some.injEq, Out.mk.injEq] at he
      obtain ⟨rfl, rfl, rfl⟩ := he
      exact ⟨rfl, μ1, g, ha1⟩

theorem cond_sound {nt : Nat} {ro : Option Nat} {c : Operand} {ic : Opd} (hc : opd c = some ic) {x y : Code} {ix iy : Env → Heap → Option Out} (hx : CodeOk P tab B nt ro x ix) (hy : CodeOk P tab B nt ro y iy) :
    CodeOk P tab B nt ro (.cond c x y) (fun env h => condOn ix iy env h (ic.eval env)) := by
  intro μ h w env a ex env' h' he hs ha
  cases hv : ic.eval env with
  | none => simp only [hv, condOn] at he; cases he
  | some v =>
    simp only [hv] at he
    have hl : evalL env [ic] = some [v] := by
      show (Option.rec none (fun v => consO v (some [])) (ic.eval env) : Option (List AV)) = _
      rw [hv]; rfl
    rw [evalL_by] at hl
    have hrel := args_rel (μ := μ) (a := a) (xs := [c]) (ys := [ic]) (by simp [mapOpt, hc]) hl (fun t _ v hv => ha.rel t v hv)
    have hvr : VRel μ v (a.eval c) := (VRelL_cons'.1 hrel).1
    unfold condOn at he
    split at he
    · rename_i hb
      simp only [Option.some.injEq] at hb; subst hb
      exact wpIn_cond_true (VRel_bool.1 hvr) (hx μ h w env a ex env' h' he hs ha)
    · rename_i hb
      simp only [Option.some.injEq] at hb; subst hb
      exact wpIn_cond_false (VRel_bool.1 hvr) (hy μ h w env a ex env' h' he hs ha)
    · cases he

theorem loop_sound {nt : Nat} {ro : Option Nat} {x : Code} {ix : Env → Heap → Option Out} (hx : CodeOk P tab B nt ro x ix) (n : Nat) : CodeOk P tab B nt ro (.loop x) (fun env h => loopN ix n env h) := by
  have key : ∀ (n : Nat) (μ : Mu) (h : Heap) (w : World) (env : Env) (a : Act) (ex : Exit') (env' : Env) (h' : Heap), loopN ix n env h = some (.mk ex env' h') → Sim P tab μ h w → ActRel B μ nt w ro env a →
      ∀ (b : Frame) (k : List Go.Item) (cs : List Frame), b.roundOf = (fence ro).round → (fence ro).fn b.fn → (fence ro).room (cs.length + 1 + 0) →
        ∃ e a' w', Post P tab B nt ro μ h w ex env' h' e a' w' ∧ ArrivesIn (Machine.fenced P (fence ro)) P (lone (b.atR a (.code x :: .inLoop x :: k)) cs w) b k cs e a' w' := by
    intro n
    induction n with
    | zero => intro μ h w env a ex env' h' he; cases he
    | succ n ih =>
      intro μ h w env a ex env' h' he hs ha b k cs hro hb hr
      have he : seqOn (loopN ix n) (ix env h) = some (.mk ex env' h') := he
      cases h1 : ix env h with
      | none => rw [h1] at he; cases he
      | some o =>
        obtain ⟨ex1, env1, hp1⟩ := o
        rw [h1] at he
        obtain ⟨e, a1, w1, hp, harr⟩ := hx μ h w env a ex1 env1 hp1 h1 hs ha b (.inLoop x :: k) cs hro hb hr
        obtain ⟨rfl, μ1, g, ha1⟩ := hp
        cases ex1 with
        | normal =>
          simp only [seqOn] at he
          obtain ⟨e2, a2, w2, hp2, harr2⟩ := ih μ1 hp1 w1 env1 a1 ex env' h' he g.sim ha1 b k cs hro hb hr
          exact ⟨e2, a2, w2, Post.trans g hp2, .of_steps (StepsIn.trans harr (.one (fenced_calm hb hr rfl) stepR_inLoop)) harr2⟩
        | exit id =>
          simp only [seqOn, Option.some.injEq, Out.mk.injEq] at he
          obtain ⟨rfl, rfl, rfl⟩ := he
          exact ⟨_, a1, w1, ⟨rfl, μ1, g, ha1⟩, .pass (x := .inLoop x) rfl (fun _ _ => .inl (by simp [exOf])) harr⟩
        | ret =>
          simp only [seqOn, Option.some.injEq, Out.mk.injEq] at he
          obtain ⟨rfl, rfl, rfl⟩ := he
          exact ⟨_, a1, w1, ⟨rfl, μ1, g, ha1⟩, .pass (x := .inLoop x) rfl (fun _ _ => .inl (by simp [exOf])) harr⟩
  intro μ h w env a ex env' h' he hs ha b k cs hro hb hr
  obtain ⟨e, a', w', hq, harr⟩ := key n μ h w env a ex env' h' he hs ha b k cs hro hb hr
  exact ⟨e, a', w', hq, .of_steps (.one (fenced_calm hb hr rfl) stepR_loop) harr⟩

theorem noGoto_post {nt : Nat} {ro : Option Nat} {μ : Mu} {h : Heap} {w : World} {ex : Exit'} {env' : Env} {h' : Heap} {e : Exit} {a : Act} {w' : World} (p : Post P tab B nt ro μ h w ex env' h' e a w') : Exit.noGoto (Post P tab B nt ro μ h w ex env' h') e a w' := by
  obtain ⟨rfl, p⟩ := p
  cases ex <;> exact ⟨rfl, p⟩

end
end Go.Proofs.YtjjdminaacibeaaGreatDoor.Ev
/- Code: ranges over functions; all of it. -/
namespace Go.Proofs.YtjjdminaacibeaaGreatDoor.Ev

section
variable {P : Program} {tab : String → List (TypeId × FuncId)} {B : Nat}

/-- A block of the model's own. -/
theorem Goes.extra {μ : Mu} {h : Heap} {w : World} (hs : Sim P tab μ h w) (o : Obj) : Goes P tab μ h w μ h { w with heap := w.heap.push o } where
  ext := .refl _
  sim := {
    live := fun a l ha hl => by
      obtain ⟨ob, h1, h2⟩ := hs.live a l ha hl
      exact ⟨ob, h1, h2.mono (.refl _) (fun b hb => push_old w o b (hs.seen_lt ha hb))⟩
    inj := hs.inj
    ro := fun a b o' ha => by
      obtain ⟨ob, h1, h2⟩ := hs.ro a b o' ha
      exact ⟨ob, h1, h2.mono (.refl _) (fun b hb => push_old w o b (hs.seen_lt ha hb))⟩
    apart := hs.apart
    dead := hs.dead
    dom := hs.dom
    full := hs.full
    fresh := hs.fresh }
  size := by simp
  cfr := fun b hb hn => ⟨push_old w o b hb, hn⟩
  afr := fun a _ hn => ⟨rfl, hn⟩
  next := Nat.le_refl _
  os := rfl
  output := rfl
  tape := rfl

theorem Sim.obj_of {μ μ' : Mu} {h' : Heap} {w' : World} (he : Ext μ μ') (hs : Sim P tab μ' h' w') {a b : Nat} (ha : μ a = some (.obj b)) {ob : AObj} (hg : h'.get a = some ob) : μ' a = some (.obj b) ∧ ObjRel P tab μ' w' (.obj b) ob := by
  rcases he a _ ha with h | h
  · obtain ⟨ob', h1, h2⟩ := hs.live a _ h rfl
    rw [hg] at h1; cases h1
    exact ⟨h, h2⟩
  · rw [hs.dead a h] at hg; cases hg

theorem run_getLoop {w : World} {b : Nat} {L : Loop} (hb : w.heap[b]? = some (.loop L)) : (Instr.getLoop b).run P w = .ok L w := by
  unfold Instr.getLoop
  simp only [Sem.run_bind, run_getObj hb (by simp), Result.andThen_ok, Sem.run_pure]

theorem range_sound {rec : Rec} (hr : RecOk P tab rec) {nt : Nat} {g : Operand} {ig : Opd} (hg : opd g = some ig) {ps : Array Tmp} (hps : ps.toList.all (· < nt) = true) {assign body : Code} (hn1 : noRange assign = true) (hn2 : noRange body = true) :
    CodeOk P tab B nt none (.rangeFunc g ps assign body) (fun env h => rangeOn rec ps.toList (compCode P tab nt assign) (compCode P tab nt body) env h (ig.eval env)) := by
  intro μ h w env a ex env' h' he hs ha
  simp only at he
  unfold rangeOn at he
  split at he <;> try (cases he; done)
  rename_i f0 fs cs hfv
  split at he <;> try (cases he; done)
  rename_i h1 hal
  obtain ⟨hlim, rfl⟩ := allocAt_some hal
  unfold rangeEnd at he
  split at he <;> try (cases he; done)
  rename_i rv h2 hrec
  split at he <;> try (cases he; done)
  rename_i env2 ps2 as2 body2 st pend hget
  have hl : evalL env [ig] = some [.func (.func f0) fs cs] := by
    show (Option.rec none (fun v => consO v (some [])) (ig.eval env) : Option (List AV)) = _
    rw [hfv]; rfl
  rw [evalL_by] at hl
  have hrel := args_rel (μ := μ) (a := a) (xs := [g]) (ys := [ig]) (by simp [mapOpt, hg]) hl (fun t _ v hv => ha.rel t v hv)
  have hvr : VRel μ (.func (.func f0) fs cs) (a.eval g) := (VRelL_cons'.1 hrel).1
  refine wpIn_rangeFunc fun fn _ => ?_
  -- the two blocks
  let r := w.heap.size
  let we : World := { w with heap := w.heap.push (.deferred (some [])) }
  let L : Loop := { state := .ready, pending := none, fn, tmps := a.tmps, params := ps, assign, body, defers := r }
  let w1 : World := { we with heap := we.heap.push (.loop L) }
  let l := we.heap.size
  have ge : Goes P tab μ h w μ h we := Goes.extra hs _
  have hnone : μ h.next = none := hs.none_of_ge (Nat.le_refl _)
  have gn : Goes P tab μ h we (upd μ h.next (.obj l)) (h.alloc (.loop env ps.toList (compCode P tab nt assign) (compCode P tab nt body) .ready none)) w1 := by
    refine Goes.new ge.sim hlim rfl (by simp [w1]) (fun b hb => push_old we _ b hb) ?_ rfl rfl rfl
    simp only [ObjRel]
    refine ⟨L, nt, push_new we _, rfl, rfl, rfl, fun t ht => ?_, rfl, rfl, ha.size, hn1, hn2, ha.rel, ha.full⟩
    have := List.all_eq_true.1 hps t ht
    simpa using this
  obtain ⟨k1, k2⟩ := hr _ _ _ _ _ hrec (upd μ h.next (.obj l)) w1 (a.eval g) #[.func (.yield l) #[] #[]] gn.sim (VRel.mono (ge.trans gn).ext _ _ hvr)
    (VRelL_cons'.2 ⟨by simp only [VRel]; exact ⟨trivial, trivial, l, .obj l, rfl, upd_same _ _ _, rfl⟩, VRelL_nil.2 rfl⟩)
  obtain ⟨f', as', w2, k3⟩ := k2 f0 fs cs h.next rfl rfl
  rw [k3] at k1
  simp only [VRel] at hvr
  obtain ⟨fs', cs', hval, _, _⟩ := hvr
  have hcall : (callSem (a.eval g) #[.func (.yield l) #[] #[]]).run P w1 = (invoke (.fn (.func f0) cs') (fs' ++ #[.func (.yield l) #[] #[]])).run P w1 := by
    unfold callSem
    rw [hval]
    simp only [Deferred.ofValue, Sem.run_bind, Sem.run_pure, Result.andThen_ok]
  refine ⟨l, [markOf r], w1, { target := .fn (.func f0) cs', args := fs' ++ #[.func (.yield l) #[] #[]] }, w1, f', as', w2, ?_, ?_, fun _ _ => trivial, by rw [← hcall]; exact k3, fun hc => by simp [fence, Fence.wide] at hc, ?_⟩
  · rfl
  · have hm : Array.map a.eval #[Operand.const (Value.func (Fn.yield l) #[] #[])] = #[Value.func (Fn.yield l) #[] #[]] := by simp [Act.eval]
    simp only [resolve, hval, hm]
    rfl
  · refine CallsIn.mono (F := fence none) (n := 0 - 1) k1 ?_
    intro e w3 hR
    cases e with
    | panicked _ => exact hR.elim
    | outgrown => exact hR.elim
    | returned v =>
      obtain ⟨μ3, g3, hv3⟩ := hR
      simp only [rangePost]
      obtain ⟨m1, m2⟩ := Sim.obj_of g3.ext g3.sim (upd_same μ h.next (.obj l)) hget
      simp only [ObjRel] at m2
      obtain ⟨L3, nt3, n1, n2, n3, n4, n5, n6, n7, n8, n9, n10, n11, n12⟩ := m2
      have hst : L3.state ≠ .busy ∧ some (Out.mk (pend.getD .normal) env (h2.put h.next (some (.loop env2 ps2 as2 body2 .exhausted pend)))) = some (.mk ex env' h') := by
        rw [n2]
        cases st with
        | busy => cases he
        | ready => exact ⟨by simp [stOf], he⟩
        | done => exact ⟨by simp [stOf], he⟩
        | exhausted => exact ⟨by simp [stOf], he⟩
      obtain ⟨hnb, he⟩ := hst
      simp only [Option.some.injEq, Out.mk.injEq] at he
      obtain ⟨rfl, rfl, rfl⟩ := he
      let w4 : World := { w3 with heap := w3.heap.setIfInBounds l (.loop { L3 with state := .exhausted }) }
      have gt : Goes P tab μ3 h2 w3 μ3 (h2.put h.next (some (.loop env2 ps2 as2 body2 .exhausted pend))) w4 := by
        refine Goes.turn g3.sim hlim m1 rfl turned_set ?_
        simp only [ObjRel]
        exact ⟨{ L3 with state := .exhausted }, nt3, set_at n1, rfl, n3, n4, n5, n6, n7, n8, n9, n10, n11, n12⟩
      have hend : (Instr.endLoop l).run P w3 = .ok L3.pending w4 := by
        unfold Instr.endLoop
        simp only [Sem.run_bind, run_getLoop n1, Result.andThen_ok]
        have hb : (L3.state == LoopState.busy) = false := by
          cases hst : L3.state <;> first | rfl | exact absurd hst hnb
        simp only [hb, Bool.false_eq_true, if_false, Sem.run_bind, run_setObj n1 (by simp), Result.andThen_ok, Sem.run_pure]
        rfl
      have gall := (ge.trans gn).trans (g3.trans gt)
      have hdefe : DefOk B none μ we (markOf r :: a.defers) := by
        obtain ⟨q0, rs, q1, q2, q3, q4⟩ := (ha.goes ge).defs
        refine ⟨q0, r :: rs, by rw [q1]; rfl, List.nodup_cons.2 ⟨fun hmem => ?_, q2⟩, fun hc => absurd rfl hc, fun r' hr' => ?_⟩
        · obtain ⟨_, rs0, q10, _, _, q40⟩ := ha.defs
          have : rs0 = rs := by
            have h0 : rs0.map markOf = rs.map markOf := q10.symm.trans q1
            exact List.map_inj_right (fun x y hxy => by injection hxy with hxy; injection hxy) |>.1 h0
          subst this
          have := heap_lt (q40 r hmem).2.1
          omega
        · rcases List.mem_cons.1 hr' with rfl | hm
          · refine ⟨ha.defs.1, push_new w _, fun x lx hx hb => ?_⟩
            have := hs.blk_lt hx hb
            omega
          · exact q4 r' hm
      have haf : ActRel B μ3 nt w4 none env { a with defers := markOf r :: a.defers } := by
        have hg := gn.trans (g3.trans gt)
        have ha4 := ha.goes gall
        exact ⟨ha4.size, ha4.rel, ha4.full, hdefe.goes hg⟩
      have hpost : ∀ e0 : Exit', pend.getD .normal = e0 → Post P tab B nt none μ h w (pend.getD .normal) env (h2.put h.next (some (.loop env2 ps2 as2 body2 .exhausted pend))) (exOf e0) { a with defers := [markOf r] ++ a.defers } w4 := by
        rintro e0 rfl
        exact ⟨rfl, μ3, gall, haf⟩
      refine ⟨L3.pending, w4, hend, ?_⟩
      rw [n3]
      cases pend with
      | none => exact hpost _ rfl
      | some e0 =>
        cases e0 with
        | normal => exact wpIn_skip (hpost _ rfl)
        | exit id => exact wpIn_exit (hpost _ rfl)
        | ret => exact wpIn_ret (hpost _ rfl)

theorem code_sound {rec : Rec} (hr : RecOk P tab rec) (hd : DrawOk P tab rec) (nt n : Nat) : ∀ (c : Code) (ro : Option Nat), (ro ≠ none → noRange c = true) → CodeOk P tab B nt ro c (codeE n rec (compCode P tab nt c))
  | .skip, ro, _ => by
    intro μ h w env a ex env' h' he hs ha
    have he : some (Out.mk .normal env h) = some (.mk ex env' h') := he
    simp only [Option.some.injEq, Out.mk.injEq] at he; obtain ⟨rfl, rfl, rfl⟩ := he
    exact wpIn_skip ⟨rfl, μ, Goes.refl hs, ha⟩
  | .region id ops draw, ro, _ => region_sound hr hd
  | .seq a b, ro, hn => seq_sound (code_sound hr hd nt n a ro fun h => (by have := hn h; simp only [noRange, Bool.and_eq_true] at this; exact this.1)) (code_sound hr hd nt n b ro fun h => (by have := hn h; simp only [noRange, Bool.and_eq_true] at this; exact this.2))
  | .cond c a b, ro, hn => by
    have ha := code_sound hr hd nt n a ro fun h => (by have := hn h; simp only [noRange, Bool.and_eq_true] at this; exact this.1)
    have hb := code_sound hr hd nt n b ro fun h => (by have := hn h; simp only [noRange, Bool.and_eq_true] at this; exact this.2)
    simp only [compCode]
    cases hc : opd c with
    | none => intro μ h w env a ex env' h' he _ _; exact failed (rec := rec) (env := env) (h := h) he
    | some x => exact cond_sound hc ha hb
  | .block id c, ro, hn => block_sound (code_sound hr hd nt n c ro hn)
  | .loop c, ro, hn => loop_sound (code_sound hr hd nt n c ro hn) n
  | .rangeFunc f ps a b, ro, hn => by
    simp only [compCode]
    cases hc : opd f with
    | none => intro μ h w env a ex env' h' he _ _; exact failed (rec := rec) (env := env) (h := h) he
    | some x =>
      simp only
      split
      · rename_i hcond
        simp only [Bool.and_eq_true] at hcond
        cases ro with
        | some l => have := hn (by simp); cases this
        | none => exact range_sound hr hc hcond.1.1 hcond.1.2 hcond.2
      · intro μ h w env a ex env' h' he _ _; exact failed (rec := rec) (env := env) (h := h) he
  | .exit id, ro, _ => by
    intro μ h w env a ex env' h' he hs ha
    have he : some (Out.mk (.exit id) env h) = some (.mk ex env' h') := he
    simp only [Option.some.injEq, Out.mk.injEq] at he; obtain ⟨rfl, rfl, rfl⟩ := he
    exact wpIn_exit ⟨rfl, μ, Goes.refl hs, ha⟩
  | .scope c, ro, hn => by
    intro μ h w env a ex env' h' he hs ha
    exact wpIn_scope (wpIn_mono (code_sound hr hd nt n c ro hn μ h w env a ex env' h' he hs ha) fun _ _ _ p => noGoto_post p)
  | .label l, ro, _ => by
    intro μ h w env a ex env' h' he hs ha
    have he : some (Out.mk .normal env h) = some (.mk ex env' h') := he
    simp only [Option.some.injEq, Out.mk.injEq] at he; obtain ⟨rfl, rfl, rfl⟩ := he
    exact wpIn_label ⟨rfl, μ, Goes.refl hs, ha⟩
  | .ret, ro, _ => by
    intro μ h w env a ex env' h' he hs ha
    have he : some (Out.mk .ret env h) = some (.mk ex env' h') := he
    simp only [Option.some.injEq, Out.mk.injEq] at he; obtain ⟨rfl, rfl, rfl⟩ := he
    exact wpIn_ret ⟨rfl, μ, Goes.refl hs, ha⟩
  | .goto _, ro, _ => by intro μ h w env a ex env' h' he _ _; exact failed (rec := rec) (env := env) (h := h) he
  | .refuse _, ro, _ => by intro μ h w env a ex env' h' he _ _; exact failed (rec := rec) (env := env) (h := h) he

end
end Go.Proofs.YtjjdminaacibeaaGreatDoor.Ev
