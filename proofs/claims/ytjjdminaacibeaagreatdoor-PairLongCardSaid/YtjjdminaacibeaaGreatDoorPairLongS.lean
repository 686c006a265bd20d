/- PairLong: one call of the notes' closure with a loop's yield: the states of its loop, and the steps between them. -/
import Derived.Test.YtjjdminaacibeaaGreatDoorPairLongG
import Derived.KernelRfl
namespace Go.Proofs.YtjjdminaacibeaaGreatDoor.Ev.PairLong
set_option maxRecDepth 1000000
def sHd : ICode → ICode
  | .seq a _ => a
  | _ => .skip
def sTl : ICode → ICode
  | .seq _ b => b
  | _ => .skip
def sTls : Nat → ICode → ICode
  | 0, x => x
  | n + 1, x => sTls n (sTl x)
def bBody : ICode → ICode
  | .block _ (.loop b) => b
  | _ => .skip
def sBody : ICode → ICode
  | .scope c => c
  | _ => .skip
def fiOf : Code' → IFunc
  | .fn fi => fi
  | _ => default
def sb : ICode := sBody (fiOf c71).body
def preC : List ICode := [sHd sb, sHd (sTls 1 sb), sHd (sTls 2 sb)]
def qC : ICode := sTls 3 sb
def dC : ICode := sHd qC
def lp : ICode := bBody (sTl qC)
theorem shapeC : (fiOf c71).body = .scope (seqsT (.seq dC (.block 0 (.loop lp))) preC) := by kernel_rfl
theorem resultsC : (fiOf c71).results = [] := by kernel_rfl
theorem ntC : Nat.ble (fiOf c71).ntmps 1022 = true := by kernel_rfl
def R : List (Int × Int) := [(0, 4096)]
def K0 : SK := ⟨R, []⟩
def KS : SK := ⟨R, [.sub (.lit 4095) (.var 0)]⟩
def KX : SK := ⟨R, [.sub (.var 0) (.lit 4096)]⟩
def s0 : List (Nat × SE) := [(0, .lit 0)]
def s1 : List (Nat × SE) := [(0, .add (.var 0) (.lit 1))]
def plain : List AV := [(.int .i64 (.ofNat (nat_lit 4096))), (.int .i64 (.ofNat (nat_lit 10))), (.int .i64 (.ofNat (nat_lit 65535))), (.int .i64 (.ofNat (nat_lit 16384))), (.int .i64 (.ofNat (nat_lit 1000))), (.int .i64 (.ofNat (nat_lit 4096))), (.int .i64 (.ofNat (nat_lit 10))), (.int .i64 (.ofNat (nat_lit 65535))), (.int .i64 (.ofNat (nat_lit 16384))), (.int .i64 (.ofNat (nat_lit 1000))), (.int .i64 (.ofNat (nat_lit 0))), (.int .i64 (.ofNat (nat_lit 0))), (.int .i64 (.ofNat (nat_lit 0))), (.int .i64 (.ofNat (nat_lit 0))), (.int .i64 (.ofNat (nat_lit 0))), (.int .i64 (.ofNat (nat_lit 0))), (.int .i64 (.ofNat (nat_lit 0))), (.int .i64 (.ofNat (nat_lit 0))), (.int .i64 (.ofNat (nat_lit 0))), (.int .i64 (.ofNat (nat_lit 0))), (.int .i64 (.ofNat (nat_lit 0)))]
def tick : List AV := [(.int .i64 (.ofNat (nat_lit 6))), (.int .i64 (.ofNat (nat_lit 0))), (.int .i64 (.ofNat (nat_lit 0))), (.int .i64 (.ofNat (nat_lit 1))), (.slice none (nat_lit 0) (nat_lit 0) (nat_lit 0)), (.slice none (nat_lit 0) (nat_lit 0) (nat_lit 0)), (.bool false), (.int .i64 (.ofNat (nat_lit 0))), (.int .i64 (.ofNat (nat_lit 0))), (.int .i64 (.ofNat (nat_lit 0))), (.int .i64 (.ofNat (nat_lit 0))), (.int .i64 (.ofNat (nat_lit 0)))]
noncomputable def EL (K : SK) : List (Nat × AV) := [(0, (.func (.yield (nat_lit 3)) [] [])), (1, vP 0 0), (25, vI 4096), (2, vP 1 0), (4, vP 7 0), (24, vS 2 12 4096 4096 0), (26, .sint .i64 (.var 0) K)]
noncomputable def HL (K : SK) : List (Nat × AObj) := [(0, (.ro [(.int .i64 (.ofNat (nat_lit 4096))), (.int .i64 (.ofNat (nat_lit 10))), (.int .i64 (.ofNat (nat_lit 65535))), (.int .i64 (.ofNat (nat_lit 16384))), (.int .i64 (.ofNat (nat_lit 1000))), (.int .i64 (.ofNat (nat_lit 4096))), (.int .i64 (.ofNat (nat_lit 10))), (.int .i64 (.ofNat (nat_lit 65535))), (.int .i64 (.ofNat (nat_lit 16384))), (.int .i64 (.ofNat (nat_lit 1000))), (.int .i64 (.ofNat (nat_lit 0))), (.int .i64 (.ofNat (nat_lit 0))), (.int .i64 (.ofNat (nat_lit 0))), (.int .i64 (.ofNat (nat_lit 0))), (.int .i64 (.ofNat (nat_lit 0))), (.int .i64 (.ofNat (nat_lit 0))), (.int .i64 (.ofNat (nat_lit 0))), (.int .i64 (.ofNat (nat_lit 0))), (.int .i64 (.ofNat (nat_lit 0))), (.int .i64 (.ofNat (nat_lit 0))), (.int .i64 (.ofNat (nat_lit 0)))])), (1, (.ro [(.slice (some ((nat_lit 2), (nat_lit 12))) (nat_lit 4096) (nat_lit 4096) (nat_lit 0))])), (7, (.row [vP 131 0, vP 240 0, vP 5 0, vP 6 0, .sint .i64 (.var 0) K])), (31, (.row [vF, vI 16384, vZ, vI 0])), (143, (.row [vP 142 0, vI 4096, vI 4096, vI 4096])), (239, (.row [vI 0, vF, vI 0, vF, vI 0, vF, vI 0, vF, vI 0, vF, vI 0, vF])), (23, (.row [vI 65535, vI 65535, vI 0])), (151, (.row [vI 4096, vI 10, vI 65535, vI 16384, vI 1000])), (19, (.row [vI 4096, vI 0, vZ])), (131, (.row [vI 1, vI 0, vI 4096, vI 10, vI 65535, vI 16384, vI 1000, vI 0, vI 0, vI 0, vI 0, vI 0, .sint .i64 (.var 0) K, vP 25 0, vP 132 0, vP 130 0, vT, vI 0, vZ, vZ, vF, vZ, vZ])), (147, (.row [vI 65535])), (155, (.row [vI 4096, vI 0, vZ])), (5, (.row [vS 249 0 39 39 1, vF, vF])), (33, (.row [vP 32 0, vI 4096, vF, vF])), (129, (.row (vB 69 0))), (145, (.row [vZ, vZ, vI 0])), (241, (.row [vI 2, vI 0])), (25, (.row [vI 1, vP 30 0, vI 4096, vI 4294967295, vI 65535, vI 16384, vI 4294967295, vP 31 0, vP 33 0, vP 20 0, vP 23 0, vP 24 0, vP 21 0, vP 22 0, vS 129 0 0 69 1, vF, vF, vF, vF, vI 1, vI 0, (.int .i64 (.negSucc (nat_lit 0))), (.int .i64 (.negSucc (nat_lit 0))), vZ])), (153, (.row [vS 151 0 1 1 0, vI 4096, vI 10, vI 65535, vI 16384, vI 1000, vI 4096, vI 10, vI 65535, vI 16384, vI 1000, vF])), (249, (.row (vB 39 7561859488444706399479208698275956257046265343701126866380325964194218542534685885547927175168))), (21, (.row [vI 0, vF, vF, vZ])), (245, (.row (vB 69 13360649241425104356577980802531686545714658533376405921962178968136179767552812551027811927947160421890637085669536761632118656987168066687281291791703660190367306320))), (2, (.rrle (nat_lit 12) [([(.int .i64 (.ofNat (nat_lit 6))), (.int .i64 (.ofNat (nat_lit 0))), (.int .i64 (.ofNat (nat_lit 0))), (.int .i64 (.ofNat (nat_lit 1))), (.slice none (nat_lit 0) (nat_lit 0) (nat_lit 0)), (.slice none (nat_lit 0) (nat_lit 0) (nat_lit 0)), (.bool false), (.int .i64 (.ofNat (nat_lit 0))), (.int .i64 (.ofNat (nat_lit 0))), (.int .i64 (.ofNat (nat_lit 0))), (.int .i64 (.ofNat (nat_lit 0))), (.int .i64 (.ofNat (nat_lit 0)))], (nat_lit 4097))])), (32, (.row [vI 4096, vI 0, vZ])), (144, (.row [vI 0, vF, vF, vZ])), (240, (.row [vI 2, vI 0, vI 4096, vI 10, vI 65535, vI 16384, vI 1000, vI 0, vI 0, vI 0, vI 0, vI 0, .sint .i64 (.var 0) K, vP 148 0, vP 241 0, vP 239 0, vT, vI 0, vZ, vZ, vF, vZ, vZ])), (24, (.row [vI 65535])), (20, (.row [vP 19 0, vI 4096, vI 4096, vI 4096])), (132, (.row [vI 1, vI 0])), (148, (.row [vI 2, vP 153 0, vI 4096, vI 4294967295, vI 65535, vI 16384, vI 4294967295, vP 154 0, vP 156 0, vP 143 0, vP 146 0, vP 147 0, vP 144 0, vP 145 0, vS 238 0 0 39 1, vF, vF, vF, vF, vI 1, vI 0, (.int .i64 (.negSucc (nat_lit 0))), (.int .i64 (.negSucc (nat_lit 0))), vZ])), (28, (.row [vI 4096, vI 10, vI 65535, vI 16384, vI 1000])), (156, (.row [vP 155 0, vI 4096, vF, vF])), (6, (.row [vS 245 0 69 69 1, vF, vF])), (130, (.row [vI 0, vF, vI 0, vF, vI 0, vF, vI 0, vF, vI 0, vF, vI 0, vF])), (146, (.row [vI 65535, vI 65535, vI 0])), (154, (.row [vT, vI 16384, vZ, vI 0])), (22, (.row [vZ, vZ, vI 0])), (30, (.row [vS 28 0 1 1 0, vI 4096, vI 10, vI 65535, vI 16384, vI 1000, vI 4096, vI 10, vI 65535, vI 16384, vI 1000, vF])), (142, (.row [vI 4096, vI 0, vZ])), (238, (.row (vB 39 0)))]
def NL : Nat := 250
noncomputable def exitAt (id : Nat) : Option Out → Bool
  | some (.mk (.exit j) _ _) => Nat.beq j id
  | _ => false
theorem pre : fitOut s0 K0 NL (EL K0) (HL K0) (codeL 1000000 (run Γ 1000000) (preC ++ [dC]) (argsEnv [.func (.yield 3) [] [], .ptr (some (0, 0)), .ptr (some (1, 0))] 0 (T.full 10)) (mkHeap (seen3 plain 12 4096 12 tick 4097) 4)) = true := by kernel_rfl
theorem eS : fitEnv [] KS NL (mkEnv (EL K0)) (EL KS) = true := by kernel_rfl
theorem hS : fitHeap [] KS NL (mkHeap (HL K0) NL) (HL KS) = true := by kernel_rfl
theorem xS : fitOut s1 K0 NL (EL K0) (HL K0) (codeE 1000000 (run Γ 1000000) lp (mkEnv (EL KS)) (mkHeap (HL KS) NL)) = true := by kernel_rfl
theorem eX : fitEnv [] KX NL (mkEnv (EL K0)) (EL KX) = true := by kernel_rfl
theorem hX : fitHeap [] KX NL (mkHeap (HL K0) NL) (HL KX) = true := by kernel_rfl
theorem xX : exitAt 0 (codeE 1000000 (run Γ 1000000) lp (mkEnv (EL KX)) (mkHeap (HL KX) NL)) = true := by kernel_rfl
end Go.Proofs.YtjjdminaacibeaaGreatDoor.Ev.PairLong
