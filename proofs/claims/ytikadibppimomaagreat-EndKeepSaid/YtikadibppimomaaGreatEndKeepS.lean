/- EndKeep: the states of its loop, and the steps between them. -/
import Derived.Test.YtikadibppimomaaGreatEndKeepR
import Derived.KernelRfl
namespace Go.Proofs.YtikadibppimomaaGreat.Ev.EndKeep
set_option maxRecDepth 1000000
def sHd : ICode → ICode
  | .seq a _ => a
  | _ => .skip
def sTl : ICode → ICode
  | .seq _ b => b
  | _ => .skip
def sTls : Nat → ICode → ICode
  | 0, x => x
  | n + 1, x => sTls n (sTl x)
def bBody : ICode → ICode
  | .block _ (.loop b) => b
  | _ => .skip
def fiOf : Code' → IFunc
  | .fn fi => fi
  | _ => default
def fb : ICode := (fiOf c3).body
def pre8 : List ICode := [sHd fb, sHd (sTls 1 fb), sHd (sTls 2 fb), sHd (sTls 3 fb), sHd (sTls 4 fb), sHd (sTls 5 fb), sHd (sTls 6 fb), sHd (sTls 7 fb)]
def q8 : ICode := sTls 8 fb
def dC : ICode := sHd (sHd q8)
def lp : ICode := bBody (sTl (sHd q8))
def rest : ICode := sTl q8
theorem shape : fb = seqsT (.seq (.seq dC (.block 0 (.loop lp))) rest) pre8 := by kernel_rfl
theorem results : (fiOf c3).results = [.tmp 8] := by kernel_rfl
theorem ntm : Nat.ble (fiOf c3).ntmps 1022 = true := by kernel_rfl
def R : List (Int × Int) := [(0, 30), (1, 9223372036854775807), (1, 1000), (1, 1000), (0, 1073741824), (0, 1073741824)]
def s0 : List (Nat × SE) := [(0, .lit 0), (4, .lit 0), (5, .lit 0)]
def tk : SE := .sel 0 (.var 0)
def K0 : SK := ⟨R, []⟩
def KX1 : SK := ⟨R, [.sub (.var 0) (.var 1)]⟩
def KX2 : SK := ⟨R, [.sub (.sub (.var 1) (.lit 1)) (.var 0), .sub (.var 0) (.lit 30)]⟩
def KS1 : SK := ⟨R, [.sub (.sub (.var 1) (.lit 1)) (.var 0), .sub (.lit 29) (.var 0), .sub (.sub (.var 4) (.lit 1)) tk]⟩
def KS2 : SK := ⟨R, [.sub (.sub (.var 1) (.lit 1)) (.var 0), .sub (.lit 29) (.var 0), .sub tk (.var 4), .sub tk (.lit 1073741825)]⟩
def KA3 : SK := ⟨R, [.sub (.sub (.var 1) (.lit 1)) (.var 0), .sub (.lit 29) (.var 0), .sub tk (.var 4), .sub (.sub (.var 2) (.lit 1)) tk, .sub (.lit 1073741824) tk]⟩
def KA4 : SK := ⟨R, [.sub (.sub (.var 1) (.lit 1)) (.var 0), .sub (.lit 29) (.var 0), .sub tk (.var 4), .sub tk (.var 2), .sub (.lit 1073741824) tk]⟩
def KB3 : SK := ⟨R, [.sub (.sub (.var 1) (.lit 1)) (.var 0), .sub (.lit 29) (.var 0), .sub tk (.var 4), .sub (.sub (.add (.var 5) (.var 3)) (.lit 1)) tk, .sub (.lit 1073741824) tk]⟩
def KB4 : SK := ⟨R, [.sub (.sub (.var 1) (.lit 1)) (.var 0), .sub (.lit 29) (.var 0), .sub tk (.var 4), .sub tk (.add (.var 5) (.var 3)), .sub (.lit 1073741824) tk]⟩
def s1 : List (Nat × SE) := [(0, .add (.var 0) (.lit 1))]
def s4 : List (Nat × SE) := [(0, .add (.var 0) (.lit 1)), (4, tk)]
def s45 : List (Nat × SE) := [(0, .add (.var 0) (.lit 1)), (4, tk), (5, tk)]
noncomputable def EA1 (K : SK) : List (Nat × AV) := [(1, .sint .i64 (.var 2) K), (3, .ssl 0 0 (.var 1) K), (9, vT), (13, (.int .i64 (.negSucc (nat_lit 0)))), (2, .sint .i64 (.var 3) K), (8, vF), (12, .sint .i64 (.var 4) K), (10, vP 456 0), (14, .sint .i64 (.var 0) K)]
noncomputable def HA1 (K : SK) : List (Nat × AObj) := [(0, (.arr .i64 0 (.var 1))), (455, (.row [vI 0, vF, vI 0, vF, vI 0, vF, .sint .i64 (.add (.lit 0) (.var 2)) K, vT, vI 0, vF, vI 0, vF])), (355, (.row [vS 353 0 1 1 0, vI 4096, vI 10, vI 65535, vI 16384, vI 1000, vI 4096, vI 10, vI 65535, vI 16384, vI 1000, vF])), (347, (.row [vZ, vZ, vI 0])), (353, (.row [vI 4096, vI 10, vI 65535, vI 16384, vI 1000])), (457, (.row [vI 1, vI 0])), (345, (.row [vP 344 0, vI 4096, vI 4096, vI 4096])), (357, (.row [vI 4096, vI 0, vZ])), (349, (.row [vI 65535])), (456, (.row [vI 1, vI 0, vI 4096, vI 10, vI 65535, vI 16384, vI 1000, vI 0, vI 0, .sint .i64 (.var 2) K, .sint .i64 (.var 3) K, vI 0, .sint .i64 (.var 4) K, vP 350 0, vP 457 0, vP 455 0, vT, vI 0, vZ, vZ, vF, vZ, vZ])), (344, (.row [vI 4096, vI 0, vZ])), (356, (.row [vF, vI 16384, vZ, vI 0])), (348, (.row [vI 65535, vI 65535, vI 0])), (346, (.row [vI 0, vF, vF, vZ])), (454, (.row (vB 69 0))), (358, (.row [vP 357 0, vI 4096, vF, vF])), (350, (.row [vI 1, vP 355 0, vI 4096, vI 4294967295, vI 65535, vI 16384, vI 4294967295, vP 356 0, vP 358 0, vP 345 0, vP 348 0, vP 349 0, vP 346 0, vP 347 0, vS 454 0 0 69 1, vF, vF, vF, vF, vI 1, vI 0, (.int .i64 (.negSucc (nat_lit 0))), (.int .i64 (.negSucc (nat_lit 0))), vZ]))]
def N1 : Nat := 461
noncomputable def EB1 (K : SK) : List (Nat × AV) := [(1, .sint .i64 (.var 2) K), (3, .ssl 0 0 (.var 1) K), (9, vT), (13, .sint .i64 (.var 5) K), (2, .sint .i64 (.var 3) K), (8, vF), (12, .sint .i64 (.var 4) K), (10, vP 456 0), (14, .sint .i64 (.var 0) K)]
noncomputable def HB1 (K : SK) : List (Nat × AObj) := [(0, (.arr .i64 0 (.var 1))), (455, (.row [vI 0, vF, vI 0, vF, vI 0, vF, vI 0, vF, .sint .i64 (.add (.var 5) (.var 3)) K, vT, vI 0, vF])), (355, (.row [vS 353 0 1 1 0, vI 4096, vI 10, vI 65535, vI 16384, vI 1000, vI 4096, vI 10, vI 65535, vI 16384, vI 1000, vF])), (347, (.row [vZ, vZ, vI 0])), (353, (.row [vI 4096, vI 10, vI 65535, vI 16384, vI 1000])), (457, (.row [vI 1, vI 0])), (345, (.row [vP 344 0, vI 4096, vI 4096, vI 4096])), (357, (.row [vI 4096, vI 0, vZ])), (349, (.row [vI 65535])), (456, (.row [vI 1, vI 0, vI 4096, vI 10, vI 65535, vI 16384, vI 1000, vI 0, vI 0, .sint .i64 (.var 2) K, .sint .i64 (.var 3) K, vI 0, .sint .i64 (.var 4) K, vP 350 0, vP 457 0, vP 455 0, vT, vI 0, vZ, vZ, vF, vZ, vZ])), (344, (.row [vI 4096, vI 0, vZ])), (356, (.row [vF, vI 16384, vZ, vI 0])), (348, (.row [vI 65535, vI 65535, vI 0])), (346, (.row [vI 0, vF, vF, vZ])), (454, (.row (vB 69 40293450980587542965319572241781925347328))), (358, (.row [vP 357 0, vI 4096, vF, vF])), (350, (.row [vI 1, vP 355 0, vI 4096, vI 4294967295, vI 65535, vI 16384, vI 4294967295, vP 356 0, vP 358 0, vP 345 0, vP 348 0, vP 349 0, vP 346 0, vP 347 0, vS 454 0 17 69 1, vF, vF, vF, vF, vI 1, vI 0, (.int .i64 (.negSucc (nat_lit 0))), (.int .i64 (.negSucc (nat_lit 0))), vZ]))]
noncomputable def EA2 (K : SK) : List (Nat × AV) := [(1, .sint .i64 (.var 2) K), (3, .ssl 0 0 (.var 1) K), (9, vT), (13, (.int .i64 (.negSucc (nat_lit 0)))), (2, .sint .i64 (.var 3) K), (8, vF), (12, .sint .i64 (.var 4) K), (10, vP 440 0), (14, .sint .i64 (.var 0) K)]
noncomputable def HA2 (K : SK) : List (Nat × AObj) := [(0, (.arr .i64 0 (.var 1))), (351, (.row [vI 4096, vI 10, vI 65535, vI 16384, vI 1000])), (343, (.row [vP 342 0, vI 4096, vI 4096, vI 4096])), (439, (.row [vI 0, vF, vI 0, vF, vI 0, vF, .sint .i64 (.add (.lit 0) (.var 2)) K, vT, vI 0, vF, vI 0, vF])), (355, (.row [vI 4096, vI 0, vZ])), (347, (.row [vI 65535])), (353, (.row [vS 351 0 1 1 0, vI 4096, vI 10, vI 65535, vI 16384, vI 1000, vI 4096, vI 10, vI 65535, vI 16384, vI 1000, vF])), (345, (.row [vZ, vZ, vI 0])), (441, (.row [vI 2, vI 0])), (344, (.row [vI 0, vF, vF, vZ])), (440, (.row [vI 2, vI 0, vI 4096, vI 10, vI 65535, vI 16384, vI 1000, vI 0, vI 0, .sint .i64 (.var 2) K, .sint .i64 (.var 3) K, vI 0, .sint .i64 (.var 4) K, vP 348 0, vP 441 0, vP 439 0, vT, vI 0, vZ, vZ, vF, vZ, vZ])), (356, (.row [vP 355 0, vI 4096, vF, vF])), (348, (.row [vI 2, vP 353 0, vI 4096, vI 4294967295, vI 65535, vI 16384, vI 4294967295, vP 354 0, vP 356 0, vP 343 0, vP 346 0, vP 347 0, vP 344 0, vP 345 0, vS 438 0 0 39 1, vF, vF, vF, vF, vI 1, vI 0, (.int .i64 (.negSucc (nat_lit 0))), (.int .i64 (.negSucc (nat_lit 0))), vZ])), (354, (.row [vT, vI 16384, vZ, vI 0])), (346, (.row [vI 65535, vI 65535, vI 0])), (342, (.row [vI 4096, vI 0, vZ])), (438, (.row (vB 39 0)))]
def N2 : Nat := 445
noncomputable def EB2 (K : SK) : List (Nat × AV) := [(1, .sint .i64 (.var 2) K), (3, .ssl 0 0 (.var 1) K), (9, vT), (13, .sint .i64 (.var 5) K), (2, .sint .i64 (.var 3) K), (8, vF), (12, .sint .i64 (.var 4) K), (10, vP 440 0), (14, .sint .i64 (.var 0) K)]
noncomputable def HB2 (K : SK) : List (Nat × AObj) := [(0, (.arr .i64 0 (.var 1))), (351, (.row [vI 4096, vI 10, vI 65535, vI 16384, vI 1000])), (343, (.row [vP 342 0, vI 4096, vI 4096, vI 4096])), (439, (.row [vI 0, vF, vI 0, vF, vI 0, vF, vI 0, vF, .sint .i64 (.add (.var 5) (.var 3)) K, vT, vI 0, vF])), (355, (.row [vI 4096, vI 0, vZ])), (347, (.row [vI 65535])), (353, (.row [vS 351 0 1 1 0, vI 4096, vI 10, vI 65535, vI 16384, vI 1000, vI 4096, vI 10, vI 65535, vI 16384, vI 1000, vF])), (345, (.row [vZ, vZ, vI 0])), (441, (.row [vI 2, vI 0])), (344, (.row [vI 0, vF, vF, vZ])), (440, (.row [vI 2, vI 0, vI 4096, vI 10, vI 65535, vI 16384, vI 1000, vI 0, vI 0, .sint .i64 (.var 2) K, .sint .i64 (.var 3) K, vI 0, .sint .i64 (.var 4) K, vP 348 0, vP 441 0, vP 439 0, vT, vI 0, vZ, vZ, vF, vZ, vZ])), (356, (.row [vP 355 0, vI 4096, vF, vF])), (348, (.row [vI 2, vP 353 0, vI 4096, vI 4294967295, vI 65535, vI 16384, vI 4294967295, vP 354 0, vP 356 0, vP 343 0, vP 346 0, vP 347 0, vP 344 0, vP 345 0, vS 438 0 17 39 1, vF, vF, vF, vF, vI 1, vI 0, (.int .i64 (.negSucc (nat_lit 0))), (.int .i64 (.negSucc (nat_lit 0))), vZ])), (354, (.row [vT, vI 16384, vZ, vI 0])), (346, (.row [vI 65535, vI 65535, vI 0])), (342, (.row [vI 4096, vI 0, vZ])), (438, (.row (vB 39 40293450980587542965319572241781925347328)))]
theorem pre1 : fitOut s0 K0 N1 (EA1 K0) (HA1 K0) (codeL 1000000 (run Γ 1000000) (pre8 ++ [dC]) (argsEnv [.int .i64 1, .sint .i64 (.var 2) K0, .sint .i64 (.var 3) K0, .ssl 0 0 (.var 1) K0] 0 (T.full 10)) (heapArr .i64 (.var 1))) = true := by kernel_rfl
theorem eA1X1 : fitEnv [] KX1 N1 (mkEnv (EA1 K0)) (EA1 KX1) = true := by kernel_rfl
theorem hA1X1 : fitHeap [] KX1 N1 (mkHeap (HA1 K0) N1) (HA1 KX1) = true := by kernel_rfl
theorem xA1X1 : exitOk 1000000 (run Γ 1000000) 0 8 rest (codeE 1000000 (run Γ 1000000) lp (mkEnv (EA1 KX1)) (mkHeap (HA1 KX1) N1)) = true := by kernel_rfl
theorem eA1X2 : fitEnv [] KX2 N1 (mkEnv (EA1 K0)) (EA1 KX2) = true := by kernel_rfl
theorem hA1X2 : fitHeap [] KX2 N1 (mkHeap (HA1 K0) N1) (HA1 KX2) = true := by kernel_rfl
theorem xA1X2 : exitOk 1000000 (run Γ 1000000) 0 8 rest (codeE 1000000 (run Γ 1000000) lp (mkEnv (EA1 KX2)) (mkHeap (HA1 KX2) N1)) = true := by kernel_rfl
theorem eA1S1 : fitEnv [] KS1 N1 (mkEnv (EA1 K0)) (EA1 KS1) = true := by kernel_rfl
theorem hA1S1 : fitHeap [] KS1 N1 (mkHeap (HA1 K0) N1) (HA1 KS1) = true := by kernel_rfl
theorem xA1S1 : fitOut s1 K0 N1 (EA1 K0) (HA1 K0) (codeE 1000000 (run Γ 1000000) lp (mkEnv (EA1 KS1)) (mkHeap (HA1 KS1) N1)) = true := by kernel_rfl
theorem eA1S2 : fitEnv [] KS2 N1 (mkEnv (EA1 K0)) (EA1 KS2) = true := by kernel_rfl
theorem hA1S2 : fitHeap [] KS2 N1 (mkHeap (HA1 K0) N1) (HA1 KS2) = true := by kernel_rfl
theorem xA1S2 : fitOut s1 K0 N1 (EA1 K0) (HA1 K0) (codeE 1000000 (run Γ 1000000) lp (mkEnv (EA1 KS2)) (mkHeap (HA1 KS2) N1)) = true := by kernel_rfl
theorem eB1X1 : fitEnv [] KX1 N1 (mkEnv (EB1 K0)) (EB1 KX1) = true := by kernel_rfl
theorem hB1X1 : fitHeap [] KX1 N1 (mkHeap (HB1 K0) N1) (HB1 KX1) = true := by kernel_rfl
theorem xB1X1 : exitOk 1000000 (run Γ 1000000) 0 8 rest (codeE 1000000 (run Γ 1000000) lp (mkEnv (EB1 KX1)) (mkHeap (HB1 KX1) N1)) = true := by kernel_rfl
theorem eB1X2 : fitEnv [] KX2 N1 (mkEnv (EB1 K0)) (EB1 KX2) = true := by kernel_rfl
theorem hB1X2 : fitHeap [] KX2 N1 (mkHeap (HB1 K0) N1) (HB1 KX2) = true := by kernel_rfl
theorem xB1X2 : exitOk 1000000 (run Γ 1000000) 0 8 rest (codeE 1000000 (run Γ 1000000) lp (mkEnv (EB1 KX2)) (mkHeap (HB1 KX2) N1)) = true := by kernel_rfl
theorem eB1S1 : fitEnv [] KS1 N1 (mkEnv (EB1 K0)) (EB1 KS1) = true := by kernel_rfl
theorem hB1S1 : fitHeap [] KS1 N1 (mkHeap (HB1 K0) N1) (HB1 KS1) = true := by kernel_rfl
theorem xB1S1 : fitOut s1 K0 N1 (EB1 K0) (HB1 K0) (codeE 1000000 (run Γ 1000000) lp (mkEnv (EB1 KS1)) (mkHeap (HB1 KS1) N1)) = true := by kernel_rfl
theorem eB1S2 : fitEnv [] KS2 N1 (mkEnv (EB1 K0)) (EB1 KS2) = true := by kernel_rfl
theorem hB1S2 : fitHeap [] KS2 N1 (mkHeap (HB1 K0) N1) (HB1 KS2) = true := by kernel_rfl
theorem xB1S2 : fitOut s1 K0 N1 (EB1 K0) (HB1 K0) (codeE 1000000 (run Γ 1000000) lp (mkEnv (EB1 KS2)) (mkHeap (HB1 KS2) N1)) = true := by kernel_rfl
theorem eA1A3 : fitEnv [] KA3 N1 (mkEnv (EA1 K0)) (EA1 KA3) = true := by kernel_rfl
theorem hA1A3 : fitHeap [] KA3 N1 (mkHeap (HA1 K0) N1) (HA1 KA3) = true := by kernel_rfl
theorem xA1A3 : fitOut s4 K0 N1 (EA1 K0) (HA1 K0) (codeE 1000000 (run Γ 1000000) lp (mkEnv (EA1 KA3)) (mkHeap (HA1 KA3) N1)) = true := by kernel_rfl
theorem eA1A4 : fitEnv [] KA4 N1 (mkEnv (EA1 K0)) (EA1 KA4) = true := by kernel_rfl
theorem hA1A4 : fitHeap [] KA4 N1 (mkHeap (HA1 K0) N1) (HA1 KA4) = true := by kernel_rfl
theorem xA1A4 : fitOut s45 K0 N1 (EB1 K0) (HB1 K0) (codeE 1000000 (run Γ 1000000) lp (mkEnv (EA1 KA4)) (mkHeap (HA1 KA4) N1)) = true := by kernel_rfl
theorem eB1B3 : fitEnv [] KB3 N1 (mkEnv (EB1 K0)) (EB1 KB3) = true := by kernel_rfl
theorem hB1B3 : fitHeap [] KB3 N1 (mkHeap (HB1 K0) N1) (HB1 KB3) = true := by kernel_rfl
theorem xB1B3 : fitOut s4 K0 N1 (EB1 K0) (HB1 K0) (codeE 1000000 (run Γ 1000000) lp (mkEnv (EB1 KB3)) (mkHeap (HB1 KB3) N1)) = true := by kernel_rfl
theorem eB1B4 : fitEnv [] KB4 N1 (mkEnv (EB1 K0)) (EB1 KB4) = true := by kernel_rfl
theorem hB1B4 : fitHeap [] KB4 N1 (mkHeap (HB1 K0) N1) (HB1 KB4) = true := by kernel_rfl
theorem xB1B4 : retOk 8 (codeE 1000000 (run Γ 1000000) lp (mkEnv (EB1 KB4)) (mkHeap (HB1 KB4) N1)) = true := by kernel_rfl
theorem pre2 : fitOut s0 K0 N2 (EA2 K0) (HA2 K0) (codeL 1000000 (run Γ 1000000) (pre8 ++ [dC]) (argsEnv [.int .i64 2, .sint .i64 (.var 2) K0, .sint .i64 (.var 3) K0, .ssl 0 0 (.var 1) K0] 0 (T.full 10)) (heapArr .i64 (.var 1))) = true := by kernel_rfl
theorem eA2X1 : fitEnv [] KX1 N2 (mkEnv (EA2 K0)) (EA2 KX1) = true := by kernel_rfl
theorem hA2X1 : fitHeap [] KX1 N2 (mkHeap (HA2 K0) N2) (HA2 KX1) = true := by kernel_rfl
theorem xA2X1 : exitOk 1000000 (run Γ 1000000) 0 8 rest (codeE 1000000 (run Γ 1000000) lp (mkEnv (EA2 KX1)) (mkHeap (HA2 KX1) N2)) = true := by kernel_rfl
theorem eA2X2 : fitEnv [] KX2 N2 (mkEnv (EA2 K0)) (EA2 KX2) = true := by kernel_rfl
theorem hA2X2 : fitHeap [] KX2 N2 (mkHeap (HA2 K0) N2) (HA2 KX2) = true := by kernel_rfl
theorem xA2X2 : exitOk 1000000 (run Γ 1000000) 0 8 rest (codeE 1000000 (run Γ 1000000) lp (mkEnv (EA2 KX2)) (mkHeap (HA2 KX2) N2)) = true := by kernel_rfl
theorem eA2S1 : fitEnv [] KS1 N2 (mkEnv (EA2 K0)) (EA2 KS1) = true := by kernel_rfl
theorem hA2S1 : fitHeap [] KS1 N2 (mkHeap (HA2 K0) N2) (HA2 KS1) = true := by kernel_rfl
theorem xA2S1 : fitOut s1 K0 N2 (EA2 K0) (HA2 K0) (codeE 1000000 (run Γ 1000000) lp (mkEnv (EA2 KS1)) (mkHeap (HA2 KS1) N2)) = true := by kernel_rfl
theorem eA2S2 : fitEnv [] KS2 N2 (mkEnv (EA2 K0)) (EA2 KS2) = true := by kernel_rfl
theorem hA2S2 : fitHeap [] KS2 N2 (mkHeap (HA2 K0) N2) (HA2 KS2) = true := by kernel_rfl
theorem xA2S2 : fitOut s1 K0 N2 (EA2 K0) (HA2 K0) (codeE 1000000 (run Γ 1000000) lp (mkEnv (EA2 KS2)) (mkHeap (HA2 KS2) N2)) = true := by kernel_rfl
theorem eB2X1 : fitEnv [] KX1 N2 (mkEnv (EB2 K0)) (EB2 KX1) = true := by kernel_rfl
theorem hB2X1 : fitHeap [] KX1 N2 (mkHeap (HB2 K0) N2) (HB2 KX1) = true := by kernel_rfl
theorem xB2X1 : exitOk 1000000 (run Γ 1000000) 0 8 rest (codeE 1000000 (run Γ 1000000) lp (mkEnv (EB2 KX1)) (mkHeap (HB2 KX1) N2)) = true := by kernel_rfl
theorem eB2X2 : fitEnv [] KX2 N2 (mkEnv (EB2 K0)) (EB2 KX2) = true := by kernel_rfl
theorem hB2X2 : fitHeap [] KX2 N2 (mkHeap (HB2 K0) N2) (HB2 KX2) = true := by kernel_rfl
theorem xB2X2 : exitOk 1000000 (run Γ 1000000) 0 8 rest (codeE 1000000 (run Γ 1000000) lp (mkEnv (EB2 KX2)) (mkHeap (HB2 KX2) N2)) = true := by kernel_rfl
theorem eB2S1 : fitEnv [] KS1 N2 (mkEnv (EB2 K0)) (EB2 KS1) = true := by kernel_rfl
theorem hB2S1 : fitHeap [] KS1 N2 (mkHeap (HB2 K0) N2) (HB2 KS1) = true := by kernel_rfl
theorem xB2S1 : fitOut s1 K0 N2 (EB2 K0) (HB2 K0) (codeE 1000000 (run Γ 1000000) lp (mkEnv (EB2 KS1)) (mkHeap (HB2 KS1) N2)) = true := by kernel_rfl
theorem eB2S2 : fitEnv [] KS2 N2 (mkEnv (EB2 K0)) (EB2 KS2) = true := by kernel_rfl
theorem hB2S2 : fitHeap [] KS2 N2 (mkHeap (HB2 K0) N2) (HB2 KS2) = true := by kernel_rfl
theorem xB2S2 : fitOut s1 K0 N2 (EB2 K0) (HB2 K0) (codeE 1000000 (run Γ 1000000) lp (mkEnv (EB2 KS2)) (mkHeap (HB2 KS2) N2)) = true := by kernel_rfl
theorem eA2A3 : fitEnv [] KA3 N2 (mkEnv (EA2 K0)) (EA2 KA3) = true := by kernel_rfl
theorem hA2A3 : fitHeap [] KA3 N2 (mkHeap (HA2 K0) N2) (HA2 KA3) = true := by kernel_rfl
theorem xA2A3 : fitOut s4 K0 N2 (EA2 K0) (HA2 K0) (codeE 1000000 (run Γ 1000000) lp (mkEnv (EA2 KA3)) (mkHeap (HA2 KA3) N2)) = true := by kernel_rfl
theorem eA2A4 : fitEnv [] KA4 N2 (mkEnv (EA2 K0)) (EA2 KA4) = true := by kernel_rfl
theorem hA2A4 : fitHeap [] KA4 N2 (mkHeap (HA2 K0) N2) (HA2 KA4) = true := by kernel_rfl
theorem xA2A4 : fitOut s45 K0 N2 (EB2 K0) (HB2 K0) (codeE 1000000 (run Γ 1000000) lp (mkEnv (EA2 KA4)) (mkHeap (HA2 KA4) N2)) = true := by kernel_rfl
theorem eB2B3 : fitEnv [] KB3 N2 (mkEnv (EB2 K0)) (EB2 KB3) = true := by kernel_rfl
theorem hB2B3 : fitHeap [] KB3 N2 (mkHeap (HB2 K0) N2) (HB2 KB3) = true := by kernel_rfl
theorem xB2B3 : fitOut s4 K0 N2 (EB2 K0) (HB2 K0) (codeE 1000000 (run Γ 1000000) lp (mkEnv (EB2 KB3)) (mkHeap (HB2 KB3) N2)) = true := by kernel_rfl
theorem eB2B4 : fitEnv [] KB4 N2 (mkEnv (EB2 K0)) (EB2 KB4) = true := by kernel_rfl
theorem hB2B4 : fitHeap [] KB4 N2 (mkHeap (HB2 K0) N2) (HB2 KB4) = true := by kernel_rfl
theorem xB2B4 : retOk 8 (codeE 1000000 (run Γ 1000000) lp (mkEnv (EB2 KB4)) (mkHeap (HB2 KB4) N2)) = true := by kernel_rfl
end Go.Proofs.YtikadibppimomaaGreat.Ev.EndKeep
