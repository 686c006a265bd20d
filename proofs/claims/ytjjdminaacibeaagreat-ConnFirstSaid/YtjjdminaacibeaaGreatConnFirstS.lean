/- The parts of the law's own code. -/
import Derived.Test.YtjjdminaacibeaaGreatConnFirstG
import Derived.KernelRfl
namespace Go.Proofs.YtjjdminaacibeaaGreat.Ev.ConnFirst
def preOf : Code' -> ICode
  | .fn ⟨_, _, .seq a (.seq b (.seq c (.seq (.seq d _) _)))⟩ => .seq a (.seq b (.seq c d))
  | _ => .skip
def aOf : Code' -> ICode
  | .fn ⟨_, _, .seq a _⟩ => a
  | _ => .skip
def bOf : Code' -> ICode
  | .fn ⟨_, _, .seq _ (.seq b _)⟩ => b
  | _ => .skip
def cOf : Code' -> ICode
  | .fn ⟨_, _, .seq _ (.seq _ (.seq c _))⟩ => c
  | _ => .skip
def dOf : Code' -> ICode
  | .fn ⟨_, _, .seq _ (.seq _ (.seq _ (.seq (.seq d _) _)))⟩ => d
  | _ => .skip
def loopOf : Code' -> ICode
  | .fn ⟨_, _, .seq _ (.seq _ (.seq _ (.seq (.seq _ (.block _ (.loop body))) _)))⟩ => body
  | _ => .skip
def idOf : Code' -> Nat
  | .fn ⟨_, _, .seq _ (.seq _ (.seq _ (.seq (.seq _ (.block i _)) _)))⟩ => i
  | _ => 0
def restOf : Code' -> ICode
  | .fn ⟨_, _, .seq _ (.seq _ (.seq _ (.seq _ rest)))⟩ => rest
  | _ => .skip
def fiOf : Code' -> IFunc
  | .fn fi => fi
  | _ => default
end Go.Proofs.YtjjdminaacibeaaGreat.Ev.ConnFirst
