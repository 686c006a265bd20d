/- The code of the functions that the run calls, part 1. -/
import Derived.Test.YtjjdminaacibeaaGreatDoorEv1
namespace Go.Proofs.YtjjdminaacibeaaGreatDoor.Ev.PairLong
set_option maxRecDepth 100000
def bs (l : List Nat) : List UInt8 := l.map UInt8.ofNat
def c4 : Code' := .fn ⟨(nat_lit 72), [.tmp (nat_lit 0)],
 (.seq (.region [
  .ins ⟨(.p .mv), [.const (.bool false)], (some (nat_lit 0)), none⟩])
 (.seq (.region [
  .ins ⟨(.a (.makeSlice [(.int .i64 (.ofNat (nat_lit 0))), (.int .i64 (.ofNat (nat_lit 0))), (.int .i64 (.ofNat (nat_lit 0))), (.int .i64 (.ofNat (nat_lit 0))), (.slice none (nat_lit 0) (nat_lit 0) (nat_lit 0)), (.slice none (nat_lit 0) (nat_lit 0) (nat_lit 0)), (.bool false), (.int .i64 (.ofNat (nat_lit 0))), (.int .i64 (.ofNat (nat_lit 0))), (.int .i64 (.ofNat (nat_lit 0))), (.int .i64 (.ofNat (nat_lit 0))), (.int .i64 (.ofNat (nat_lit 0)))] (nat_lit 12) (nat_lit 128))), [.const (.int .i64 (.ofNat (nat_lit 4097))), .const (.int .i64 (.ofNat (nat_lit 4097)))], (some (nat_lit 12)), none⟩,
  .ins ⟨(.p .mv), [.tmp (nat_lit 12)], (some (nat_lit 1)), none⟩])
 (.seq (.seq (.region [
  .ins ⟨(.p .mv), [.const (.int .i64 (.ofNat (nat_lit 0)))], (some (nat_lit 2)), none⟩])
 (.block (nat_lit 0) (.loop (.seq (.seq (.region [
  .ins ⟨(.p .mv), [.tmp (nat_lit 2)], (some (nat_lit 13)), none⟩,
  .ins ⟨(.p .mv), [.tmp (nat_lit 1)], (some (nat_lit 14)), none⟩,
  .ins ⟨(.p .lenSl), [.tmp (nat_lit 14)], (some (nat_lit 15)), none⟩,
  .ins ⟨(.p (.bini .lss)), [.tmp (nat_lit 13), .tmp (nat_lit 15)], (some (nat_lit 16)), none⟩])
 (.cond (.tmp (nat_lit 16)) .skip
 (.exit (nat_lit 0))))
 (.seq (.block (nat_lit 1) (.region [
  .ins ⟨(.p .mv), [.tmp (nat_lit 1)], (some (nat_lit 19)), none⟩,
  .ins ⟨(.p .mv), [.tmp (nat_lit 2)], (some (nat_lit 20)), none⟩,
  .ins ⟨(.p (.build [(.int .i64 (.ofNat (nat_lit 0))), (.int .i64 (.ofNat (nat_lit 0))), (.int .i64 (.ofNat (nat_lit 0))), (.int .i64 (.ofNat (nat_lit 0))), (.slice none (nat_lit 0) (nat_lit 0) (nat_lit 0)), (.slice none (nat_lit 0) (nat_lit 0) (nat_lit 0)), (.bool false), (.int .i64 (.ofNat (nat_lit 0))), (.int .i64 (.ofNat (nat_lit 0))), (.int .i64 (.ofNat (nat_lit 0))), (.int .i64 (.ofNat (nat_lit 0))), (.int .i64 (.ofNat (nat_lit 0)))] [((nat_lit 0), (nat_lit 1)), ((nat_lit 3), (nat_lit 1))])), [.const (.int .i64 (.ofNat (nat_lit 6))), .const (.int .i64 (.ofNat (nat_lit 1)))], (some (nat_lit 21)), none⟩,
  .ins ⟨(.p (.indexAddr (nat_lit 12))), [.tmp (nat_lit 19), .tmp (nat_lit 20)], (some (nat_lit 22)), none⟩,
  .ins ⟨(.l (.store (nat_lit 12))), [.tmp (nat_lit 22), .tmp (nat_lit 21)], none, none⟩]))
 (.region [
  .ins ⟨(.p .mv), [.tmp (nat_lit 2)], (some (nat_lit 17)), none⟩,
  .ins ⟨(.p (.bini .add)), [.tmp (nat_lit 17), .const (.int .i64 (.ofNat (nat_lit 1)))], (some (nat_lit 18)), none⟩,
  .ins ⟨(.p .mv), [.tmp (nat_lit 18)], (some (nat_lit 2)), none⟩]))))))
 (.seq (.region [
  .ins ⟨(.c .value), [.const (.func (.func (nat_lit 25)) [] [])], (some (nat_lit 24)), none⟩,
  .ins ⟨(.p .mv), [.tmp (nat_lit 1)], (some (nat_lit 25)), none⟩,
  .ins ⟨(.c .value), [.const (.func (.func (nat_lit 24)) [] []), .tmp (nat_lit 24), .tmp (nat_lit 25)], (some (nat_lit 26)), none⟩,
  .ins ⟨(.p .mv), [.tmp (nat_lit 26)], (some (nat_lit 23)), none⟩,
  .ins ⟨(.p (.extract (nat_lit 0))), [.tmp (nat_lit 23)], (some (nat_lit 27)), none⟩,
  .ins ⟨(.p (.extract (nat_lit 1))), [.tmp (nat_lit 23)], (some (nat_lit 28)), none⟩,
  .ins ⟨(.p .mv), [.tmp (nat_lit 27)], (some (nat_lit 3)), none⟩,
  .ins ⟨(.p .mv), [.tmp (nat_lit 28)], (some (nat_lit 4)), none⟩])
 (.seq (.region [
  .ins ⟨(.p .mv), [.tmp (nat_lit 1)], (some (nat_lit 31)), none⟩,
  .ins ⟨(.p (.slice (nat_lit 12) true false)), [.tmp (nat_lit 31), .const (.int .i64 (.ofNat (nat_lit 1)))], (some (nat_lit 32)), none⟩,
  .ins ⟨(.c .value), [.const (.func (.func (nat_lit 25)) [] [])], (some (nat_lit 30)), none⟩,
  .ins ⟨(.c .value), [.const (.func (.func (nat_lit 24)) [] []), .tmp (nat_lit 30), .tmp (nat_lit 32)], (some (nat_lit 33)), none⟩,
  .ins ⟨(.p .mv), [.tmp (nat_lit 33)], (some (nat_lit 29)), none⟩,
  .ins ⟨(.p (.extract (nat_lit 0))), [.tmp (nat_lit 29)], (some (nat_lit 34)), none⟩,
  .ins ⟨(.p (.extract (nat_lit 1))), [.tmp (nat_lit 29)], (some (nat_lit 35)), none⟩,
  .ins ⟨(.p .mv), [.tmp (nat_lit 34)], (some (nat_lit 5)), none⟩,
  .ins ⟨(.p .mv), [.tmp (nat_lit 35)], (some (nat_lit 6)), none⟩])
 (.seq (.region [
  .ins ⟨(.a (.alloc [(.int .i64 (.ofNat (nat_lit 0)))])), [], (some (nat_lit 7)), none⟩,
  .ins ⟨(.l (.store (nat_lit 1))), [.tmp (nat_lit 7), .const (.int .i64 (.ofNat (nat_lit 0)))], none, none⟩])
 (.seq (.region [
  .ins ⟨(.c .value), [.const (.func (.func (nat_lit 25)) [] [])], (some (nat_lit 36)), none⟩,
  .ins ⟨(.p .mv), [.tmp (nat_lit 1)], (some (nat_lit 37)), none⟩,
  .ins ⟨(.c .value), [.const (.func (.func (nat_lit 26)) [] []), .tmp (nat_lit 36), .tmp (nat_lit 37)], (some (nat_lit 38)), none⟩,
  .ins ⟨(.p .mv), [.tmp (nat_lit 38)], (some (nat_lit 8)), none⟩])
 (.seq (.seq (.region [
  .ins ⟨(.p .mv), [.tmp (nat_lit 8)], (some (nat_lit 39)), none⟩,
  .ins ⟨(.p (.eqnil .fn false)), [.tmp (nat_lit 39), .const .nilFunc], (some (nat_lit 40)), none⟩])
 (.cond (.tmp (nat_lit 40)) (.seq (.region [
  .ins ⟨(.p .mv), [.const (.bool false)], (some (nat_lit 0)), none⟩])
 .ret)
 .skip))
 (.seq (.seq (.region [
  .ins ⟨(.p .mv), [.tmp (nat_lit 8)], (some (nat_lit 41)), none⟩])
 (.block (nat_lit 2) (.rangeFunc (.tmp (nat_lit 41)) [(nat_lit 42), (nat_lit 43)] .skip
 (.block (nat_lit 3) (.region [
  .ins ⟨(.r (.load false (nat_lit 1))), [.tmp (nat_lit 7)], (some (nat_lit 44)), none⟩,
  .ins ⟨(.p (.bini .add)), [.tmp (nat_lit 44), .const (.int .i64 (.ofNat (nat_lit 1)))], (some (nat_lit 45)), none⟩,
  .ins ⟨(.l (.store (nat_lit 1))), [.tmp (nat_lit 7), .tmp (nat_lit 45)], none, none⟩])))))
 (.seq (.region [
  .ins ⟨(.c .value), [.const (.func (.func (nat_lit 25)) [] [])], (some (nat_lit 46)), none⟩,
  .ins ⟨(.a (.alloc [(.int .i64 (.ofNat (nat_lit 0))), (.int .i64 (.ofNat (nat_lit 0))), (.int .i64 (.ofNat (nat_lit 0))), (.int .i64 (.ofNat (nat_lit 0))), (.int .i64 (.ofNat (nat_lit 0))), (.int .i64 (.ofNat (nat_lit 0))), (.int .i64 (.ofNat (nat_lit 0))), (.int .i64 (.ofNat (nat_lit 0))), (.int .i64 (.ofNat (nat_lit 0))), (.int .i64 (.ofNat (nat_lit 0))), (.int .i64 (.ofNat (nat_lit 0))), (.int .i64 (.ofNat (nat_lit 0))), (.int .i64 (.ofNat (nat_lit 0))), (.int .i64 (.ofNat (nat_lit 0))), (.int .i64 (.ofNat (nat_lit 0))), (.int .i64 (.ofNat (nat_lit 0))), (.int .i64 (.ofNat (nat_lit 0))), (.int .i64 (.ofNat (nat_lit 0))), (.int .i64 (.ofNat (nat_lit 0))), (.int .i64 (.ofNat (nat_lit 0))), (.int .i64 (.ofNat (nat_lit 0)))])), [], (some (nat_lit 9)), none⟩,
  .ins ⟨(.l (.store (nat_lit 21))), [.tmp (nat_lit 9), .tmp (nat_lit 46)], none, none⟩])
 (.seq (.region [
  .ins ⟨(.p (.fieldAddr (nat_lit 0))), [.tmp (nat_lit 9)], (some (nat_lit 47)), none⟩,
  .ins ⟨(.p (.fieldAddr (nat_lit 3))), [.tmp (nat_lit 47)], (some (nat_lit 48)), none⟩,
  .ins ⟨(.l (.store (nat_lit 1))), [.tmp (nat_lit 48), .const (.int .i64 (.ofNat (nat_lit 5)))], none, none⟩])
 (.seq (.region [
  .ins ⟨(.r (.load true (nat_lit 21))), [.tmp (nat_lit 9)], (some (nat_lit 50)), none⟩,
  .ins ⟨(.p .mv), [.tmp (nat_lit 1)], (some (nat_lit 51)), none⟩,
  .ins ⟨(.c .value), [.const (.func (.func (nat_lit 24)) [] []), .tmp (nat_lit 50), .tmp (nat_lit 51)], (some (nat_lit 52)), none⟩,
  .ins ⟨(.p .mv), [.tmp (nat_lit 52)], (some (nat_lit 49)), none⟩,
  .ins ⟨(.p (.extract (nat_lit 0))), [.tmp (nat_lit 49)], (some (nat_lit 53)), none⟩,
  .ins ⟨(.p (.extract (nat_lit 1))), [.tmp (nat_lit 49)], (some (nat_lit 54)), none⟩,
  .ins ⟨(.p .mv), [.tmp (nat_lit 53)], (some (nat_lit 10)), none⟩,
  .ins ⟨(.p .mv), [.tmp (nat_lit 54)], (some (nat_lit 11)), none⟩])
 (.seq (.region [
  .ins ⟨(.c .value), [.const (.func (.func (nat_lit 27)) [] [])], (some (nat_lit 55)), none⟩,
  .ins ⟨(.p .mv), [.tmp (nat_lit 55)], (some (nat_lit 56)), none⟩,
  .ins ⟨(.p .mv), [.tmp (nat_lit 4)], (some (nat_lit 57)), (some ((nat_lit 56), true))⟩,
  .ins ⟨(.p (.bini .eql)), [.tmp (nat_lit 57), .const (.int .i64 (.ofNat (nat_lit 2)))], (some (nat_lit 58)), (some ((nat_lit 56), true))⟩,
  .ins ⟨(.p .pick), [.tmp (nat_lit 56), .tmp (nat_lit 58), .const (.bool false)], (some (nat_lit 59)), none⟩,
  .ins ⟨(.p .mv), [.tmp (nat_lit 59)], (some (nat_lit 60)), none⟩,
  .ins ⟨(.p .mv), [.tmp (nat_lit 6)], (some (nat_lit 61)), (some ((nat_lit 60), true))⟩,
  .ins ⟨(.p (.bini .eql)), [.tmp (nat_lit 61), .const (.int .i64 (.ofNat (nat_lit 0)))], (some (nat_lit 62)), (some ((nat_lit 60), true))⟩,
  .ins ⟨(.p .pick), [.tmp (nat_lit 60), .tmp (nat_lit 62), .const (.bool false)], (some (nat_lit 63)), none⟩,
  .ins ⟨(.p .mv), [.tmp (nat_lit 63)], (some (nat_lit 64)), none⟩,
  .ins ⟨(.r (.load false (nat_lit 1))), [.tmp (nat_lit 7)], (some (nat_lit 65)), (some ((nat_lit 64), true))⟩,
  .ins ⟨(.p (.bini .eql)), [.tmp (nat_lit 65), .const (.int .i64 (.ofNat (nat_lit 0)))], (some (nat_lit 66)), (some ((nat_lit 64), true))⟩,
  .ins ⟨(.p .pick), [.tmp (nat_lit 64), .tmp (nat_lit 66), .const (.bool false)], (some (nat_lit 67)), none⟩,
  .ins ⟨(.p .mv), [.tmp (nat_lit 67)], (some (nat_lit 68)), none⟩,
  .ins ⟨(.p .mv), [.tmp (nat_lit 11)], (some (nat_lit 69)), (some ((nat_lit 68), true))⟩,
  .ins ⟨(.p (.bini .eql)), [.tmp (nat_lit 69), .const (.int .i64 (.ofNat (nat_lit 1)))], (some (nat_lit 70)), (some ((nat_lit 68), true))⟩,
  .ins ⟨(.p .pick), [.tmp (nat_lit 68), .tmp (nat_lit 70), .const (.bool false)], (some (nat_lit 71)), none⟩,
  .ins ⟨(.p .mv), [.tmp (nat_lit 71)], (some (nat_lit 0)), none⟩])
 .ret)))))))))))))⟩

def c6 : Code' := .fn ⟨(nat_lit 62), [.tmp (nat_lit 4)],
 (.seq (.region [
  .ins ⟨(.p .mv), [.const (.slice none (nat_lit 0) (nat_lit 0) (nat_lit 0))], (some (nat_lit 4)), none⟩])
 (.seq (.seq (.region [
  .ins ⟨(.p .mv), [.tmp (nat_lit 0)], (some (nat_lit 9)), none⟩,
  .ins ⟨(.p (.eqnil .ptr false)), [.tmp (nat_lit 9), .const (.ptr none)], (some (nat_lit 10)), none⟩,
  .ins ⟨(.p .mv), [.tmp (nat_lit 10)], (some (nat_lit 11)), none⟩,
  .ins ⟨(.p .mv), [.tmp (nat_lit 0)], (some (nat_lit 12)), (some ((nat_lit 11), false))⟩,
  .ins ⟨(.p .nilck), [.tmp (nat_lit 12)], (some (nat_lit 13)), (some ((nat_lit 11), false))⟩,
  .ins ⟨(.p (.fieldAddr (nat_lit 17))), [.tmp (nat_lit 13)], (some (nat_lit 14)), (some ((nat_lit 11), false))⟩,
  .ins ⟨(.r (.load false (nat_lit 1))), [.tmp (nat_lit 14)], (some (nat_lit 15)), (some ((nat_lit 11), false))⟩,
  .ins ⟨(.p (.bini .neq)), [.tmp (nat_lit 15), .const (.int .i64 (.ofNat (nat_lit 0)))], (some (nat_lit 16)), (some ((nat_lit 11), false))⟩,
  .ins ⟨(.p .pick), [.tmp (nat_lit 11), .const (.bool true), .tmp (nat_lit 16)], (some (nat_lit 17)), none⟩,
  .ins ⟨(.p .mv), [.tmp (nat_lit 17)], (some (nat_lit 18)), none⟩,
  .ins ⟨(.p .mv), [.tmp (nat_lit 1)], (some (nat_lit 19)), (some ((nat_lit 18), false))⟩,
  .ins ⟨(.p .lenSl), [.tmp (nat_lit 19)], (some (nat_lit 20)), (some ((nat_lit 18), false))⟩,
  .ins ⟨(.p (.bini .eql)), [.tmp (nat_lit 20), .const (.int .i64 (.ofNat (nat_lit 0)))], (some (nat_lit 21)), (some ((nat_lit 18), false))⟩,
  .ins ⟨(.p .pick), [.tmp (nat_lit 18), .const (.bool true), .tmp (nat_lit 21)], (some (nat_lit 22)), none⟩])
 (.cond (.tmp (nat_lit 22)) (.seq (.region [
  .ins ⟨(.p .mv), [.const (.slice none (nat_lit 0) (nat_lit 0) (nat_lit 0))], (some (nat_lit 4)), none⟩])
 .ret)
 .skip))
 (.seq (.region [
  .ins ⟨(.p .mv), [.const (.slice none (nat_lit 0) (nat_lit 0) (nat_lit 0))], (some (nat_lit 5)), none⟩])
 (.seq (.seq (.region [
  .ins ⟨(.p .mv), [.tmp (nat_lit 0)], (some (nat_lit 23)), none⟩,
  .ins ⟨(.p .nilck), [.tmp (nat_lit 23)], (some (nat_lit 24)), none⟩,
  .ins ⟨(.p (.fieldAddr (nat_lit 16))), [.tmp (nat_lit 24)], (some (nat_lit 25)), none⟩,
  .ins ⟨(.r (.load false (nat_lit 1))), [.tmp (nat_lit 25)], (some (nat_lit 26)), none⟩,
  .ins ⟨(.p (.un .not)), [.tmp (nat_lit 26)], (some (nat_lit 27)), none⟩])
 (.cond (.tmp (nat_lit 27)) (.seq (.region [
  .ins ⟨(.p .mv), [.const (.bool false)], (some (nat_lit 6)), none⟩])
 (.seq (.region [
  .ins ⟨(.p .mv), [.tmp (nat_lit 0)], (some (nat_lit 29)), none⟩,
  .ins ⟨(.p .mv), [.tmp (nat_lit 1)], (some (nat_lit 30)), none⟩,
  .ins ⟨(.c .value), [.const (.func (.func (nat_lit 37)) [] []), .tmp (nat_lit 29), .tmp (nat_lit 30)], (some (nat_lit 31)), none⟩,
  .ins ⟨(.p .mv), [.tmp (nat_lit 31)], (some (nat_lit 28)), none⟩,
  .ins ⟨(.p (.extract (nat_lit 0))), [.tmp (nat_lit 28)], (some (nat_lit 32)), none⟩,
  .ins ⟨(.p (.extract (nat_lit 1))), [.tmp (nat_lit 28)], (some (nat_lit 33)), none⟩,
  .ins ⟨(.p (.extract (nat_lit 2))), [.tmp (nat_lit 28)], (some (nat_lit 34)), none⟩,
  .ins ⟨(.p .mv), [.tmp (nat_lit 32)], (some (nat_lit 5)), none⟩,
  .ins ⟨(.p .mv), [.tmp (nat_lit 33)], (some (nat_lit 1)), none⟩,
  .ins ⟨(.p .mv), [.tmp (nat_lit 34)], (some (nat_lit 6)), none⟩])
 (.seq (.region [
  .ins ⟨(.p .mv), [.tmp (nat_lit 6)], (some (nat_lit 35)), none⟩,
  .ins ⟨(.p (.un .not)), [.tmp (nat_lit 35)], (some (nat_lit 36)), none⟩])
 (.cond (.tmp (nat_lit 36)) (.seq (.region [
  .ins ⟨(.p .mv), [.tmp (nat_lit 0)], (some (nat_lit 37)), none⟩,
  .ins ⟨(.c .value), [.const (.func (.func (nat_lit 38)) [] []), .tmp (nat_lit 37)], (some (nat_lit 38)), none⟩,
  .ins ⟨(.p .mv), [.tmp (nat_lit 38)], (some (nat_lit 4)), none⟩])
 .ret)
 .skip))))
 .skip))
 (.seq (.region [
  .ins ⟨(.p .mv), [.tmp (nat_lit 5)], (some (nat_lit 39)), none⟩,
  .ins ⟨(.p .mv), [.tmp (nat_lit 0)], (some (nat_lit 40)), none⟩,
  .ins ⟨(.p .nilck), [.tmp (nat_lit 40)], (some (nat_lit 41)), none⟩,
  .ins ⟨(.p (.fieldAddr (nat_lit 13))), [.tmp (nat_lit 41)], (some (nat_lit 42)), none⟩,
  .ins ⟨(.r (.load false (nat_lit 1))), [.tmp (nat_lit 42)], (some (nat_lit 43)), none⟩,
  .ins ⟨(.p .mv), [.tmp (nat_lit 1)], (some (nat_lit 44)), none⟩,
  .ins ⟨(.c .value), [.const (.func (.func (nat_lit 39)) [] []), .tmp (nat_lit 43), .tmp (nat_lit 44)], (some (nat_lit 45)), none⟩,
  .ins ⟨(.l (.append [(.int .i64 (.ofNat (nat_lit 0))), (.int .i64 (.ofNat (nat_lit 0))), (.slice none (nat_lit 0) (nat_lit 0) (nat_lit 0)), (.slice none (nat_lit 0) (nat_lit 0) (nat_lit 0)), (.bool false), (.int .i64 (.ofNat (nat_lit 0))), (.int .i64 (.ofNat (nat_lit 0)))] (nat_lit 7) (nat_lit 88))), [.tmp (nat_lit 39), .tmp (nat_lit 45)], (some (nat_lit 46)), none⟩,
  .ins ⟨(.p .mv), [.tmp (nat_lit 46)], (some (nat_lit 5)), none⟩])
 (.seq (.seq (.region [
  .ins ⟨(.p .mv), [.tmp (nat_lit 5)], (some (nat_lit 47)), none⟩,
  .ins ⟨(.p .lenSl), [.tmp (nat_lit 47)], (some (nat_lit 48)), none⟩,
  .ins ⟨(.p .mv), [.const (.int .i64 (.ofNat (nat_lit 0)))], (some (nat_lit 49)), none⟩])
 (.block (nat_lit 0) (.loop (.seq (.region [
  .ins ⟨(.p (.bini .lss)), [.tmp (nat_lit 49), .tmp (nat_lit 48)], (some (nat_lit 50)), none⟩])
 (.seq (.cond (.tmp (nat_lit 50)) .skip
 (.exit (nat_lit 0)))
 (.seq (.block (nat_lit 1) (.seq (.region [
  .ins ⟨(.p (.indexAddr (nat_lit 7))), [.tmp (nat_lit 47), .tmp (nat_lit 49)], (some (nat_lit 51)), none⟩,
  .ins ⟨(.r (.load true (nat_lit 7))), [.tmp (nat_lit 51)], (some (nat_lit 52)), none⟩,
  .ins ⟨(.a (.alloc [(.int .i64 (.ofNat (nat_lit 0))), (.int .i64 (.ofNat (nat_lit 0))), (.slice none (nat_lit 0) (nat_lit 0) (nat_lit 0)), (.slice none (nat_lit 0) (nat_lit 0) (nat_lit 0)), (.bool false), (.int .i64 (.ofNat (nat_lit 0))), (.int .i64 (.ofNat (nat_lit 0)))])), [], (some (nat_lit 8)), none⟩,
  .ins ⟨(.l (.store (nat_lit 7))), [.tmp (nat_lit 8), .tmp (nat_lit 52)], none, none⟩])
 (.region [
  .ins ⟨(.p .mv), [.tmp (nat_lit 0)], (some (nat_lit 53)), none⟩,
  .ins ⟨(.r (.load true (nat_lit 7))), [.tmp (nat_lit 8)], (some (nat_lit 54)), none⟩,
  .ins ⟨(.c .value), [.const (.func (.func (nat_lit 40)) [] []), .tmp (nat_lit 53), .tmp (nat_lit 54)], (some (nat_lit 55)), none⟩])))
 (.region [
  .ins ⟨(.p (.bini .add)), [.tmp (nat_lit 49), .const (.int .i64 (.ofNat (nat_lit 1)))], (some (nat_lit 56)), none⟩,
  .ins ⟨(.p .mv), [.tmp (nat_lit 56)], (some (nat_lit 49)), none⟩])))))))
 (.seq (.region [
  .ins ⟨(.p .mv), [.tmp (nat_lit 0)], (some (nat_lit 57)), none⟩,
  .ins ⟨(.p .mv), [.tmp (nat_lit 5)], (some (nat_lit 58)), none⟩,
  .ins ⟨(.c .value), [.const (.func (.func (nat_lit 41)) [] []), .tmp (nat_lit 57), .tmp (nat_lit 58)], (some (nat_lit 59)), none⟩])
 (.seq (.region [
  .ins ⟨(.p .mv), [.tmp (nat_lit 0)], (some (nat_lit 60)), none⟩,
  .ins ⟨(.c .value), [.const (.func (.func (nat_lit 38)) [] []), .tmp (nat_lit 60)], (some (nat_lit 61)), none⟩,
  .ins ⟨(.p .mv), [.tmp (nat_lit 61)], (some (nat_lit 4)), none⟩])
 .ret))))))))⟩

def c8 : Code' := .fn ⟨(nat_lit 49), [.tmp (nat_lit 4)],
 (.seq (.region [
  .ins ⟨(.a .box), [.tmp (nat_lit 0)], (some (nat_lit 2)), none⟩,
  .ins ⟨(.p .mv), [.const (.slice none (nat_lit 0) (nat_lit 0) (nat_lit 0))], (some (nat_lit 4)), none⟩])
 (.scope (.seq (.seq (.region [
  .ins ⟨(.r (.load false (nat_lit 1))), [.tmp (nat_lit 2)], (some (nat_lit 6)), none⟩,
  .ins ⟨(.p (.eqnil .ptr false)), [.tmp (nat_lit 6), .const (.ptr none)], (some (nat_lit 7)), none⟩,
  .ins ⟨(.p .mv), [.tmp (nat_lit 7)], (some (nat_lit 8)), none⟩,
  .ins ⟨(.r (.load false (nat_lit 1))), [.tmp (nat_lit 2)], (some (nat_lit 9)), (some ((nat_lit 8), false))⟩,
  .ins ⟨(.p .nilck), [.tmp (nat_lit 9)], (some (nat_lit 10)), (some ((nat_lit 8), false))⟩,
  .ins ⟨(.p (.fieldAddr (nat_lit 17))), [.tmp (nat_lit 10)], (some (nat_lit 11)), (some ((nat_lit 8), false))⟩,
  .ins ⟨(.r (.load false (nat_lit 1))), [.tmp (nat_lit 11)], (some (nat_lit 12)), (some ((nat_lit 8), false))⟩,
  .ins ⟨(.p (.bini .neq)), [.tmp (nat_lit 12), .const (.int .i64 (.ofNat (nat_lit 0)))], (some (nat_lit 13)), (some ((nat_lit 8), false))⟩,
  .ins ⟨(.p .pick), [.tmp (nat_lit 8), .const (.bool true), .tmp (nat_lit 13)], (some (nat_lit 14)), none⟩,
  .ins ⟨(.p .mv), [.tmp (nat_lit 14)], (some (nat_lit 15)), none⟩,
  .ins ⟨(.p .mv), [.tmp (nat_lit 1)], (some (nat_lit 16)), (some ((nat_lit 15), false))⟩,
  .ins ⟨(.r (.load false (nat_lit 1))), [.tmp (nat_lit 2)], (some (nat_lit 17)), (some ((nat_lit 15), false))⟩,
  .ins ⟨(.p .nilck), [.tmp (nat_lit 17)], (some (nat_lit 18)), (some ((nat_lit 15), false))⟩,
  .ins ⟨(.p (.fieldAddr (nat_lit 12))), [.tmp (nat_lit 18)], (some (nat_lit 19)), (some ((nat_lit 15), false))⟩,
  .ins ⟨(.r (.load false (nat_lit 1))), [.tmp (nat_lit 19)], (some (nat_lit 20)), (some ((nat_lit 15), false))⟩,
  .ins ⟨(.p (.bini .lss)), [.tmp (nat_lit 16), .tmp (nat_lit 20)], (some (nat_lit 21)), (some ((nat_lit 15), false))⟩,
  .ins ⟨(.p .pick), [.tmp (nat_lit 15), .const (.bool true), .tmp (nat_lit 21)], (some (nat_lit 22)), none⟩,
  .ins ⟨(.p .mv), [.tmp (nat_lit 22)], (some (nat_lit 23)), none⟩,
  .ins ⟨(.p .mv), [.tmp (nat_lit 1)], (some (nat_lit 24)), (some ((nat_lit 23), false))⟩,
  .ins ⟨(.p (.bini .gtr)), [.tmp (nat_lit 24), .const (.int .i64 (.ofNat (nat_lit 1099511627776)))], (some (nat_lit 25)), (some ((nat_lit 23), false))⟩,
  .ins ⟨(.p .pick), [.tmp (nat_lit 23), .const (.bool true), .tmp (nat_lit 25)], (some (nat_lit 26)), none⟩])
 (.cond (.tmp (nat_lit 26)) (.seq (.region [
  .ins ⟨(.p .mv), [.const (.slice none (nat_lit 0) (nat_lit 0) (nat_lit 0))], (some (nat_lit 4)), none⟩])
 .ret)
 .skip))
 (.seq (.region [
  .ins ⟨(.r (.load false (nat_lit 1))), [.tmp (nat_lit 2)], (some (nat_lit 27)), none⟩,
  .ins ⟨(.p .mv), [.tmp (nat_lit 1)], (some (nat_lit 28)), none⟩,
  .ins ⟨(.p .nilck), [.tmp (nat_lit 27)], (some (nat_lit 29)), none⟩,
  .ins ⟨(.p (.fieldAddr (nat_lit 12))), [.tmp (nat_lit 29)], (some (nat_lit 30)), none⟩,
  .ins ⟨(.l (.store (nat_lit 1))), [.tmp (nat_lit 30), .tmp (nat_lit 28)], none, none⟩])
 (.seq .skip
 (.seq (.seq (.region [
  .ins ⟨(.r (.load false (nat_lit 1))), [.tmp (nat_lit 2)], (some (nat_lit 31)), none⟩,
  .ins ⟨(.p .nilck), [.tmp (nat_lit 31)], (some (nat_lit 32)), none⟩,
  .ins ⟨(.p (.fieldAddr (nat_lit 15))), [.tmp (nat_lit 32)], (some (nat_lit 33)), none⟩,
  .ins ⟨(.r (.load false (nat_lit 1))), [.tmp (nat_lit 33)], (some (nat_lit 34)), none⟩,
  .ins ⟨(.p .mv), [.tmp (nat_lit 1)], (some (nat_lit 35)), none⟩,
  .ins ⟨(.c .value), [.const (.func (.func (nat_lit 43)) [] []), .tmp (nat_lit 34), .tmp (nat_lit 35)], (some (nat_lit 36)), none⟩])
 (.block (nat_lit 0) (.rangeFunc (.tmp (nat_lit 36)) [(nat_lit 37), (nat_lit 38)] (.region [
  .ins ⟨(.p .mv), [.tmp (nat_lit 37)], (some (nat_lit 5)), none⟩])
 (.block (nat_lit 1) (.seq (.region [
  .ins ⟨(.r (.load false (nat_lit 1))), [.tmp (nat_lit 2)], (some (nat_lit 39)), none⟩,
  .ins ⟨(.p .mv), [.tmp (nat_lit 5)], (some (nat_lit 40)), none⟩,
  .ins ⟨(.c .value), [.const (.func (.func (nat_lit 44)) [] []), .tmp (nat_lit 39), .tmp (nat_lit 40)], (some (nat_lit 41)), none⟩])
 (.seq (.region [
  .ins ⟨(.r (.load false (nat_lit 1))), [.tmp (nat_lit 2)], (some (nat_lit 42)), none⟩,
  .ins ⟨(.p .nilck), [.tmp (nat_lit 42)], (some (nat_lit 43)), none⟩,
  .ins ⟨(.p (.fieldAddr (nat_lit 17))), [.tmp (nat_lit 43)], (some (nat_lit 44)), none⟩,
  .ins ⟨(.r (.load false (nat_lit 1))), [.tmp (nat_lit 44)], (some (nat_lit 45)), none⟩,
  .ins ⟨(.p (.bini .neq)), [.tmp (nat_lit 45), .const (.int .i64 (.ofNat (nat_lit 0)))], (some (nat_lit 46)), none⟩])
 (.cond (.tmp (nat_lit 46)) (.exit (nat_lit 0))
 .skip)))))))
 (.seq (.region [
  .ins ⟨(.r (.load false (nat_lit 1))), [.tmp (nat_lit 2)], (some (nat_lit 47)), none⟩,
  .ins ⟨(.c .value), [.const (.func (.func (nat_lit 38)) [] []), .tmp (nat_lit 47)], (some (nat_lit 48)), none⟩,
  .ins ⟨(.p .mv), [.tmp (nat_lit 48)], (some (nat_lit 4)), none⟩])
 .ret)))))))⟩

def c9 : Code' := .fn ⟨(nat_lit 51), [.tmp (nat_lit 4)],
 (.seq (.region [
  .ins ⟨(.p .mv), [.const (.slice none (nat_lit 0) (nat_lit 0) (nat_lit 0))], (some (nat_lit 4)), none⟩])
 (.seq (.seq (.region [
  .ins ⟨(.p .mv), [.tmp (nat_lit 0)], (some (nat_lit 7)), none⟩,
  .ins ⟨(.p (.eqnil .ptr false)), [.tmp (nat_lit 7), .const (.ptr none)], (some (nat_lit 8)), none⟩,
  .ins ⟨(.p .mv), [.tmp (nat_lit 8)], (some (nat_lit 9)), none⟩,
  .ins ⟨(.p .mv), [.tmp (nat_lit 1)], (some (nat_lit 10)), (some ((nat_lit 9), false))⟩,
  .ins ⟨(.p (.bini .lss)), [.tmp (nat_lit 10), .const (.int .i64 (.ofNat (nat_lit 1)))], (some (nat_lit 11)), (some ((nat_lit 9), false))⟩,
  .ins ⟨(.p .pick), [.tmp (nat_lit 9), .const (.bool true), .tmp (nat_lit 11)], (some (nat_lit 12)), none⟩])
 (.cond (.tmp (nat_lit 12)) (.seq (.region [
  .ins ⟨(.p .mv), [.const (.slice none (nat_lit 0) (nat_lit 0) (nat_lit 0))], (some (nat_lit 4)), none⟩])
 .ret)
 .skip))
 (.seq (.region [
  .ins ⟨(.p .mv), [.tmp (nat_lit 1)], (some (nat_lit 13)), none⟩,
  .ins ⟨(.p .mv), [.tmp (nat_lit 0)], (some (nat_lit 14)), none⟩,
  .ins ⟨(.p .nilck), [.tmp (nat_lit 14)], (some (nat_lit 15)), none⟩,
  .ins ⟨(.p (.fieldAddr (nat_lit 19))), [.tmp (nat_lit 15)], (some (nat_lit 16)), none⟩,
  .ins ⟨(.r (.load false (nat_lit 1))), [.tmp (nat_lit 16)], (some (nat_lit 17)), none⟩,
  .ins ⟨(.p .lenSl), [.tmp (nat_lit 17)], (some (nat_lit 18)), none⟩,
  .ins ⟨(.p .min), [.tmp (nat_lit 13), .tmp (nat_lit 18)], (some (nat_lit 19)), none⟩,
  .ins ⟨(.p .mv), [.tmp (nat_lit 19)], (some (nat_lit 5)), none⟩])
 (.seq (.region [
  .ins ⟨(.p .mv), [.tmp (nat_lit 0)], (some (nat_lit 20)), none⟩,
  .ins ⟨(.p .nilck), [.tmp (nat_lit 20)], (some (nat_lit 21)), none⟩,
  .ins ⟨(.p (.fieldAddr (nat_lit 19))), [.tmp (nat_lit 21)], (some (nat_lit 22)), none⟩,
  .ins ⟨(.r (.load false (nat_lit 1))), [.tmp (nat_lit 22)], (some (nat_lit 23)), none⟩,
  .ins ⟨(.p .mv), [.tmp (nat_lit 5)], (some (nat_lit 24)), none⟩,
  .ins ⟨(.p (.slice (nat_lit 1) false true)), [.tmp (nat_lit 23), .tmp (nat_lit 24)], (some (nat_lit 25)), none⟩,
  .ins ⟨(.c .value), [.const (.func (.func (nat_lit 45)) [] []), .tmp (nat_lit 25)], (some (nat_lit 26)), none⟩,
  .ins ⟨(.p .mv), [.tmp (nat_lit 26)], (some (nat_lit 6)), none⟩])
 (.seq (.region [
  .ins ⟨(.p .mv), [.tmp (nat_lit 0)], (some (nat_lit 27)), none⟩,
  .ins ⟨(.p .mv), [.tmp (nat_lit 0)], (some (nat_lit 28)), none⟩,
  .ins ⟨(.p .nilck), [.tmp (nat_lit 28)], (some (nat_lit 29)), none⟩,
  .ins ⟨(.p (.fieldAddr (nat_lit 19))), [.tmp (nat_lit 29)], (some (nat_lit 30)), none⟩,
  .ins ⟨(.r (.load false (nat_lit 1))), [.tmp (nat_lit 30)], (some (nat_lit 31)), none⟩,
  .ins ⟨(.p .mv), [.tmp (nat_lit 5)], (some (nat_lit 32)), none⟩,
  .ins ⟨(.p (.slice (nat_lit 1) true false)), [.tmp (nat_lit 31), .tmp (nat_lit 32)], (some (nat_lit 33)), none⟩,
  .ins ⟨(.p .nilck), [.tmp (nat_lit 27)], (some (nat_lit 34)), none⟩,
  .ins ⟨(.p (.fieldAddr (nat_lit 19))), [.tmp (nat_lit 34)], (some (nat_lit 35)), none⟩,
  .ins ⟨(.l (.store (nat_lit 1))), [.tmp (nat_lit 35), .tmp (nat_lit 33)], none, none⟩])
 (.seq (.seq (.region [
  .ins ⟨(.p .mv), [.tmp (nat_lit 0)], (some (nat_lit 36)), none⟩,
  .ins ⟨(.p .nilck), [.tmp (nat_lit 36)], (some (nat_lit 37)), none⟩,
  .ins ⟨(.p (.fieldAddr (nat_lit 16))), [.tmp (nat_lit 37)], (some (nat_lit 38)), none⟩,
  .ins ⟨(.r (.load false (nat_lit 1))), [.tmp (nat_lit 38)], (some (nat_lit 39)), none⟩])
 (.cond (.tmp (nat_lit 39)) (.region [
  .ins ⟨(.p .mv), [.tmp (nat_lit 6)], (some (nat_lit 40)), none⟩,
  .ins ⟨(.p .mv), [.tmp (nat_lit 0)], (some (nat_lit 41)), none⟩,
  .ins ⟨(.p .nilck), [.tmp (nat_lit 41)], (some (nat_lit 42)), none⟩,
  .ins ⟨(.p (.fieldAddr (nat_lit 13))), [.tmp (nat_lit 42)], (some (nat_lit 43)), none⟩,
  .ins ⟨(.r (.load false (nat_lit 1))), [.tmp (nat_lit 43)], (some (nat_lit 44)), none⟩,
  .ins ⟨(.p .mv), [.tmp (nat_lit 1)], (some (nat_lit 45)), none⟩,
  .ins ⟨(.p .mv), [.tmp (nat_lit 5)], (some (nat_lit 46)), none⟩,
  .ins ⟨(.p (.bini .sub)), [.tmp (nat_lit 45), .tmp (nat_lit 46)], (some (nat_lit 47)), none⟩,
  .ins ⟨(.c .value), [.const (.func (.func (nat_lit 46)) [] []), .tmp (nat_lit 44), .tmp (nat_lit 47)], (some (nat_lit 48)), none⟩,
  .ins ⟨(.l (.append [(.int .u8 (.ofNat (nat_lit 0)))] (nat_lit 1) (nat_lit 1))), [.tmp (nat_lit 40), .tmp (nat_lit 48)], (some (nat_lit 49)), none⟩,
  .ins ⟨(.p .mv), [.tmp (nat_lit 49)], (some (nat_lit 6)), none⟩])
 .skip))
 (.seq (.region [
  .ins ⟨(.p .mv), [.tmp (nat_lit 6)], (some (nat_lit 50)), none⟩,
  .ins ⟨(.p .mv), [.tmp (nat_lit 50)], (some (nat_lit 4)), none⟩])
 .ret)))))))⟩

def c10 : Code' := .fn ⟨(nat_lit 54), [.tmp (nat_lit 6), .tmp (nat_lit 7)],
 (.seq (.region [
  .ins ⟨(.p .mv), [.const (.int .i64 (.ofNat (nat_lit 0)))], (some (nat_lit 6)), none⟩,
  .ins ⟨(.p .mv), [.const (.int .i64 (.ofNat (nat_lit 0)))], (some (nat_lit 7)), none⟩])
 (.seq (.seq (.region [
  .ins ⟨(.p .mv), [.tmp (nat_lit 0)], (some (nat_lit 11)), none⟩,
  .ins ⟨(.c .value), [.const (.func (.func (nat_lit 47)) [] []), .tmp (nat_lit 11)], (some (nat_lit 12)), none⟩,
  .ins ⟨(.p .mv), [.tmp (nat_lit 12)], (some (nat_lit 8)), none⟩])
 (.seq (.region [
  .ins ⟨(.p .mv), [.tmp (nat_lit 8)], (some (nat_lit 13)), none⟩,
  .ins ⟨(.p (.bini .neq)), [.tmp (nat_lit 13), .const (.int .i64 (.ofNat (nat_lit 0)))], (some (nat_lit 14)), none⟩])
 (.cond (.tmp (nat_lit 14)) (.seq (.region [
  .ins ⟨(.p .mv), [.tmp (nat_lit 8)], (some (nat_lit 15)), none⟩,
  .ins ⟨(.p .mv), [.const (.int .i64 (.ofNat (nat_lit 0)))], (some (nat_lit 6)), none⟩,
  .ins ⟨(.p .mv), [.tmp (nat_lit 15)], (some (nat_lit 7)), none⟩])
 .ret)
 .skip)))
 (.seq (.region [
  .ins ⟨(.p .mv), [.const (.int .i64 (.ofNat (nat_lit 0)))], (some (nat_lit 9)), none⟩,
  .ins ⟨(.p .mv), [.const (.int .i64 (.ofNat (nat_lit 0)))], (some (nat_lit 10)), none⟩])
 (.seq (.seq (.region [
  .ins ⟨(.p .mv), [.tmp (nat_lit 0)], (some (nat_lit 16)), none⟩,
  .ins ⟨(.p .nilck), [.tmp (nat_lit 16)], (some (nat_lit 17)), none⟩,
  .ins ⟨(.p (.fieldAddr (nat_lit 16))), [.tmp (nat_lit 17)], (some (nat_lit 18)), none⟩,
  .ins ⟨(.r (.load false (nat_lit 1))), [.tmp (nat_lit 18)], (some (nat_lit 19)), none⟩])
 (.cond (.tmp (nat_lit 19)) (.region [
  .ins ⟨(.p .mv), [.tmp (nat_lit 0)], (some (nat_lit 21)), none⟩,
  .ins ⟨(.p .nilck), [.tmp (nat_lit 21)], (some (nat_lit 22)), none⟩,
  .ins ⟨(.p (.fieldAddr (nat_lit 13))), [.tmp (nat_lit 22)], (some (nat_lit 23)), none⟩,
  .ins ⟨(.r (.load false (nat_lit 1))), [.tmp (nat_lit 23)], (some (nat_lit 24)), none⟩,
  .ins ⟨(.p .mv), [.tmp (nat_lit 1)], (some (nat_lit 25)), none⟩,
  .ins ⟨(.p .mv), [.tmp (nat_lit 2)], (some (nat_lit 26)), none⟩,
  .ins ⟨(.c .value), [.const (.func (.func (nat_lit 48)) [] []), .tmp (nat_lit 24), .tmp (nat_lit 25), .tmp (nat_lit 26)], (some (nat_lit 27)), none⟩,
  .ins ⟨(.p .mv), [.tmp (nat_lit 27)], (some (nat_lit 20)), none⟩,
  .ins ⟨(.p (.extract (nat_lit 0))), [.tmp (nat_lit 20)], (some (nat_lit 28)), none⟩,
  .ins ⟨(.p (.extract (nat_lit 1))), [.tmp (nat_lit 20)], (some (nat_lit 29)), none⟩,
  .ins ⟨(.p .mv), [.tmp (nat_lit 28)], (some (nat_lit 9)), none⟩,
  .ins ⟨(.p .mv), [.tmp (nat_lit 29)], (some (nat_lit 10)), none⟩])
 (.region [
  .ins ⟨(.p .mv), [.tmp (nat_lit 0)], (some (nat_lit 31)), none⟩,
  .ins ⟨(.p .mv), [.tmp (nat_lit 1)], (some (nat_lit 32)), none⟩,
  .ins ⟨(.p .mv), [.tmp (nat_lit 2)], (some (nat_lit 33)), none⟩,
  .ins ⟨(.c .value), [.const (.func (.func (nat_lit 49)) [] []), .tmp (nat_lit 31), .tmp (nat_lit 32), .tmp (nat_lit 33)], (some (nat_lit 34)), none⟩,
  .ins ⟨(.p .mv), [.tmp (nat_lit 34)], (some (nat_lit 30)), none⟩,
  .ins ⟨(.p (.extract (nat_lit 0))), [.tmp (nat_lit 30)], (some (nat_lit 35)), none⟩,
  .ins ⟨(.p (.extract (nat_lit 1))), [.tmp (nat_lit 30)], (some (nat_lit 36)), none⟩,
  .ins ⟨(.p .mv), [.tmp (nat_lit 35)], (some (nat_lit 9)), none⟩,
  .ins ⟨(.p .mv), [.tmp (nat_lit 36)], (some (nat_lit 10)), none⟩])))
 (.seq (.seq (.region [
  .ins ⟨(.p .mv), [.tmp (nat_lit 10)], (some (nat_lit 37)), none⟩,
  .ins ⟨(.p (.bini .neq)), [.tmp (nat_lit 37), .const (.int .i64 (.ofNat (nat_lit 0)))], (some (nat_lit 38)), none⟩])
 (.cond (.tmp (nat_lit 38)) (.seq (.region [
  .ins ⟨(.p .mv), [.tmp (nat_lit 10)], (some (nat_lit 39)), none⟩,
  .ins ⟨(.p .mv), [.const (.int .i64 (.ofNat (nat_lit 0)))], (some (nat_lit 6)), none⟩,
  .ins ⟨(.p .mv), [.tmp (nat_lit 39)], (some (nat_lit 7)), none⟩])
 .ret)
 .skip))
 (.seq (.region [
  .ins ⟨(.p .mv), [.tmp (nat_lit 0)], (some (nat_lit 40)), none⟩,
  .ins ⟨(.p .mv), [.tmp (nat_lit 0)], (some (nat_lit 41)), none⟩,
  .ins ⟨(.p .nilck), [.tmp (nat_lit 41)], (some (nat_lit 42)), none⟩,
  .ins ⟨(.p (.fieldAddr (nat_lit 21))), [.tmp (nat_lit 42)], (some (nat_lit 43)), none⟩,
  .ins ⟨(.r (.load false (nat_lit 1))), [.tmp (nat_lit 43)], (some (nat_lit 44)), none⟩,
  .ins ⟨(.p .mv), [.tmp (nat_lit 9)], (some (nat_lit 45)), none⟩,
  .ins ⟨(.p (.build [(.int .i64 (.ofNat (nat_lit 0))), (.int .i64 (.ofNat (nat_lit 0)))] [((nat_lit 0), (nat_lit 1)), ((nat_lit 1), (nat_lit 1))])), [.tmp (nat_lit 45), .const (.int .i64 (.ofNat (nat_lit 1)))], (some (nat_lit 46)), none⟩,
  .ins ⟨(.a (.buildSlice [(.int .i64 (.ofNat (nat_lit 0))), (.int .i64 (.ofNat (nat_lit 0)))] (nat_lit 1) [((nat_lit 0), (nat_lit 2))])), [.tmp (nat_lit 46)], (some (nat_lit 47)), none⟩,
  .ins ⟨(.l (.append [(.int .i64 (.ofNat (nat_lit 0))), (.int .i64 (.ofNat (nat_lit 0)))] (nat_lit 2) (nat_lit 16))), [.tmp (nat_lit 44), .tmp (nat_lit 47)], (some (nat_lit 48)), none⟩,
  .ins ⟨(.p .nilck), [.tmp (nat_lit 40)], (some (nat_lit 49)), none⟩,
  .ins ⟨(.p (.fieldAddr (nat_lit 21))), [.tmp (nat_lit 49)], (some (nat_lit 50)), none⟩,
  .ins ⟨(.l (.store (nat_lit 1))), [.tmp (nat_lit 50), .tmp (nat_lit 48)], none, none⟩])
 (.seq (.region [
  .ins ⟨(.p .mv), [.tmp (nat_lit 0)], (some (nat_lit 51)), none⟩,
  .ins ⟨(.c .value), [.const (.func (.func (nat_lit 50)) [] []), .tmp (nat_lit 51)], (some (nat_lit 52)), none⟩])
 (.seq (.region [
  .ins ⟨(.p .mv), [.tmp (nat_lit 9)], (some (nat_lit 53)), none⟩,
  .ins ⟨(.p .mv), [.tmp (nat_lit 53)], (some (nat_lit 6)), none⟩,
  .ins ⟨(.p .mv), [.const (.int .i64 (.ofNat (nat_lit 0)))], (some (nat_lit 7)), none⟩])
 .ret))))))))⟩

def c11 : Code' := .fn ⟨(nat_lit 23), [.tmp (nat_lit 8)],
 (.seq (.region [
  .ins ⟨(.p .mv), [.const (.int .i64 (.ofNat (nat_lit 0)))], (some (nat_lit 8)), none⟩])
 (.seq (.seq (.region [
  .ins ⟨(.p .mv), [.tmp (nat_lit 0)], (some (nat_lit 10)), none⟩,
  .ins ⟨(.c .value), [.const (.func (.func (nat_lit 51)) [] []), .tmp (nat_lit 10)], (some (nat_lit 11)), none⟩,
  .ins ⟨(.p .mv), [.tmp (nat_lit 11)], (some (nat_lit 9)), none⟩])
 (.seq (.region [
  .ins ⟨(.p .mv), [.tmp (nat_lit 9)], (some (nat_lit 12)), none⟩,
  .ins ⟨(.p (.bini .neq)), [.tmp (nat_lit 12), .const (.int .i64 (.ofNat (nat_lit 0)))], (some (nat_lit 13)), none⟩])
 (.cond (.tmp (nat_lit 13)) (.seq (.region [
  .ins ⟨(.p .mv), [.tmp (nat_lit 9)], (some (nat_lit 14)), none⟩,
  .ins ⟨(.p .mv), [.tmp (nat_lit 14)], (some (nat_lit 8)), none⟩])
 .ret)
 .skip)))
 (.seq (.region [
  .ins ⟨(.p .mv), [.tmp (nat_lit 0)], (some (nat_lit 15)), none⟩,
  .ins ⟨(.p .nilck), [.tmp (nat_lit 15)], (some (nat_lit 16)), none⟩,
  .ins ⟨(.p (.fieldAddr (nat_lit 13))), [.tmp (nat_lit 16)], (some (nat_lit 17)), none⟩,
  .ins ⟨(.r (.load false (nat_lit 1))), [.tmp (nat_lit 17)], (some (nat_lit 18)), none⟩,
  .ins ⟨(.p .mv), [.tmp (nat_lit 1)], (some (nat_lit 19)), none⟩,
  .ins ⟨(.p .mv), [.tmp (nat_lit 2)], (some (nat_lit 20)), none⟩,
  .ins ⟨(.p .mv), [.tmp (nat_lit 3)], (some (nat_lit 21)), none⟩,
  .ins ⟨(.c .value), [.const (.func (.func (nat_lit 52)) [] []), .tmp (nat_lit 18), .tmp (nat_lit 19), .tmp (nat_lit 20), .tmp (nat_lit 21)], (some (nat_lit 22)), none⟩,
  .ins ⟨(.p .mv), [.tmp (nat_lit 22)], (some (nat_lit 8)), none⟩])
 .ret)))⟩

def c15 : Code' := .fn ⟨(nat_lit 2), [.cell (nat_lit 0) true (nat_lit 5)],
 (.seq (.region [
  .ins ⟨(.a (.alloc [(.int .i64 (.ofNat (nat_lit 0))), (.int .i64 (.ofNat (nat_lit 0))), (.int .i64 (.ofNat (nat_lit 0))), (.int .i64 (.ofNat (nat_lit 0))), (.int .i64 (.ofNat (nat_lit 0)))])), [], (some (nat_lit 0)), none⟩])
 (.seq (.region [
  .ins ⟨(.p (.build [(.int .i64 (.ofNat (nat_lit 0))), (.int .i64 (.ofNat (nat_lit 0))), (.int .i64 (.ofNat (nat_lit 0))), (.int .i64 (.ofNat (nat_lit 0))), (.int .i64 (.ofNat (nat_lit 0)))] [((nat_lit 0), (nat_lit 1)), ((nat_lit 1), (nat_lit 1)), ((nat_lit 2), (nat_lit 1)), ((nat_lit 3), (nat_lit 1)), ((nat_lit 4), (nat_lit 1))])), [.const (.int .i64 (.ofNat (nat_lit 4096))), .const (.int .i64 (.ofNat (nat_lit 4294967295))), .const (.int .i64 (.ofNat (nat_lit 65535))), .const (.int .i64 (.ofNat (nat_lit 16384))), .const (.int .i64 (.ofNat (nat_lit 4294967295)))], (some (nat_lit 1)), none⟩,
  .ins ⟨(.l (.store (nat_lit 5))), [.tmp (nat_lit 0), .tmp (nat_lit 1)], none, none⟩])
 .ret))⟩

def c17 : Code' := .fn ⟨(nat_lit 4), [.tmp (nat_lit 2)],
 (.seq (.region [
  .ins ⟨(.a .box), [.tmp (nat_lit 0)], (some (nat_lit 1)), none⟩,
  .ins ⟨(.p .mv), [.const .nilFunc], (some (nat_lit 2)), none⟩])
 (.seq (.region [
  .ins ⟨(.p (.mkfunc (.func (nat_lit 66)) (nat_lit 0))), [.tmp (nat_lit 1)], (some (nat_lit 3)), none⟩,
  .ins ⟨(.p .mv), [.tmp (nat_lit 3)], (some (nat_lit 2)), none⟩])
 .ret))⟩

def c19 : Code' := .fn ⟨(nat_lit 9), [.tmp (nat_lit 2)],
 (.seq (.region [
  .ins ⟨(.p .mv), [.const (.int .i64 (.ofNat (nat_lit 0)))], (some (nat_lit 2)), none⟩])
 (.seq (.seq (.region [
  .ins ⟨(.p .mv), [.tmp (nat_lit 0)], (some (nat_lit 3)), none⟩,
  .ins ⟨(.p (.eqnil .ptr false)), [.tmp (nat_lit 3), .const (.ptr none)], (some (nat_lit 4)), none⟩])
 (.cond (.tmp (nat_lit 4)) (.seq (.region [
  .ins ⟨(.p .mv), [.const (.int .i64 (.ofNat (nat_lit 6)))], (some (nat_lit 2)), none⟩])
 .ret)
 .skip))
 (.seq (.region [
  .ins ⟨(.p .mv), [.tmp (nat_lit 0)], (some (nat_lit 5)), none⟩,
  .ins ⟨(.p .nilck), [.tmp (nat_lit 5)], (some (nat_lit 6)), none⟩,
  .ins ⟨(.p (.fieldAddr (nat_lit 17))), [.tmp (nat_lit 6)], (some (nat_lit 7)), none⟩,
  .ins ⟨(.r (.load false (nat_lit 1))), [.tmp (nat_lit 7)], (some (nat_lit 8)), none⟩,
  .ins ⟨(.p .mv), [.tmp (nat_lit 8)], (some (nat_lit 2)), none⟩])
 .ret)))⟩

def c21 : Code' := .fn ⟨(nat_lit 15), [.cell (nat_lit 4) false (nat_lit 1)],
 (.seq (.region [
  .ins ⟨(.a .box), [.tmp (nat_lit 1)], (some (nat_lit 3)), none⟩,
  .ins ⟨(.a (.alloc [(.int .i64 (.ofNat (nat_lit 0)))])), [], (some (nat_lit 4)), none⟩])
 (.seq (.seq (.region [
  .ins ⟨(.p .mv), [.tmp (nat_lit 0)], (some (nat_lit 7)), none⟩,
  .ins ⟨(.c .value), [.const (.func (.func (nat_lit 17)) [] []), .tmp (nat_lit 7)], (some (nat_lit 8)), none⟩])
 (.block (nat_lit 0) (.rangeFunc (.tmp (nat_lit 8)) [(nat_lit 9), (nat_lit 10)] (.seq (.region [
  .ins ⟨(.p .mv), [.tmp (nat_lit 9)], (some (nat_lit 5)), none⟩])
 (.region [
  .ins ⟨(.p .mv), [.tmp (nat_lit 10)], (some (nat_lit 6)), none⟩]))
 (.block (nat_lit 1) (.seq (.region [
  .ins ⟨(.p .mv), [.tmp (nat_lit 5)], (some (nat_lit 11)), none⟩,
  .ins ⟨(.r (.load false (nat_lit 1))), [.tmp (nat_lit 3)], (some (nat_lit 12)), none⟩,
  .ins ⟨(.p (.bini .eql)), [.tmp (nat_lit 11), .tmp (nat_lit 12)], (some (nat_lit 13)), none⟩])
 (.cond (.tmp (nat_lit 13)) (.seq (.region [
  .ins ⟨(.p .mv), [.tmp (nat_lit 6)], (some (nat_lit 14)), none⟩,
  .ins ⟨(.l (.store (nat_lit 1))), [.tmp (nat_lit 4), .tmp (nat_lit 14)], none, none⟩])
 .ret)
 .skip))))))
 (.seq (.region [
  .ins ⟨(.l (.store (nat_lit 1))), [.tmp (nat_lit 4), .const (.int .i64 (.ofNat (nat_lit 0)))], none, none⟩])
 .ret)))⟩

def c24 : Code' := .fn ⟨(nat_lit 32), [.tmp (nat_lit 4), .tmp (nat_lit 5)],
 (.seq (.region [
  .ins ⟨(.a .box), [.tmp (nat_lit 0)], (some (nat_lit 2)), none⟩,
  .ins ⟨(.p .mv), [.const (.slice none (nat_lit 0) (nat_lit 0) (nat_lit 0))], (some (nat_lit 4)), none⟩,
  .ins ⟨(.p .mv), [.const (.int .i64 (.ofNat (nat_lit 0)))], (some (nat_lit 5)), none⟩])
 (.seq (.seq (.region [
  .ins ⟨(.r (.load true (nat_lit 21))), [.tmp (nat_lit 2)], (some (nat_lit 12)), none⟩,
  .ins ⟨(.c .value), [.const (.func (.func (nat_lit 30)) [] []), .tmp (nat_lit 12)], (some (nat_lit 13)), none⟩,
  .ins ⟨(.p .mv), [.tmp (nat_lit 13)], (some (nat_lit 11)), none⟩,
  .ins ⟨(.p (.extract (nat_lit 0))), [.tmp (nat_lit 11)], (some (nat_lit 14)), none⟩,
  .ins ⟨(.p (.extract (nat_lit 1))), [.tmp (nat_lit 11)], (some (nat_lit 15)), none⟩,
  .ins ⟨(.p .mv), [.tmp (nat_lit 14)], (some (nat_lit 6)), none⟩,
  .ins ⟨(.p .mv), [.tmp (nat_lit 15)], (some (nat_lit 7)), none⟩])
 (.seq (.region [
  .ins ⟨(.p .mv), [.tmp (nat_lit 7)], (some (nat_lit 16)), none⟩,
  .ins ⟨(.p (.bini .neq)), [.tmp (nat_lit 16), .const (.int .i64 (.ofNat (nat_lit 0)))], (some (nat_lit 17)), none⟩])
 (.cond (.tmp (nat_lit 17)) (.seq (.region [
  .ins ⟨(.p .mv), [.tmp (nat_lit 7)], (some (nat_lit 18)), none⟩,
  .ins ⟨(.p .mv), [.const (.slice none (nat_lit 0) (nat_lit 0) (nat_lit 0))], (some (nat_lit 4)), none⟩,
  .ins ⟨(.p .mv), [.tmp (nat_lit 18)], (some (nat_lit 5)), none⟩])
 .ret)
 .skip)))
 (.seq (.seq (.region [
  .ins ⟨(.p .mv), [.tmp (nat_lit 1)], (some (nat_lit 19)), none⟩,
  .ins ⟨(.p .lenSl), [.tmp (nat_lit 19)], (some (nat_lit 20)), none⟩,
  .ins ⟨(.p (.bini .gtr)), [.tmp (nat_lit 20), .const (.int .i64 (.ofNat (nat_lit 4096)))], (some (nat_lit 21)), none⟩])
 (.cond (.tmp (nat_lit 21)) (.seq (.region [
  .ins ⟨(.p .mv), [.const (.slice none (nat_lit 0) (nat_lit 0) (nat_lit 0))], (some (nat_lit 4)), none⟩,
  .ins ⟨(.p .mv), [.const (.int .i64 (.ofNat (nat_lit 2)))], (some (nat_lit 5)), none⟩])
 .ret)
 .skip))
 (.seq (.region [
  .ins ⟨(.a (.alloc [(.slice none (nat_lit 0) (nat_lit 0) (nat_lit 0))])), [], (some (nat_lit 8)), none⟩])
 (.seq (.seq (.region [
  .ins ⟨(.r (.load true (nat_lit 21))), [.tmp (nat_lit 2)], (some (nat_lit 22)), none⟩,
  .ins ⟨(.p .mv), [.tmp (nat_lit 1)], (some (nat_lit 23)), none⟩,
  .ins ⟨(.c .value), [.const (.func (.func (nat_lit 26)) [] []), .tmp (nat_lit 22), .tmp (nat_lit 23)], (some (nat_lit 24)), none⟩])
 (.block (nat_lit 0) (.rangeFunc (.tmp (nat_lit 24)) [(nat_lit 25), (nat_lit 26)] (.region [
  .ins ⟨(.a (.alloc [(.int .i64 (.ofNat (nat_lit 0))), (.int .i64 (.ofNat (nat_lit 0))), (.int .i64 (.ofNat (nat_lit 0))), (.slice none (nat_lit 0) (nat_lit 0) (nat_lit 0)), (.slice none (nat_lit 0) (nat_lit 0) (nat_lit 0)), (.bool false), (.int .i64 (.ofNat (nat_lit 0))), (.int .i64 (.ofNat (nat_lit 0)))])), [], (some (nat_lit 10)), none⟩,
  .ins ⟨(.l (.store (nat_lit 8))), [.tmp (nat_lit 10), .tmp (nat_lit 26)], none, none⟩])
 (.block (nat_lit 1) (.region [
  .ins ⟨(.r (.load false (nat_lit 1))), [.tmp (nat_lit 8)], (some (nat_lit 27)), none⟩,
  .ins ⟨(.r (.load true (nat_lit 8))), [.tmp (nat_lit 10)], (some (nat_lit 28)), none⟩,
  .ins ⟨(.a (.buildSlice [(.int .i64 (.ofNat (nat_lit 0))), (.int .i64 (.ofNat (nat_lit 0))), (.int .i64 (.ofNat (nat_lit 0))), (.slice none (nat_lit 0) (nat_lit 0) (nat_lit 0)), (.slice none (nat_lit 0) (nat_lit 0) (nat_lit 0)), (.bool false), (.int .i64 (.ofNat (nat_lit 0))), (.int .i64 (.ofNat (nat_lit 0)))] (nat_lit 1) [((nat_lit 0), (nat_lit 8))])), [.tmp (nat_lit 28)], (some (nat_lit 29)), none⟩,
  .ins ⟨(.l (.append [(.int .i64 (.ofNat (nat_lit 0))), (.int .i64 (.ofNat (nat_lit 0))), (.int .i64 (.ofNat (nat_lit 0))), (.slice none (nat_lit 0) (nat_lit 0) (nat_lit 0)), (.slice none (nat_lit 0) (nat_lit 0) (nat_lit 0)), (.bool false), (.int .i64 (.ofNat (nat_lit 0))), (.int .i64 (.ofNat (nat_lit 0)))] (nat_lit 8) (nat_lit 96))), [.tmp (nat_lit 27), .tmp (nat_lit 29)], (some (nat_lit 30)), none⟩,
  .ins ⟨(.l (.store (nat_lit 1))), [.tmp (nat_lit 8), .tmp (nat_lit 30)], none, none⟩])))))
 (.seq (.region [
  .ins ⟨(.r (.load false (nat_lit 1))), [.tmp (nat_lit 8)], (some (nat_lit 31)), none⟩,
  .ins ⟨(.p .mv), [.tmp (nat_lit 31)], (some (nat_lit 4)), none⟩,
  .ins ⟨(.p .mv), [.const (.int .i64 (.ofNat (nat_lit 0)))], (some (nat_lit 5)), none⟩])
 .ret))))))⟩

def c25 : Code' := .fn ⟨(nat_lit 4), [.cell (nat_lit 0) true (nat_lit 21)],
 (.seq (.region [
  .ins ⟨(.a (.alloc [(.int .i64 (.ofNat (nat_lit 0))), (.int .i64 (.ofNat (nat_lit 0))), (.int .i64 (.ofNat (nat_lit 0))), (.int .i64 (.ofNat (nat_lit 0))), (.int .i64 (.ofNat (nat_lit 0))), (.int .i64 (.ofNat (nat_lit 0))), (.int .i64 (.ofNat (nat_lit 0))), (.int .i64 (.ofNat (nat_lit 0))), (.int .i64 (.ofNat (nat_lit 0))), (.int .i64 (.ofNat (nat_lit 0))), (.int .i64 (.ofNat (nat_lit 0))), (.int .i64 (.ofNat (nat_lit 0))), (.int .i64 (.ofNat (nat_lit 0))), (.int .i64 (.ofNat (nat_lit 0))), (.int .i64 (.ofNat (nat_lit 0))), (.int .i64 (.ofNat (nat_lit 0))), (.int .i64 (.ofNat (nat_lit 0))), (.int .i64 (.ofNat (nat_lit 0))), (.int .i64 (.ofNat (nat_lit 0))), (.int .i64 (.ofNat (nat_lit 0))), (.int .i64 (.ofNat (nat_lit 0)))])), [], (some (nat_lit 0)), none⟩])
 (.seq (.region [
  .ins ⟨(.c .value), [.const (.func (.func (nat_lit 70)) [] [])], (some (nat_lit 1)), none⟩,
  .ins ⟨(.c .value), [.const (.func (.func (nat_lit 70)) [] [])], (some (nat_lit 2)), none⟩,
  .ins ⟨(.p (.build [(.int .i64 (.ofNat (nat_lit 0))), (.int .i64 (.ofNat (nat_lit 0))), (.int .i64 (.ofNat (nat_lit 0))), (.int .i64 (.ofNat (nat_lit 0))), (.int .i64 (.ofNat (nat_lit 0))), (.int .i64 (.ofNat (nat_lit 0))), (.int .i64 (.ofNat (nat_lit 0))), (.int .i64 (.ofNat (nat_lit 0))), (.int .i64 (.ofNat (nat_lit 0))), (.int .i64 (.ofNat (nat_lit 0))), (.int .i64 (.ofNat (nat_lit 0))), (.int .i64 (.ofNat (nat_lit 0))), (.int .i64 (.ofNat (nat_lit 0))), (.int .i64 (.ofNat (nat_lit 0))), (.int .i64 (.ofNat (nat_lit 0))), (.int .i64 (.ofNat (nat_lit 0))), (.int .i64 (.ofNat (nat_lit 0))), (.int .i64 (.ofNat (nat_lit 0))), (.int .i64 (.ofNat (nat_lit 0))), (.int .i64 (.ofNat (nat_lit 0))), (.int .i64 (.ofNat (nat_lit 0)))] [((nat_lit 0), (nat_lit 5)), ((nat_lit 5), (nat_lit 5))])), [.tmp (nat_lit 1), .tmp (nat_lit 2)], (some (nat_lit 3)), none⟩,
  .ins ⟨(.l (.store (nat_lit 21))), [.tmp (nat_lit 0), .tmp (nat_lit 3)], none, none⟩])
 .ret))⟩

def c26 : Code' := .fn ⟨(nat_lit 6), [.tmp (nat_lit 4)],
 (.seq (.region [
  .ins ⟨(.a .box), [.tmp (nat_lit 0)], (some (nat_lit 2)), none⟩,
  .ins ⟨(.a .box), [.tmp (nat_lit 1)], (some (nat_lit 3)), none⟩,
  .ins ⟨(.p .mv), [.const .nilFunc], (some (nat_lit 4)), none⟩])
 (.seq (.region [
  .ins ⟨(.p (.mkfunc (.func (nat_lit 71)) (nat_lit 0))), [.tmp (nat_lit 2), .tmp (nat_lit 3)], (some (nat_lit 5)), none⟩,
  .ins ⟨(.p .mv), [.tmp (nat_lit 5)], (some (nat_lit 4)), none⟩])
 .ret))⟩

def c27 : Code' := .fn ⟨(nat_lit 112), [.tmp (nat_lit 0)],
 (.seq (.region [
  .ins ⟨(.p .mv), [.const (.bool false)], (some (nat_lit 0)), none⟩])
 (.seq (.region [
  .ins ⟨(.c .value), [.const (.func (.func (nat_lit 25)) [] [])], (some (nat_lit 12)), none⟩,
  .ins ⟨(.c .value), [.const (.func (.func (nat_lit 30)) [] []), .tmp (nat_lit 12)], (some (nat_lit 13)), none⟩,
  .ins ⟨(.p .mv), [.tmp (nat_lit 13)], (some (nat_lit 11)), none⟩,
  .ins ⟨(.p (.extract (nat_lit 0))), [.tmp (nat_lit 11)], (some (nat_lit 14)), none⟩,
  .ins ⟨(.p (.extract (nat_lit 1))), [.tmp (nat_lit 11)], (some (nat_lit 15)), none⟩,
  .ins ⟨(.p .mv), [.tmp (nat_lit 14)], (some (nat_lit 1)), none⟩,
  .ins ⟨(.p .mv), [.tmp (nat_lit 15)], (some (nat_lit 2)), none⟩])
 (.seq (.seq (.region [
  .ins ⟨(.p .mv), [.tmp (nat_lit 2)], (some (nat_lit 16)), none⟩,
  .ins ⟨(.p (.bini .neq)), [.tmp (nat_lit 16), .const (.int .i64 (.ofNat (nat_lit 0)))], (some (nat_lit 17)), none⟩,
  .ins ⟨(.p .mv), [.tmp (nat_lit 17)], (some (nat_lit 18)), none⟩,
  .ins ⟨(.p .mv), [.tmp (nat_lit 1)], (some (nat_lit 19)), (some ((nat_lit 18), false))⟩,
  .ins ⟨(.p (.eqnil .ptr false)), [.tmp (nat_lit 19), .const (.ptr none)], (some (nat_lit 20)), (some ((nat_lit 18), false))⟩,
  .ins ⟨(.p .pick), [.tmp (nat_lit 18), .const (.bool true), .tmp (nat_lit 20)], (some (nat_lit 21)), none⟩])
 (.cond (.tmp (nat_lit 21)) (.seq (.region [
  .ins ⟨(.p .mv), [.const (.bool false)], (some (nat_lit 0)), none⟩])
 .ret)
 .skip))
 (.seq (.region [
  .ins ⟨(.p .mv), [.tmp (nat_lit 1)], (some (nat_lit 23)), none⟩,
  .ins ⟨(.c .value), [.const (.func (.func (nat_lit 68)) [] [])], (some (nat_lit 24)), none⟩,
  .ins ⟨(.p (.build [(.int .i64 (.ofNat (nat_lit 0))), (.int .i64 (.ofNat (nat_lit 0))), (.int .i64 (.ofNat (nat_lit 0))), (.int .i64 (.ofNat (nat_lit 0))), (.slice none (nat_lit 0) (nat_lit 0) (nat_lit 0)), (.slice none (nat_lit 0) (nat_lit 0) (nat_lit 0)), (.bool false), (.int .i64 (.ofNat (nat_lit 0))), (.int .i64 (.ofNat (nat_lit 0))), (.int .i64 (.ofNat (nat_lit 0))), (.int .i64 (.ofNat (nat_lit 0))), (.int .i64 (.ofNat (nat_lit 0)))] [((nat_lit 0), (nat_lit 1)), ((nat_lit 4), (nat_lit 1)), ((nat_lit 6), (nat_lit 1))])), [.const (.int .i64 (.ofNat (nat_lit 1))), .tmp (nat_lit 24), .const (.bool true)], (some (nat_lit 25)), none⟩,
  .ins ⟨(.c .value), [.const (.func (.func (nat_lit 28)) [] []), .tmp (nat_lit 23), .tmp (nat_lit 25)], (some (nat_lit 26)), none⟩,
  .ins ⟨(.p .mv), [.tmp (nat_lit 26)], (some (nat_lit 22)), none⟩,
  .ins ⟨(.p (.extract (nat_lit 0))), [.tmp (nat_lit 22)], (some (nat_lit 27)), none⟩,
  .ins ⟨(.p (.extract (nat_lit 1))), [.tmp (nat_lit 22)], (some (nat_lit 28)), none⟩,
  .ins ⟨(.p .mv), [.tmp (nat_lit 27)], (some (nat_lit 3)), none⟩,
  .ins ⟨(.p .mv), [.tmp (nat_lit 28)], (some (nat_lit 4)), none⟩])
 (.seq (.region [
  .ins ⟨(.p .mv), [.tmp (nat_lit 1)], (some (nat_lit 30)), none⟩,
  .ins ⟨(.p (.build [(.int .i64 (.ofNat (nat_lit 0))), (.int .i64 (.ofNat (nat_lit 0))), (.int .i64 (.ofNat (nat_lit 0))), (.int .i64 (.ofNat (nat_lit 0))), (.slice none (nat_lit 0) (nat_lit 0) (nat_lit 0)), (.slice none (nat_lit 0) (nat_lit 0) (nat_lit 0)), (.bool false), (.int .i64 (.ofNat (nat_lit 0))), (.int .i64 (.ofNat (nat_lit 0))), (.int .i64 (.ofNat (nat_lit 0))), (.int .i64 (.ofNat (nat_lit 0))), (.int .i64 (.ofNat (nat_lit 0)))] [((nat_lit 0), (nat_lit 1)), ((nat_lit 1), (nat_lit 1)), ((nat_lit 3), (nat_lit 1))])), [.const (.int .i64 (.ofNat (nat_lit 5))), .const (.int .i64 (.ofNat (nat_lit 2))), .const (.int .i64 (.ofNat (nat_lit 1000)))], (some (nat_lit 31)), none⟩,
  .ins ⟨(.c .value), [.const (.func (.func (nat_lit 28)) [] []), .tmp (nat_lit 30), .tmp (nat_lit 31)], (some (nat_lit 32)), none⟩,
  .ins ⟨(.p .mv), [.tmp (nat_lit 32)], (some (nat_lit 29)), none⟩,
  .ins ⟨(.p (.extract (nat_lit 0))), [.tmp (nat_lit 29)], (some (nat_lit 33)), none⟩,
  .ins ⟨(.p (.extract (nat_lit 1))), [.tmp (nat_lit 29)], (some (nat_lit 34)), none⟩,
  .ins ⟨(.p .mv), [.tmp (nat_lit 33)], (some (nat_lit 5)), none⟩,
  .ins ⟨(.p .mv), [.tmp (nat_lit 34)], (some (nat_lit 6)), none⟩])
 (.seq (.region [
  .ins ⟨(.p .mv), [.tmp (nat_lit 1)], (some (nat_lit 36)), none⟩,
  .ins ⟨(.p (.build [(.str (bs [])), (.str (bs [])), (.bool false)] [((nat_lit 0), (nat_lit 1)), ((nat_lit 1), (nat_lit 1))])), [.const (.str (bs [(nat_lit 58), (nat_lit 115), (nat_lit 116), (nat_lit 97), (nat_lit 116), (nat_lit 117), (nat_lit 115)])), .const (.str (bs [(nat_lit 50), (nat_lit 48), (nat_lit 48)]))], (some (nat_lit 37)), none⟩,
  .ins ⟨(.a (.buildSlice [(.str (bs [])), (.str (bs [])), (.bool false)] (nat_lit 1) [((nat_lit 0), (nat_lit 3))])), [.tmp (nat_lit 37)], (some (nat_lit 38)), none⟩,
  .ins ⟨(.p (.build [(.int .i64 (.ofNat (nat_lit 0))), (.int .i64 (.ofNat (nat_lit 0))), (.int .i64 (.ofNat (nat_lit 0))), (.int .i64 (.ofNat (nat_lit 0))), (.slice none (nat_lit 0) (nat_lit 0) (nat_lit 0)), (.slice none (nat_lit 0) (nat_lit 0) (nat_lit 0)), (.bool false), (.int .i64 (.ofNat (nat_lit 0))), (.int .i64 (.ofNat (nat_lit 0))), (.int .i64 (.ofNat (nat_lit 0))), (.int .i64 (.ofNat (nat_lit 0))), (.int .i64 (.ofNat (nat_lit 0)))] [((nat_lit 0), (nat_lit 1)), ((nat_lit 2), (nat_lit 1)), ((nat_lit 4), (nat_lit 1)), ((nat_lit 6), (nat_lit 1))])), [.const (.int .i64 (.ofNat (nat_lit 3))), .const (.int .i64 (.ofNat (nat_lit 1))), .tmp (nat_lit 38), .const (.bool true)], (some (nat_lit 39)), none⟩,
  .ins ⟨(.c .value), [.const (.func (.func (nat_lit 28)) [] []), .tmp (nat_lit 36), .tmp (nat_lit 39)], (some (nat_lit 40)), none⟩,
  .ins ⟨(.p .mv), [.tmp (nat_lit 40)], (some (nat_lit 35)), none⟩,
  .ins ⟨(.p (.extract (nat_lit 0))), [.tmp (nat_lit 35)], (some (nat_lit 41)), none⟩,
  .ins ⟨(.p (.extract (nat_lit 1))), [.tmp (nat_lit 35)], (some (nat_lit 42)), none⟩,
  .ins ⟨(.p .mv), [.tmp (nat_lit 41)], (some (nat_lit 7)), none⟩,
  .ins ⟨(.p .mv), [.tmp (nat_lit 42)], (some (nat_lit 8)), none⟩])
 (.seq (.region [
  .ins ⟨(.p .mv), [.tmp (nat_lit 1)], (some (nat_lit 44)), none⟩,
  .ins ⟨(.p (.build [(.int .i64 (.ofNat (nat_lit 0))), (.int .i64 (.ofNat (nat_lit 0))), (.int .i64 (.ofNat (nat_lit 0))), (.int .i64 (.ofNat (nat_lit 0))), (.slice none (nat_lit 0) (nat_lit 0) (nat_lit 0)), (.slice none (nat_lit 0) (nat_lit 0) (nat_lit 0)), (.bool false), (.int .i64 (.ofNat (nat_lit 0))), (.int .i64 (.ofNat (nat_lit 0))), (.int .i64 (.ofNat (nat_lit 0))), (.int .i64 (.ofNat (nat_lit 0))), (.int .i64 (.ofNat (nat_lit 0)))] [((nat_lit 0), (nat_lit 1)), ((nat_lit 1), (nat_lit 1)), ((nat_lit 3), (nat_lit 1))])), [.const (.int .i64 (.ofNat (nat_lit 5))), .const (.int .i64 (.ofNat (nat_lit 1))), .const (.int .i64 (.ofNat (nat_lit 1000)))], (some (nat_lit 45)), none⟩,
  .ins ⟨(.c .value), [.const (.func (.func (nat_lit 28)) [] []), .tmp (nat_lit 44), .tmp (nat_lit 45)], (some (nat_lit 46)), none⟩,
  .ins ⟨(.p .mv), [.tmp (nat_lit 46)], (some (nat_lit 43)), none⟩,
  .ins ⟨(.p (.extract (nat_lit 0))), [.tmp (nat_lit 43)], (some (nat_lit 47)), none⟩,
  .ins ⟨(.p (.extract (nat_lit 1))), [.tmp (nat_lit 43)], (some (nat_lit 48)), none⟩,
  .ins ⟨(.p .mv), [.tmp (nat_lit 47)], (some (nat_lit 9)), none⟩,
  .ins ⟨(.p .mv), [.tmp (nat_lit 48)], (some (nat_lit 10)), none⟩])
 (.seq (.region [
  .ins ⟨(.p .mv), [.tmp (nat_lit 3)], (some (nat_lit 49)), none⟩,
  .ins ⟨(.p .lenSl), [.tmp (nat_lit 49)], (some (nat_lit 50)), none⟩,
  .ins ⟨(.p (.bini .eql)), [.tmp (nat_lit 50), .const (.int .i64 (.ofNat (nat_lit 1)))], (some (nat_lit 51)), none⟩,
  .ins ⟨(.p .mv), [.tmp (nat_lit 51)], (some (nat_lit 52)), none⟩,
  .ins ⟨(.p .mv), [.tmp (nat_lit 3)], (some (nat_lit 53)), (some ((nat_lit 52), true))⟩,
  .ins ⟨(.p (.indexAddr (nat_lit 8))), [.tmp (nat_lit 53), .const (.int .i64 (.ofNat (nat_lit 0)))], (some (nat_lit 54)), (some ((nat_lit 52), true))⟩,
  .ins ⟨(.p (.fieldAddr (nat_lit 1))), [.tmp (nat_lit 54)], (some (nat_lit 55)), (some ((nat_lit 52), true))⟩,
  .ins ⟨(.p (.fieldAddr (nat_lit 0))), [.tmp (nat_lit 55)], (some (nat_lit 56)), (some ((nat_lit 52), true))⟩,
  .ins ⟨(.r (.load false (nat_lit 1))), [.tmp (nat_lit 56)], (some (nat_lit 57)), (some ((nat_lit 52), true))⟩,
  .ins ⟨(.p (.bini .eql)), [.tmp (nat_lit 57), .const (.int .i64 (.ofNat (nat_lit 15)))], (some (nat_lit 58)), (some ((nat_lit 52), true))⟩,
  .ins ⟨(.p .pick), [.tmp (nat_lit 52), .tmp (nat_lit 58), .const (.bool false)], (some (nat_lit 59)), none⟩,
  .ins ⟨(.p .mv), [.tmp (nat_lit 59)], (some (nat_lit 60)), none⟩,
  .ins ⟨(.p .mv), [.tmp (nat_lit 5)], (some (nat_lit 61)), (some ((nat_lit 60), true))⟩,
  .ins ⟨(.p .lenSl), [.tmp (nat_lit 61)], (some (nat_lit 62)), (some ((nat_lit 60), true))⟩,
  .ins ⟨(.p (.bini .eql)), [.tmp (nat_lit 62), .const (.int .i64 (.ofNat (nat_lit 1)))], (some (nat_lit 63)), (some ((nat_lit 60), true))⟩,
  .ins ⟨(.p .pick), [.tmp (nat_lit 60), .tmp (nat_lit 63), .const (.bool false)], (some (nat_lit 64)), none⟩,
  .ins ⟨(.p .mv), [.tmp (nat_lit 64)], (some (nat_lit 65)), none⟩,
  .ins ⟨(.p .mv), [.tmp (nat_lit 5)], (some (nat_lit 66)), (some ((nat_lit 65), true))⟩,
  .ins ⟨(.p (.indexAddr (nat_lit 8))), [.tmp (nat_lit 66), .const (.int .i64 (.ofNat (nat_lit 0)))], (some (nat_lit 67)), (some ((nat_lit 65), true))⟩,
  .ins ⟨(.p (.fieldAddr (nat_lit 1))), [.tmp (nat_lit 67)], (some (nat_lit 68)), (some ((nat_lit 65), true))⟩,
  .ins ⟨(.p (.fieldAddr (nat_lit 0))), [.tmp (nat_lit 68)], (some (nat_lit 69)), (some ((nat_lit 65), true))⟩,
  .ins ⟨(.r (.load false (nat_lit 1))), [.tmp (nat_lit 69)], (some (nat_lit 70)), (some ((nat_lit 65), true))⟩,
  .ins ⟨(.p (.bini .eql)), [.tmp (nat_lit 70), .const (.int .i64 (.ofNat (nat_lit 1)))], (some (nat_lit 71)), (some ((nat_lit 65), true))⟩,
  .ins ⟨(.p .pick), [.tmp (nat_lit 65), .tmp (nat_lit 71), .const (.bool false)], (some (nat_lit 72)), none⟩,
  .ins ⟨(.p .mv), [.tmp (nat_lit 72)], (some (nat_lit 73)), none⟩,
  .ins ⟨(.p .mv), [.tmp (nat_lit 5)], (some (nat_lit 74)), (some ((nat_lit 73), true))⟩,
  .ins ⟨(.p (.indexAddr (nat_lit 8))), [.tmp (nat_lit 74), .const (.int .i64 (.ofNat (nat_lit 0)))], (some (nat_lit 75)), (some ((nat_lit 73), true))⟩,
  .ins ⟨(.p (.fieldAddr (nat_lit 0))), [.tmp (nat_lit 75)], (some (nat_lit 76)), (some ((nat_lit 73), true))⟩,
  .ins ⟨(.r (.load false (nat_lit 1))), [.tmp (nat_lit 76)], (some (nat_lit 77)), (some ((nat_lit 73), true))⟩,
  .ins ⟨(.p (.bini .eql)), [.tmp (nat_lit 77), .const (.int .i64 (.ofNat (nat_lit 2)))], (some (nat_lit 78)), (some ((nat_lit 73), true))⟩,
  .ins ⟨(.p .pick), [.tmp (nat_lit 73), .tmp (nat_lit 78), .const (.bool false)], (some (nat_lit 79)), none⟩,
  .ins ⟨(.p .mv), [.tmp (nat_lit 79)], (some (nat_lit 80)), none⟩,
  .ins ⟨(.p .mv), [.tmp (nat_lit 7)], (some (nat_lit 81)), (some ((nat_lit 80), true))⟩,
  .ins ⟨(.p .lenSl), [.tmp (nat_lit 81)], (some (nat_lit 82)), (some ((nat_lit 80), true))⟩,
  .ins ⟨(.p (.bini .eql)), [.tmp (nat_lit 82), .const (.int .i64 (.ofNat (nat_lit 1)))], (some (nat_lit 83)), (some ((nat_lit 80), true))⟩,
  .ins ⟨(.p .pick), [.tmp (nat_lit 80), .tmp (nat_lit 83), .const (.bool false)], (some (nat_lit 84)), none⟩,
  .ins ⟨(.p .mv), [.tmp (nat_lit 84)], (some (nat_lit 85)), none⟩,
  .ins ⟨(.p .mv), [.tmp (nat_lit 10)], (some (nat_lit 86)), (some ((nat_lit 85), true))⟩,
  .ins ⟨(.p (.bini .eql)), [.tmp (nat_lit 86), .const (.int .i64 (.ofNat (nat_lit 0)))], (some (nat_lit 87)), (some ((nat_lit 85), true))⟩,
  .ins ⟨(.p .pick), [.tmp (nat_lit 85), .tmp (nat_lit 87), .const (.bool false)], (some (nat_lit 88)), none⟩,
  .ins ⟨(.p .mv), [.tmp (nat_lit 88)], (some (nat_lit 89)), none⟩,
  .ins ⟨(.p .mv), [.tmp (nat_lit 9)], (some (nat_lit 90)), (some ((nat_lit 89), true))⟩,
  .ins ⟨(.p .lenSl), [.tmp (nat_lit 90)], (some (nat_lit 91)), (some ((nat_lit 89), true))⟩,
  .ins ⟨(.p (.bini .eql)), [.tmp (nat_lit 91), .const (.int .i64 (.ofNat (nat_lit 2)))], (some (nat_lit 92)), (some ((nat_lit 89), true))⟩,
  .ins ⟨(.p .pick), [.tmp (nat_lit 89), .tmp (nat_lit 92), .const (.bool false)], (some (nat_lit 93)), none⟩,
  .ins ⟨(.p .mv), [.tmp (nat_lit 93)], (some (nat_lit 94)), none⟩,
  .ins ⟨(.p .mv), [.tmp (nat_lit 9)], (some (nat_lit 95)), (some ((nat_lit 94), true))⟩,
  .ins ⟨(.p (.indexAddr (nat_lit 8))), [.tmp (nat_lit 95), .const (.int .i64 (.ofNat (nat_lit 1)))], (some (nat_lit 96)), (some ((nat_lit 94), true))⟩,
  .ins ⟨(.p (.fieldAddr (nat_lit 1))), [.tmp (nat_lit 96)], (some (nat_lit 97)), (some ((nat_lit 94), true))⟩,
  .ins ⟨(.p (.fieldAddr (nat_lit 0))), [.tmp (nat_lit 97)], (some (nat_lit 98)), (some ((nat_lit 94), true))⟩,
  .ins ⟨(.r (.load false (nat_lit 1))), [.tmp (nat_lit 98)], (some (nat_lit 99)), (some ((nat_lit 94), true))⟩,
  .ins ⟨(.p (.bini .eql)), [.tmp (nat_lit 99), .const (.int .i64 (.ofNat (nat_lit 13)))], (some (nat_lit 100)), (some ((nat_lit 94), true))⟩,
  .ins ⟨(.p .pick), [.tmp (nat_lit 94), .tmp (nat_lit 100), .const (.bool false)], (some (nat_lit 101)), none⟩,
  .ins ⟨(.p .mv), [.tmp (nat_lit 101)], (some (nat_lit 102)), none⟩,
  .ins ⟨(.p .mv), [.tmp (nat_lit 1)], (some (nat_lit 103)), (some ((nat_lit 102), true))⟩,
  .ins ⟨(.c .value), [.const (.func (.func (nat_lit 34)) [] []), .tmp (nat_lit 103), .const (.int .i64 (.ofNat (nat_lit 1)))], (some (nat_lit 104)), (some ((nat_lit 102), true))⟩,
  .ins ⟨(.p (.bini .eql)), [.tmp (nat_lit 104), .const (.int .i64 (.ofNat (nat_lit 2)))], (some (nat_lit 105)), (some ((nat_lit 102), true))⟩,
  .ins ⟨(.p .pick), [.tmp (nat_lit 102), .tmp (nat_lit 105), .const (.bool false)], (some (nat_lit 106)), none⟩,
  .ins ⟨(.p .mv), [.tmp (nat_lit 106)], (some (nat_lit 107)), none⟩,
  .ins ⟨(.p .mv), [.tmp (nat_lit 1)], (some (nat_lit 108)), (some ((nat_lit 107), true))⟩,
  .ins ⟨(.c .value), [.const (.func (.func (nat_lit 31)) [] []), .tmp (nat_lit 108), .const (.int .i64 (.ofNat (nat_lit 1)))], (some (nat_lit 109)), (some ((nat_lit 107), true))⟩,
  .ins ⟨(.p (.bini .eql)), [.tmp (nat_lit 109), .const (.int .i64 (.ofNat (nat_lit 0)))], (some (nat_lit 110)), (some ((nat_lit 107), true))⟩,
  .ins ⟨(.p .pick), [.tmp (nat_lit 107), .tmp (nat_lit 110), .const (.bool false)], (some (nat_lit 111)), none⟩,
  .ins ⟨(.p .mv), [.tmp (nat_lit 111)], (some (nat_lit 0)), none⟩])
 .ret))))))))⟩

def c28 : Code' := .fn ⟨(nat_lit 26), [.tmp (nat_lit 4), .tmp (nat_lit 5)],
 (.seq (.region [
  .ins ⟨(.a .box), [.tmp (nat_lit 1)], (some (nat_lit 3)), none⟩,
  .ins ⟨(.p .mv), [.const (.slice none (nat_lit 0) (nat_lit 0) (nat_lit 0))], (some (nat_lit 4)), none⟩,
  .ins ⟨(.p .mv), [.const (.int .i64 (.ofNat (nat_lit 0)))], (some (nat_lit 5)), none⟩])
 (.seq (.seq (.region [
  .ins ⟨(.p .mv), [.tmp (nat_lit 0)], (some (nat_lit 8)), none⟩,
  .ins ⟨(.p (.eqnil .ptr false)), [.tmp (nat_lit 8), .const (.ptr none)], (some (nat_lit 9)), none⟩,
  .ins ⟨(.p .mv), [.tmp (nat_lit 9)], (some (nat_lit 10)), none⟩,
  .ins ⟨(.p .mv), [.tmp (nat_lit 0)], (some (nat_lit 11)), (some ((nat_lit 10), false))⟩,
  .ins ⟨(.r (.load true (nat_lit 12))), [.tmp (nat_lit 3)], (some (nat_lit 12)), (some ((nat_lit 10), false))⟩,
  .ins ⟨(.c .value), [.const (.func (.func (nat_lit 72)) [] []), .tmp (nat_lit 11), .tmp (nat_lit 12)], (some (nat_lit 13)), (some ((nat_lit 10), false))⟩,
  .ins ⟨(.p (.un .not)), [.tmp (nat_lit 13)], (some (nat_lit 14)), (some ((nat_lit 10), false))⟩,
  .ins ⟨(.p .pick), [.tmp (nat_lit 10), .const (.bool true), .tmp (nat_lit 14)], (some (nat_lit 15)), none⟩])
 (.cond (.tmp (nat_lit 15)) (.seq (.region [
  .ins ⟨(.p .mv), [.const (.slice none (nat_lit 0) (nat_lit 0) (nat_lit 0))], (some (nat_lit 4)), none⟩,
  .ins ⟨(.p .mv), [.const (.int .i64 (.ofNat (nat_lit 1)))], (some (nat_lit 5)), none⟩])
 .ret)
 .skip))
 (.seq (.region [
  .ins ⟨(.p .mv), [.tmp (nat_lit 0)], (some (nat_lit 17)), none⟩,
  .ins ⟨(.r (.load true (nat_lit 12))), [.tmp (nat_lit 3)], (some (nat_lit 18)), none⟩,
  .ins ⟨(.c .value), [.const (.func (.func (nat_lit 73)) [] []), .tmp (nat_lit 17), .tmp (nat_lit 18)], (some (nat_lit 19)), none⟩,
  .ins ⟨(.p .mv), [.tmp (nat_lit 19)], (some (nat_lit 16)), none⟩,
  .ins ⟨(.p (.extract (nat_lit 0))), [.tmp (nat_lit 16)], (some (nat_lit 20)), none⟩,
  .ins ⟨(.p (.extract (nat_lit 1))), [.tmp (nat_lit 16)], (some (nat_lit 21)), none⟩,
  .ins ⟨(.p .mv), [.tmp (nat_lit 20)], (some (nat_lit 6)), none⟩,
  .ins ⟨(.p .mv), [.tmp (nat_lit 21)], (some (nat_lit 7)), none⟩])
 (.seq (.region [
  .ins ⟨(.p .mv), [.tmp (nat_lit 0)], (some (nat_lit 22)), none⟩,
  .ins ⟨(.c .value), [.const (.func (.func (nat_lit 74)) [] []), .tmp (nat_lit 22)], (some (nat_lit 23)), none⟩])
 (.seq (.region [
  .ins ⟨(.p .mv), [.tmp (nat_lit 6)], (some (nat_lit 24)), none⟩,
  .ins ⟨(.p .mv), [.tmp (nat_lit 7)], (some (nat_lit 25)), none⟩,
  .ins ⟨(.p .mv), [.tmp (nat_lit 24)], (some (nat_lit 4)), none⟩,
  .ins ⟨(.p .mv), [.tmp (nat_lit 25)], (some (nat_lit 5)), none⟩])
 .ret)))))⟩

def c30 : Code' := .fn ⟨(nat_lit 45), [.tmp (nat_lit 2), .tmp (nat_lit 3)],
 (.seq (.region [
  .ins ⟨(.a .box), [.tmp (nat_lit 0)], (some (nat_lit 1)), none⟩,
  .ins ⟨(.p .mv), [.const (.ptr none)], (some (nat_lit 2)), none⟩,
  .ins ⟨(.p .mv), [.const (.int .i64 (.ofNat (nat_lit 0)))], (some (nat_lit 3)), none⟩])
 (.seq (.region [
  .ins ⟨(.c .value), [.const (.func (.func (nat_lit 76)) [] [])], (some (nat_lit 6)), none⟩,
  .ins ⟨(.c .value), [.const (.func (.func (nat_lit 76)) [] [])], (some (nat_lit 7)), none⟩,
  .ins ⟨(.p (.build [(.ptr none), (.ptr none), (.ptr none), (.ptr none), (.int .i64 (.ofNat (nat_lit 0)))] [((nat_lit 2), (nat_lit 1)), ((nat_lit 3), (nat_lit 1))])), [.tmp (nat_lit 6), .tmp (nat_lit 7)], (some (nat_lit 8)), none⟩,
  .ins ⟨(.a .box), [.tmp (nat_lit 8)], (some (nat_lit 9)), none⟩,
  .ins ⟨(.p .mv), [.tmp (nat_lit 9)], (some (nat_lit 4)), none⟩])
 (.seq (.region [
  .ins ⟨(.p .mv), [.const (.int .i64 (.ofNat (nat_lit 0)))], (some (nat_lit 5)), none⟩])
 (.seq (.seq (.region [
  .ins ⟨(.p .mv), [.tmp (nat_lit 4)], (some (nat_lit 11)), none⟩,
  .ins ⟨(.p (.fieldAddr (nat_lit 20))), [.tmp (nat_lit 1)], (some (nat_lit 12)), none⟩,
  .ins ⟨(.r (.load false (nat_lit 1))), [.tmp (nat_lit 12)], (some (nat_lit 13)), none⟩,
  .ins ⟨(.p (.fieldAddr (nat_lit 0))), [.tmp (nat_lit 1)], (some (nat_lit 14)), none⟩,
  .ins ⟨(.r (.load true (nat_lit 5))), [.tmp (nat_lit 14)], (some (nat_lit 15)), none⟩,
  .ins ⟨(.p (.fieldAddr (nat_lit 10))), [.tmp (nat_lit 1)], (some (nat_lit 16)), none⟩,
  .ins ⟨(.r (.load true (nat_lit 5))), [.tmp (nat_lit 16)], (some (nat_lit 17)), none⟩,
  .ins ⟨(.c .value), [.const (.func (.func (nat_lit 67)) [] []), .const (.int .i64 (.ofNat (nat_lit 1))), .tmp (nat_lit 13), .tmp (nat_lit 15), .tmp (nat_lit 17), .const (.int .i64 (.ofNat (nat_lit 0)))], (some (nat_lit 18)), none⟩,
  .ins ⟨(.p .mv), [.tmp (nat_lit 18)], (some (nat_lit 10)), none⟩,
  .ins ⟨(.p (.extract (nat_lit 0))), [.tmp (nat_lit 10)], (some (nat_lit 19)), none⟩,
  .ins ⟨(.p (.extract (nat_lit 1))), [.tmp (nat_lit 10)], (some (nat_lit 20)), none⟩,
  .ins ⟨(.p .nilck), [.tmp (nat_lit 11)], (some (nat_lit 21)), none⟩,
  .ins ⟨(.p (.fieldAddr (nat_lit 0))), [.tmp (nat_lit 21)], (some (nat_lit 22)), none⟩,
  .ins ⟨(.l (.store (nat_lit 1))), [.tmp (nat_lit 22), .tmp (nat_lit 19)], none, none⟩,
  .ins ⟨(.p .mv), [.tmp (nat_lit 20)], (some (nat_lit 5)), none⟩])
 (.seq (.region [
  .ins ⟨(.p .mv), [.tmp (nat_lit 5)], (some (nat_lit 23)), none⟩,
  .ins ⟨(.p (.bini .neq)), [.tmp (nat_lit 23), .const (.int .i64 (.ofNat (nat_lit 0)))], (some (nat_lit 24)), none⟩])
 (.cond (.tmp (nat_lit 24)) (.seq (.region [
  .ins ⟨(.p .mv), [.tmp (nat_lit 5)], (some (nat_lit 25)), none⟩,
  .ins ⟨(.p .mv), [.const (.ptr none)], (some (nat_lit 2)), none⟩,
  .ins ⟨(.p .mv), [.tmp (nat_lit 25)], (some (nat_lit 3)), none⟩])
 .ret)
 .skip)))
 (.seq (.seq (.region [
  .ins ⟨(.p .mv), [.tmp (nat_lit 4)], (some (nat_lit 27)), none⟩,
  .ins ⟨(.p (.fieldAddr (nat_lit 20))), [.tmp (nat_lit 1)], (some (nat_lit 28)), none⟩,
  .ins ⟨(.r (.load false (nat_lit 1))), [.tmp (nat_lit 28)], (some (nat_lit 29)), none⟩,
  .ins ⟨(.p (.fieldAddr (nat_lit 5))), [.tmp (nat_lit 1)], (some (nat_lit 30)), none⟩,
  .ins ⟨(.r (.load true (nat_lit 5))), [.tmp (nat_lit 30)], (some (nat_lit 31)), none⟩,
  .ins ⟨(.p (.fieldAddr (nat_lit 15))), [.tmp (nat_lit 1)], (some (nat_lit 32)), none⟩,
  .ins ⟨(.r (.load true (nat_lit 5))), [.tmp (nat_lit 32)], (some (nat_lit 33)), none⟩,
  .ins ⟨(.c .value), [.const (.func (.func (nat_lit 67)) [] []), .const (.int .i64 (.ofNat (nat_lit 2))), .tmp (nat_lit 29), .tmp (nat_lit 31), .tmp (nat_lit 33), .const (.int .i64 (.ofNat (nat_lit 0)))], (some (nat_lit 34)), none⟩,
  .ins ⟨(.p .mv), [.tmp (nat_lit 34)], (some (nat_lit 26)), none⟩,
  .ins ⟨(.p (.extract (nat_lit 0))), [.tmp (nat_lit 26)], (some (nat_lit 35)), none⟩,
  .ins ⟨(.p (.extract (nat_lit 1))), [.tmp (nat_lit 26)], (some (nat_lit 36)), none⟩,
  .ins ⟨(.p .nilck), [.tmp (nat_lit 27)], (some (nat_lit 37)), none⟩,
  .ins ⟨(.p (.fieldAddr (nat_lit 1))), [.tmp (nat_lit 37)], (some (nat_lit 38)), none⟩,
  .ins ⟨(.l (.store (nat_lit 1))), [.tmp (nat_lit 38), .tmp (nat_lit 35)], none, none⟩,
  .ins ⟨(.p .mv), [.tmp (nat_lit 36)], (some (nat_lit 5)), none⟩])
 (.seq (.region [
  .ins ⟨(.p .mv), [.tmp (nat_lit 5)], (some (nat_lit 39)), none⟩,
  .ins ⟨(.p (.bini .neq)), [.tmp (nat_lit 39), .const (.int .i64 (.ofNat (nat_lit 0)))], (some (nat_lit 40)), none⟩])
 (.cond (.tmp (nat_lit 40)) (.seq (.region [
  .ins ⟨(.p .mv), [.tmp (nat_lit 5)], (some (nat_lit 41)), none⟩,
  .ins ⟨(.p .mv), [.const (.ptr none)], (some (nat_lit 2)), none⟩,
  .ins ⟨(.p .mv), [.tmp (nat_lit 41)], (some (nat_lit 3)), none⟩])
 .ret)
 .skip)))
 (.seq (.region [
  .ins ⟨(.p .mv), [.tmp (nat_lit 4)], (some (nat_lit 42)), none⟩,
  .ins ⟨(.c .value), [.const (.func (.func (nat_lit 74)) [] []), .tmp (nat_lit 42)], (some (nat_lit 43)), none⟩])
 (.seq (.region [
  .ins ⟨(.p .mv), [.tmp (nat_lit 4)], (some (nat_lit 44)), none⟩,
  .ins ⟨(.p .mv), [.tmp (nat_lit 44)], (some (nat_lit 2)), none⟩,
  .ins ⟨(.p .mv), [.const (.int .i64 (.ofNat (nat_lit 0)))], (some (nat_lit 3)), none⟩])
 .ret)))))))⟩

def c31 : Code' := .fn ⟨(nat_lit 15), [.tmp (nat_lit 4)],
 (.seq (.region [
  .ins ⟨(.p .mv), [.const (.int .i64 (.ofNat (nat_lit 0)))], (some (nat_lit 4)), none⟩])
 (.seq (.region [
  .ins ⟨(.p .mv), [.tmp (nat_lit 0)], (some (nat_lit 8)), none⟩,
  .ins ⟨(.p .mv), [.tmp (nat_lit 1)], (some (nat_lit 9)), none⟩,
  .ins ⟨(.c .value), [.const (.func (.func (nat_lit 75)) [] []), .tmp (nat_lit 8), .tmp (nat_lit 9)], (some (nat_lit 10)), none⟩,
  .ins ⟨(.p .mv), [.tmp (nat_lit 10)], (some (nat_lit 7)), none⟩,
  .ins ⟨(.p (.extract (nat_lit 0))), [.tmp (nat_lit 7)], (some (nat_lit 11)), none⟩,
  .ins ⟨(.p (.extract (nat_lit 1))), [.tmp (nat_lit 7)], (some (nat_lit 12)), none⟩,
  .ins ⟨(.p .mv), [.tmp (nat_lit 11)], (some (nat_lit 5)), none⟩,
  .ins ⟨(.p .mv), [.tmp (nat_lit 12)], (some (nat_lit 6)), none⟩])
 (.seq (.region [
  .ins ⟨(.p .mv), [.tmp (nat_lit 5)], (some (nat_lit 13)), none⟩,
  .ins ⟨(.c .value), [.const (.func (.func (nat_lit 19)) [] []), .tmp (nat_lit 13)], (some (nat_lit 14)), none⟩,
  .ins ⟨(.p .mv), [.tmp (nat_lit 14)], (some (nat_lit 4)), none⟩])
 .ret)))⟩

def c34 : Code' := .fn ⟨(nat_lit 15), [.tmp (nat_lit 4)],
 (.seq (.region [
  .ins ⟨(.p .mv), [.const (.int .i64 (.ofNat (nat_lit 0)))], (some (nat_lit 4)), none⟩])
 (.seq (.region [
  .ins ⟨(.p .mv), [.tmp (nat_lit 0)], (some (nat_lit 8)), none⟩,
  .ins ⟨(.c .value), [.const (.func (.func (nat_lit 75)) [] []), .tmp (nat_lit 8), .const (.int .i64 (.ofNat (nat_lit 1)))], (some (nat_lit 9)), none⟩,
  .ins ⟨(.p .mv), [.tmp (nat_lit 9)], (some (nat_lit 7)), none⟩,
  .ins ⟨(.p (.extract (nat_lit 0))), [.tmp (nat_lit 7)], (some (nat_lit 10)), none⟩,
  .ins ⟨(.p (.extract (nat_lit 1))), [.tmp (nat_lit 7)], (some (nat_lit 11)), none⟩,
  .ins ⟨(.p .mv), [.tmp (nat_lit 10)], (some (nat_lit 5)), none⟩,
  .ins ⟨(.p .mv), [.tmp (nat_lit 11)], (some (nat_lit 6)), none⟩])
 (.seq (.region [
  .ins ⟨(.p .mv), [.tmp (nat_lit 5)], (some (nat_lit 12)), none⟩,
  .ins ⟨(.p .mv), [.tmp (nat_lit 1)], (some (nat_lit 13)), none⟩,
  .ins ⟨(.c .value), [.const (.func (.func (nat_lit 21)) [] []), .tmp (nat_lit 12), .tmp (nat_lit 13)], (some (nat_lit 14)), none⟩,
  .ins ⟨(.p .mv), [.tmp (nat_lit 14)], (some (nat_lit 4)), none⟩])
 .ret)))⟩

def c38 : Code' := .fn ⟨(nat_lit 12), [.tmp (nat_lit 2)],
 (.seq (.region [
  .ins ⟨(.p .mv), [.const (.slice none (nat_lit 0) (nat_lit 0) (nat_lit 0))], (some (nat_lit 2)), none⟩])
 (.seq (.region [
  .ins ⟨(.p .mv), [.tmp (nat_lit 0)], (some (nat_lit 4)), none⟩,
  .ins ⟨(.p .nilck), [.tmp (nat_lit 4)], (some (nat_lit 5)), none⟩,
  .ins ⟨(.p (.fieldAddr (nat_lit 22))), [.tmp (nat_lit 5)], (some (nat_lit 6)), none⟩,
  .ins ⟨(.r (.load false (nat_lit 1))), [.tmp (nat_lit 6)], (some (nat_lit 7)), none⟩,
  .ins ⟨(.p .mv), [.tmp (nat_lit 7)], (some (nat_lit 3)), none⟩])
 (.seq (.region [
  .ins ⟨(.p .mv), [.tmp (nat_lit 0)], (some (nat_lit 8)), none⟩,
  .ins ⟨(.p .nilck), [.tmp (nat_lit 8)], (some (nat_lit 9)), none⟩,
  .ins ⟨(.p (.fieldAddr (nat_lit 22))), [.tmp (nat_lit 9)], (some (nat_lit 10)), none⟩,
  .ins ⟨(.l (.store (nat_lit 1))), [.tmp (nat_lit 10), .const (.slice none (nat_lit 0) (nat_lit 0) (nat_lit 0))], none, none⟩])
 (.seq (.region [
  .ins ⟨(.p .mv), [.tmp (nat_lit 3)], (some (nat_lit 11)), none⟩,
  .ins ⟨(.p .mv), [.tmp (nat_lit 11)], (some (nat_lit 2)), none⟩])
 .ret))))⟩

def c39 : Code' := .fn ⟨(nat_lit 96), [.tmp (nat_lit 4)],
 (.seq (.region [
  .ins ⟨(.a .box), [.tmp (nat_lit 0)], (some (nat_lit 2)), none⟩,
  .ins ⟨(.p .mv), [.const (.slice none (nat_lit 0) (nat_lit 0) (nat_lit 0))], (some (nat_lit 4)), none⟩])
 (.scope (.seq (.seq (.region [
  .ins ⟨(.r (.load false (nat_lit 1))), [.tmp (nat_lit 2)], (some (nat_lit 10)), none⟩,
  .ins ⟨(.p (.eqnil .ptr false)), [.tmp (nat_lit 10), .const (.ptr none)], (some (nat_lit 11)), none⟩,
  .ins ⟨(.p .mv), [.tmp (nat_lit 11)], (some (nat_lit 12)), none⟩,
  .ins ⟨(.r (.load false (nat_lit 1))), [.tmp (nat_lit 2)], (some (nat_lit 13)), (some ((nat_lit 12), false))⟩,
  .ins ⟨(.p .nilck), [.tmp (nat_lit 13)], (some (nat_lit 14)), (some ((nat_lit 12), false))⟩,
  .ins ⟨(.p (.fieldAddr (nat_lit 15))), [.tmp (nat_lit 14)], (some (nat_lit 15)), (some ((nat_lit 12), false))⟩,
  .ins ⟨(.r (.load false (nat_lit 1))), [.tmp (nat_lit 15)], (some (nat_lit 16)), (some ((nat_lit 12), false))⟩,
  .ins ⟨(.p .pick), [.tmp (nat_lit 12), .const (.bool true), .tmp (nat_lit 16)], (some (nat_lit 17)), none⟩])
 (.cond (.tmp (nat_lit 17)) (.seq (.region [
  .ins ⟨(.p .mv), [.const (.slice none (nat_lit 0) (nat_lit 0) (nat_lit 0))], (some (nat_lit 4)), none⟩])
 .ret)
 .skip))
 (.seq (.region [
  .ins ⟨(.r (.load false (nat_lit 1))), [.tmp (nat_lit 2)], (some (nat_lit 18)), none⟩,
  .ins ⟨(.p .nilck), [.tmp (nat_lit 18)], (some (nat_lit 19)), none⟩,
  .ins ⟨(.p (.fieldAddr (nat_lit 23))), [.tmp (nat_lit 19)], (some (nat_lit 20)), none⟩,
  .ins ⟨(.l (.store (nat_lit 1))), [.tmp (nat_lit 20), .const (.slice none (nat_lit 0) (nat_lit 0) (nat_lit 0))], none, none⟩])
 (.seq (.region [
  .ins ⟨(.r (.load false (nat_lit 1))), [.tmp (nat_lit 2)], (some (nat_lit 21)), none⟩,
  .ins ⟨(.r (.load false (nat_lit 1))), [.tmp (nat_lit 2)], (some (nat_lit 22)), none⟩,
  .ins ⟨(.p .nilck), [.tmp (nat_lit 22)], (some (nat_lit 23)), none⟩,
  .ins ⟨(.p (.fieldAddr (nat_lit 16))), [.tmp (nat_lit 23)], (some (nat_lit 24)), none⟩,
  .ins ⟨(.r (.load false (nat_lit 1))), [.tmp (nat_lit 24)], (some (nat_lit 25)), none⟩,
  .ins ⟨(.p .mv), [.tmp (nat_lit 25)], (some (nat_lit 26)), none⟩,
  .ins ⟨(.p .mv), [.tmp (nat_lit 1)], (some (nat_lit 27)), (some ((nat_lit 26), false))⟩,
  .ins ⟨(.p .lenSl), [.tmp (nat_lit 27)], (some (nat_lit 28)), (some ((nat_lit 26), false))⟩,
  .ins ⟨(.p (.bini .gtr)), [.tmp (nat_lit 28), .const (.int .i64 (.ofNat (nat_lit 0)))], (some (nat_lit 29)), (some ((nat_lit 26), false))⟩,
  .ins ⟨(.p .pick), [.tmp (nat_lit 26), .const (.bool true), .tmp (nat_lit 29)], (some (nat_lit 30)), none⟩,
  .ins ⟨(.p .nilck), [.tmp (nat_lit 21)], (some (nat_lit 31)), none⟩,
  .ins ⟨(.p (.fieldAddr (nat_lit 16))), [.tmp (nat_lit 31)], (some (nat_lit 32)), none⟩,
  .ins ⟨(.l (.store (nat_lit 1))), [.tmp (nat_lit 32), .tmp (nat_lit 30)], none, none⟩])
 (.seq (.region [
  .ins ⟨(.r (.load false (nat_lit 1))), [.tmp (nat_lit 2)], (some (nat_lit 33)), none⟩,
  .ins ⟨(.p .nilck), [.tmp (nat_lit 33)], (some (nat_lit 34)), none⟩,
  .ins ⟨(.p (.fieldAddr (nat_lit 7))), [.tmp (nat_lit 34)], (some (nat_lit 35)), none⟩,
  .ins ⟨(.r (.load false (nat_lit 1))), [.tmp (nat_lit 35)], (some (nat_lit 36)), none⟩,
  .ins ⟨(.p .mv), [.tmp (nat_lit 1)], (some (nat_lit 37)), none⟩,
  .ins ⟨(.c .value), [.const (.func (.func (nat_lit 84)) [] []), .tmp (nat_lit 36), .tmp (nat_lit 37)], (some (nat_lit 38)), none⟩])
 (.seq .skip
 (.seq (.seq (.region [
  .ins ⟨(.r (.load false (nat_lit 1))), [.tmp (nat_lit 2)], (some (nat_lit 39)), none⟩,
  .ins ⟨(.p .nilck), [.tmp (nat_lit 39)], (some (nat_lit 40)), none⟩,
  .ins ⟨(.p (.fieldAddr (nat_lit 7))), [.tmp (nat_lit 40)], (some (nat_lit 41)), none⟩,
  .ins ⟨(.r (.load false (nat_lit 1))), [.tmp (nat_lit 41)], (some (nat_lit 42)), none⟩,
  .ins ⟨(.c .value), [.const (.func (.func (nat_lit 85)) [] []), .tmp (nat_lit 42)], (some (nat_lit 43)), none⟩])
 (.block (nat_lit 0) (.rangeFunc (.tmp (nat_lit 43)) [(nat_lit 44)] (.region [
  .ins ⟨(.a (.alloc [(.int .i64 (.ofNat (nat_lit 0))), (.int .i64 (.ofNat (nat_lit 0))), (.int .i64 (.ofNat (nat_lit 0))), (.slice none (nat_lit 0) (nat_lit 0) (nat_lit 0))])), [], (some (nat_lit 5)), none⟩,
  .ins ⟨(.l (.store (nat_lit 4))), [.tmp (nat_lit 5), .tmp (nat_lit 44)], none, none⟩])
 (.block (nat_lit 1) (.seq (.region [
  .ins ⟨(.r (.load false (nat_lit 1))), [.tmp (nat_lit 2)], (some (nat_lit 46)), none⟩,
  .ins ⟨(.r (.load true (nat_lit 4))), [.tmp (nat_lit 5)], (some (nat_lit 47)), none⟩,
  .ins ⟨(.c .value), [.const (.func (.func (nat_lit 86)) [] []), .tmp (nat_lit 46), .tmp (nat_lit 47)], (some (nat_lit 48)), none⟩,
  .ins ⟨(.p .mv), [.tmp (nat_lit 48)], (some (nat_lit 45)), none⟩,
  .ins ⟨(.p (.extract (nat_lit 0))), [.tmp (nat_lit 45)], (some (nat_lit 49)), none⟩,
  .ins ⟨(.p (.extract (nat_lit 1))), [.tmp (nat_lit 45)], (some (nat_lit 50)), none⟩,
  .ins ⟨(.a (.alloc [(.slice none (nat_lit 0) (nat_lit 0) (nat_lit 0)), (.int .i64 (.ofNat (nat_lit 0))), (.bool false), (.bool false), (.int .i64 (.ofNat (nat_lit 0))), (.int .i64 (.ofNat (nat_lit 0))), (.int .i64 (.ofNat (nat_lit 0))), (.int .i64 (.ofNat (nat_lit 0))), (.int .i64 (.ofNat (nat_lit 0))), (.slice none (nat_lit 0) (nat_lit 0) (nat_lit 0)), (.int .i64 (.ofNat (nat_lit 0)))])), [], (some (nat_lit 6)), none⟩,
  .ins ⟨(.l (.store (nat_lit 11))), [.tmp (nat_lit 6), .tmp (nat_lit 49)], none, none⟩,
  .ins ⟨(.p .mv), [.tmp (nat_lit 50)], (some (nat_lit 7)), none⟩])
 (.seq (.block (nat_lit 2) (.seq (.region [
  .ins ⟨(.p .mv), [.tmp (nat_lit 7)], (some (nat_lit 52)), none⟩,
  .ins ⟨(.p (.bini .neq)), [.tmp (nat_lit 52), .const (.int .i64 (.ofNat (nat_lit 0)))], (some (nat_lit 53)), none⟩,
  .ins ⟨(.p .mv), [.tmp (nat_lit 53)], (some (nat_lit 51)), none⟩])
 (.cond (.tmp (nat_lit 51)) (.seq (.region [
  .ins ⟨(.r (.load false (nat_lit 1))), [.tmp (nat_lit 2)], (some (nat_lit 54)), none⟩,
  .ins ⟨(.p .mv), [.tmp (nat_lit 7)], (some (nat_lit 55)), none⟩,
  .ins ⟨(.c .value), [.const (.func (.func (nat_lit 87)) [] []), .tmp (nat_lit 54), .tmp (nat_lit 55)], (some (nat_lit 56)), none⟩])
 (.exit (nat_lit 0)))
 (.seq (.region [
  .ins ⟨(.p (.fieldAddr (nat_lit 0))), [.tmp (nat_lit 5)], (some (nat_lit 58)), none⟩,
  .ins ⟨(.r (.load false (nat_lit 1))), [.tmp (nat_lit 58)], (some (nat_lit 59)), none⟩,
  .ins ⟨(.p (.bini .gtr)), [.tmp (nat_lit 59), .const (.int .i64 (.ofNat (nat_lit 9)))], (some (nat_lit 60)), none⟩,
  .ins ⟨(.p .mv), [.tmp (nat_lit 60)], (some (nat_lit 57)), none⟩])
 (.cond (.tmp (nat_lit 57)) (.exit (nat_lit 1))
 .skip)))))
 (.seq (.region [
  .ins ⟨(.r (.load false (nat_lit 1))), [.tmp (nat_lit 2)], (some (nat_lit 61)), none⟩,
  .ins ⟨(.r (.load true (nat_lit 4))), [.tmp (nat_lit 5)], (some (nat_lit 62)), none⟩,
  .ins ⟨(.r (.load true (nat_lit 11))), [.tmp (nat_lit 6)], (some (nat_lit 63)), none⟩,
  .ins ⟨(.c .value), [.const (.func (.func (nat_lit 88)) [] []), .tmp (nat_lit 61), .tmp (nat_lit 62), .tmp (nat_lit 63)], (some (nat_lit 64)), none⟩])
 (.seq (.seq (.region [
  .ins ⟨(.r (.load false (nat_lit 1))), [.tmp (nat_lit 2)], (some (nat_lit 65)), none⟩,
  .ins ⟨(.p .nilck), [.tmp (nat_lit 65)], (some (nat_lit 66)), none⟩,
  .ins ⟨(.p (.fieldAddr (nat_lit 15))), [.tmp (nat_lit 66)], (some (nat_lit 67)), none⟩,
  .ins ⟨(.r (.load false (nat_lit 1))), [.tmp (nat_lit 67)], (some (nat_lit 68)), none⟩])
 (.cond (.tmp (nat_lit 68)) (.exit (nat_lit 0))
 .skip))
 (.region [
  .ins ⟨(.r (.load false (nat_lit 1))), [.tmp (nat_lit 2)], (some (nat_lit 69)), none⟩,
  .ins ⟨(.c .value), [.const (.func (.func (nat_lit 89)) [] []), .tmp (nat_lit 69)], (some (nat_lit 70)), none⟩])))))))))
 (.seq (.seq (.region [
  .ins ⟨(.r (.load false (nat_lit 1))), [.tmp (nat_lit 2)], (some (nat_lit 71)), none⟩,
  .ins ⟨(.p .nilck), [.tmp (nat_lit 71)], (some (nat_lit 72)), none⟩,
  .ins ⟨(.p (.fieldAddr (nat_lit 7))), [.tmp (nat_lit 72)], (some (nat_lit 73)), none⟩,
  .ins ⟨(.r (.load false (nat_lit 1))), [.tmp (nat_lit 73)], (some (nat_lit 74)), none⟩,
  .ins ⟨(.c .value), [.const (.func (.func (nat_lit 90)) [] []), .tmp (nat_lit 74)], (some (nat_lit 75)), none⟩,
  .ins ⟨(.p .mv), [.tmp (nat_lit 75)], (some (nat_lit 8)), none⟩])
 (.seq (.region [
  .ins ⟨(.p .mv), [.tmp (nat_lit 8)], (some (nat_lit 76)), none⟩,
  .ins ⟨(.p (.bini .neq)), [.tmp (nat_lit 76), .const (.int .i64 (.ofNat (nat_lit 0)))], (some (nat_lit 77)), none⟩,
  .ins ⟨(.p .mv), [.tmp (nat_lit 77)], (some (nat_lit 78)), none⟩,
  .ins ⟨(.r (.load false (nat_lit 1))), [.tmp (nat_lit 2)], (some (nat_lit 79)), (some ((nat_lit 78), true))⟩,
  .ins ⟨(.p .nilck), [.tmp (nat_lit 79)], (some (nat_lit 80)), (some ((nat_lit 78), true))⟩,
  .ins ⟨(.p (.fieldAddr (nat_lit 15))), [.tmp (nat_lit 80)], (some (nat_lit 81)), (some ((nat_lit 78), true))⟩,
  .ins ⟨(.r (.load false (nat_lit 1))), [.tmp (nat_lit 81)], (some (nat_lit 82)), (some ((nat_lit 78), true))⟩,
  .ins ⟨(.p (.un .not)), [.tmp (nat_lit 82)], (some (nat_lit 83)), (some ((nat_lit 78), true))⟩,
  .ins ⟨(.p .pick), [.tmp (nat_lit 78), .tmp (nat_lit 83), .const (.bool false)], (some (nat_lit 84)), none⟩])
 (.cond (.tmp (nat_lit 84)) (.region [
  .ins ⟨(.r (.load false (nat_lit 1))), [.tmp (nat_lit 2)], (some (nat_lit 85)), none⟩,
  .ins ⟨(.p .mv), [.tmp (nat_lit 8)], (some (nat_lit 86)), none⟩,
  .ins ⟨(.c .value), [.const (.func (.func (nat_lit 87)) [] []), .tmp (nat_lit 85), .tmp (nat_lit 86)], (some (nat_lit 87)), none⟩])
 .skip)))
 (.seq (.region [
  .ins ⟨(.r (.load false (nat_lit 1))), [.tmp (nat_lit 2)], (some (nat_lit 88)), none⟩,
  .ins ⟨(.p .nilck), [.tmp (nat_lit 88)], (some (nat_lit 89)), none⟩,
  .ins ⟨(.p (.fieldAddr (nat_lit 23))), [.tmp (nat_lit 89)], (some (nat_lit 90)), none⟩,
  .ins ⟨(.r (.load false (nat_lit 1))), [.tmp (nat_lit 90)], (some (nat_lit 91)), none⟩,
  .ins ⟨(.p .mv), [.tmp (nat_lit 91)], (some (nat_lit 9)), none⟩])
 (.seq (.region [
  .ins ⟨(.r (.load false (nat_lit 1))), [.tmp (nat_lit 2)], (some (nat_lit 92)), none⟩,
  .ins ⟨(.p .nilck), [.tmp (nat_lit 92)], (some (nat_lit 93)), none⟩,
  .ins ⟨(.p (.fieldAddr (nat_lit 23))), [.tmp (nat_lit 93)], (some (nat_lit 94)), none⟩,
  .ins ⟨(.l (.store (nat_lit 1))), [.tmp (nat_lit 94), .const (.slice none (nat_lit 0) (nat_lit 0) (nat_lit 0))], none, none⟩])
 (.seq (.region [
  .ins ⟨(.p .mv), [.tmp (nat_lit 9)], (some (nat_lit 95)), none⟩,
  .ins ⟨(.p .mv), [.tmp (nat_lit 95)], (some (nat_lit 4)), none⟩])
 .ret))))))))))))⟩

def c40 : Code' := .fn ⟨(nat_lit 38), [],
 (.seq (.region [
  .ins ⟨(.a .box), [.tmp (nat_lit 1)], (some (nat_lit 3)), none⟩])
 (.seq (.seq (.region [
  .ins ⟨(.p (.fieldAddr (nat_lit 0))), [.tmp (nat_lit 3)], (some (nat_lit 4)), none⟩,
  .ins ⟨(.r (.load false (nat_lit 1))), [.tmp (nat_lit 4)], (some (nat_lit 5)), none⟩])
 (.block (nat_lit 0) (.seq (.region [
  .ins ⟨(.p (.bini .eql)), [.tmp (nat_lit 5), .const (.int .i64 (.ofNat (nat_lit 8)))], (some (nat_lit 7)), none⟩,
  .ins ⟨(.p .mv), [.tmp (nat_lit 7)], (some (nat_lit 6)), none⟩])
 (.cond (.tmp (nat_lit 6)) (.seq (.region [
  .ins ⟨(.p .mv), [.tmp (nat_lit 0)], (some (nat_lit 8)), none⟩,
  .ins ⟨(.p .nilck), [.tmp (nat_lit 8)], (some (nat_lit 9)), none⟩,
  .ins ⟨(.p (.fieldAddr (nat_lit 15))), [.tmp (nat_lit 9)], (some (nat_lit 10)), none⟩,
  .ins ⟨(.r (.load false (nat_lit 1))), [.tmp (nat_lit 10)], (some (nat_lit 11)), none⟩,
  .ins ⟨(.c .value), [.const (.func (.func (nat_lit 91)) [] []), .tmp (nat_lit 11), .const (.int .i64 (.ofNat (nat_lit 1)))], (some (nat_lit 12)), none⟩])
 (.seq (.seq (.region [
  .ins ⟨(.p .mv), [.tmp (nat_lit 0)], (some (nat_lit 13)), none⟩,
  .ins ⟨(.p .nilck), [.tmp (nat_lit 13)], (some (nat_lit 14)), none⟩,
  .ins ⟨(.p (.fieldAddr (nat_lit 13))), [.tmp (nat_lit 14)], (some (nat_lit 15)), none⟩,
  .ins ⟨(.r (.load false (nat_lit 1))), [.tmp (nat_lit 15)], (some (nat_lit 16)), none⟩,
  .ins ⟨(.c .value), [.const (.func (.func (nat_lit 92)) [] []), .tmp (nat_lit 16)], (some (nat_lit 17)), none⟩,
  .ins ⟨(.p (.bini .gtr)), [.tmp (nat_lit 17), .const (.int .i64 (.ofNat (nat_lit 0)))], (some (nat_lit 18)), none⟩])
 (.cond (.tmp (nat_lit 18)) (.region [
  .ins ⟨(.p .mv), [.tmp (nat_lit 0)], (some (nat_lit 19)), none⟩,
  .ins ⟨(.c .value), [.const (.func (.func (nat_lit 60)) [] []), .tmp (nat_lit 19), .const (.int .i64 (.ofNat (nat_lit 1)))], (some (nat_lit 20)), none⟩])
 .skip))
 .ret))
 (.seq (.seq (.region [
  .ins ⟨(.p (.bini .eql)), [.tmp (nat_lit 5), .const (.int .i64 (.ofNat (nat_lit 10)))], (some (nat_lit 22)), none⟩,
  .ins ⟨(.p .mv), [.tmp (nat_lit 22)], (some (nat_lit 21)), none⟩])
 (.cond (.tmp (nat_lit 21)) .skip
 (.seq (.region [
  .ins ⟨(.p (.bini .eql)), [.tmp (nat_lit 5), .const (.int .i64 (.ofNat (nat_lit 9)))], (some (nat_lit 23)), none⟩,
  .ins ⟨(.p .mv), [.tmp (nat_lit 23)], (some (nat_lit 21)), none⟩])
 (.cond (.tmp (nat_lit 21)) .skip
 (.region [
  .ins ⟨(.p (.bini .eql)), [.tmp (nat_lit 5), .const (.int .i64 (.ofNat (nat_lit 7)))], (some (nat_lit 24)), none⟩,
  .ins ⟨(.p .mv), [.tmp (nat_lit 24)], (some (nat_lit 21)), none⟩])))))
 (.cond (.tmp (nat_lit 21)) .ret
 .skip))))))
 (.seq (.region [
  .ins ⟨(.p .mv), [.tmp (nat_lit 0)], (some (nat_lit 25)), none⟩,
  .ins ⟨(.r (.load true (nat_lit 7))), [.tmp (nat_lit 3)], (some (nat_lit 26)), none⟩,
  .ins ⟨(.c .value), [.const (.func (.func (nat_lit 93)) [] []), .tmp (nat_lit 25), .tmp (nat_lit 26)], (some (nat_lit 27)), none⟩])
 (.seq (.seq (.region [
  .ins ⟨(.p (.fieldAddr (nat_lit 0))), [.tmp (nat_lit 3)], (some (nat_lit 28)), none⟩,
  .ins ⟨(.r (.load false (nat_lit 1))), [.tmp (nat_lit 28)], (some (nat_lit 29)), none⟩,
  .ins ⟨(.p (.bini .eql)), [.tmp (nat_lit 29), .const (.int .i64 (.ofNat (nat_lit 11)))], (some (nat_lit 30)), none⟩])
 (.cond (.tmp (nat_lit 30)) (.seq (.region [
  .ins ⟨(.p .mv), [.tmp (nat_lit 0)], (some (nat_lit 31)), none⟩,
  .ins ⟨(.p (.fieldAddr (nat_lit 6))), [.tmp (nat_lit 3)], (some (nat_lit 32)), none⟩,
  .ins ⟨(.r (.load false (nat_lit 1))), [.tmp (nat_lit 32)], (some (nat_lit 33)), none⟩,
  .ins ⟨(.c .value), [.const (.func (.func (nat_lit 94)) [] []), .tmp (nat_lit 31), .tmp (nat_lit 33)], (some (nat_lit 34)), none⟩])
 .ret)
 .skip))
 (.region [
  .ins ⟨(.p .mv), [.tmp (nat_lit 0)], (some (nat_lit 35)), none⟩,
  .ins ⟨(.r (.load true (nat_lit 7))), [.tmp (nat_lit 3)], (some (nat_lit 36)), none⟩,
  .ins ⟨(.c .value), [.const (.func (.func (nat_lit 95)) [] []), .tmp (nat_lit 35), .tmp (nat_lit 36)], (some (nat_lit 37)), none⟩])))))⟩

def c41 : Code' := .fn ⟨(nat_lit 126), [],
 (.scope (.seq (.region [
  .ins ⟨(.p .mv), [.const (.bool false)], (some (nat_lit 4)), none⟩])
 (.seq .skip
 (.seq (.seq (.region [
  .ins ⟨(.p .mv), [.tmp (nat_lit 1)], (some (nat_lit 9)), none⟩,
  .ins ⟨(.p .lenSl), [.tmp (nat_lit 9)], (some (nat_lit 10)), none⟩,
  .ins ⟨(.p .mv), [.const (.int .i64 (.ofNat (nat_lit 0)))], (some (nat_lit 11)), none⟩])
 (.block (nat_lit 0) (.loop (.seq (.region [
  .ins ⟨(.p (.bini .lss)), [.tmp (nat_lit 11), .tmp (nat_lit 10)], (some (nat_lit 12)), none⟩])
 (.seq (.cond (.tmp (nat_lit 12)) .skip
 (.exit (nat_lit 0)))
 (.seq (.block (nat_lit 1) (.seq (.region [
  .ins ⟨(.p (.indexAddr (nat_lit 7))), [.tmp (nat_lit 9), .tmp (nat_lit 11)], (some (nat_lit 13)), none⟩,
  .ins ⟨(.r (.load true (nat_lit 7))), [.tmp (nat_lit 13)], (some (nat_lit 14)), none⟩,
  .ins ⟨(.a (.alloc [(.int .i64 (.ofNat (nat_lit 0))), (.int .i64 (.ofNat (nat_lit 0))), (.slice none (nat_lit 0) (nat_lit 0) (nat_lit 0)), (.slice none (nat_lit 0) (nat_lit 0) (nat_lit 0)), (.bool false), (.int .i64 (.ofNat (nat_lit 0))), (.int .i64 (.ofNat (nat_lit 0)))])), [], (some (nat_lit 6)), none⟩,
  .ins ⟨(.l (.store (nat_lit 7))), [.tmp (nat_lit 6), .tmp (nat_lit 14)], none, none⟩])
 (.seq (.region [
  .ins ⟨(.p (.fieldAddr (nat_lit 0))), [.tmp (nat_lit 6)], (some (nat_lit 15)), none⟩,
  .ins ⟨(.r (.load false (nat_lit 1))), [.tmp (nat_lit 15)], (some (nat_lit 16)), none⟩])
 (.block (nat_lit 2) (.seq (.region [
  .ins ⟨(.p (.bini .eql)), [.tmp (nat_lit 16), .const (.int .i64 (.ofNat (nat_lit 12)))], (some (nat_lit 18)), none⟩,
  .ins ⟨(.p .mv), [.tmp (nat_lit 18)], (some (nat_lit 17)), none⟩])
 (.cond (.tmp (nat_lit 17)) (.seq (.region [
  .ins ⟨(.p .mv), [.tmp (nat_lit 0)], (some (nat_lit 19)), none⟩,
  .ins ⟨(.c .value), [.const (.func (.func (nat_lit 42)) [] []), .tmp (nat_lit 19), .const (.int .i64 (.ofNat (nat_lit 2)))], (some (nat_lit 20)), none⟩])
 (.exit (nat_lit 0)))
 (.seq (.region [
  .ins ⟨(.p (.bini .eql)), [.tmp (nat_lit 16), .const (.int .i64 (.ofNat (nat_lit 11)))], (some (nat_lit 22)), none⟩,
  .ins ⟨(.p .mv), [.tmp (nat_lit 22)], (some (nat_lit 21)), none⟩])
 (.cond (.tmp (nat_lit 21)) (.region [
  .ins ⟨(.p .mv), [.tmp (nat_lit 0)], (some (nat_lit 23)), none⟩,
  .ins ⟨(.p .nilck), [.tmp (nat_lit 23)], (some (nat_lit 24)), none⟩,
  .ins ⟨(.p (.fieldAddr (nat_lit 0))), [.tmp (nat_lit 24)], (some (nat_lit 25)), none⟩,
  .ins ⟨(.r (.load false (nat_lit 1))), [.tmp (nat_lit 25)], (some (nat_lit 26)), none⟩,
  .ins ⟨(.p (.bini .eql)), [.tmp (nat_lit 26), .const (.int .i64 (.ofNat (nat_lit 1)))], (some (nat_lit 27)), none⟩,
  .ins ⟨(.p .mv), [.tmp (nat_lit 27)], (some (nat_lit 4)), none⟩])
 .skip))))))))
 (.region [
  .ins ⟨(.p (.bini .add)), [.tmp (nat_lit 11), .const (.int .i64 (.ofNat (nat_lit 1)))], (some (nat_lit 28)), none⟩,
  .ins ⟨(.p .mv), [.tmp (nat_lit 28)], (some (nat_lit 11)), none⟩])))))))
 (.seq (.seq (.region [
  .ins ⟨(.p .mv), [.tmp (nat_lit 1)], (some (nat_lit 29)), none⟩,
  .ins ⟨(.p .lenSl), [.tmp (nat_lit 29)], (some (nat_lit 30)), none⟩,
  .ins ⟨(.p .mv), [.const (.int .i64 (.ofNat (nat_lit 0)))], (some (nat_lit 31)), none⟩])
 (.block (nat_lit 3) (.loop (.seq (.region [
  .ins ⟨(.p (.bini .lss)), [.tmp (nat_lit 31), .tmp (nat_lit 30)], (some (nat_lit 32)), none⟩])
 (.seq (.cond (.tmp (nat_lit 32)) .skip
 (.exit (nat_lit 3)))
 (.seq (.block (nat_lit 4) (.seq (.region [
  .ins ⟨(.p (.indexAddr (nat_lit 7))), [.tmp (nat_lit 29), .tmp (nat_lit 31)], (some (nat_lit 33)), none⟩,
  .ins ⟨(.r (.load true (nat_lit 7))), [.tmp (nat_lit 33)], (some (nat_lit 34)), none⟩,
  .ins ⟨(.a (.alloc [(.int .i64 (.ofNat (nat_lit 0))), (.int .i64 (.ofNat (nat_lit 0))), (.slice none (nat_lit 0) (nat_lit 0) (nat_lit 0)), (.slice none (nat_lit 0) (nat_lit 0) (nat_lit 0)), (.bool false), (.int .i64 (.ofNat (nat_lit 0))), (.int .i64 (.ofNat (nat_lit 0)))])), [], (some (nat_lit 8)), none⟩,
  .ins ⟨(.l (.store (nat_lit 7))), [.tmp (nat_lit 8), .tmp (nat_lit 34)], none, none⟩])
 (.seq (.region [
  .ins ⟨(.p (.fieldAddr (nat_lit 0))), [.tmp (nat_lit 8)], (some (nat_lit 35)), none⟩,
  .ins ⟨(.r (.load false (nat_lit 1))), [.tmp (nat_lit 35)], (some (nat_lit 36)), none⟩,
  .ins ⟨(.p (.bini .eql)), [.tmp (nat_lit 36), .const (.int .i64 (.ofNat (nat_lit 10)))], (some (nat_lit 37)), none⟩,
  .ins ⟨(.p .mv), [.tmp (nat_lit 37)], (some (nat_lit 38)), none⟩,
  .ins ⟨(.p .mv), [.tmp (nat_lit 0)], (some (nat_lit 39)), (some ((nat_lit 38), true))⟩,
  .ins ⟨(.p .nilck), [.tmp (nat_lit 39)], (some (nat_lit 40)), (some ((nat_lit 38), true))⟩,
  .ins ⟨(.p (.fieldAddr (nat_lit 17))), [.tmp (nat_lit 40)], (some (nat_lit 41)), (some ((nat_lit 38), true))⟩,
  .ins ⟨(.r (.load false (nat_lit 1))), [.tmp (nat_lit 41)], (some (nat_lit 42)), (some ((nat_lit 38), true))⟩,
  .ins ⟨(.p (.bini .eql)), [.tmp (nat_lit 42), .const (.int .i64 (.ofNat (nat_lit 0)))], (some (nat_lit 43)), (some ((nat_lit 38), true))⟩,
  .ins ⟨(.p .pick), [.tmp (nat_lit 38), .tmp (nat_lit 43), .const (.bool false)], (some (nat_lit 44)), none⟩])
 (.cond (.tmp (nat_lit 44)) (.region [
  .ins ⟨(.p .mv), [.tmp (nat_lit 0)], (some (nat_lit 45)), none⟩,
  .ins ⟨(.p .mv), [.tmp (nat_lit 0)], (some (nat_lit 46)), none⟩,
  .ins ⟨(.p .nilck), [.tmp (nat_lit 46)], (some (nat_lit 47)), none⟩,
  .ins ⟨(.p (.fieldAddr (nat_lit 14))), [.tmp (nat_lit 47)], (some (nat_lit 48)), none⟩,
  .ins ⟨(.r (.load false (nat_lit 1))), [.tmp (nat_lit 48)], (some (nat_lit 49)), none⟩,
  .ins ⟨(.p (.fieldAddr (nat_lit 3))), [.tmp (nat_lit 8)], (some (nat_lit 50)), none⟩,
  .ins ⟨(.r (.load false (nat_lit 1))), [.tmp (nat_lit 50)], (some (nat_lit 51)), none⟩,
  .ins ⟨(.p .mv), [.tmp (nat_lit 0)], (some (nat_lit 52)), none⟩,
  .ins ⟨(.p .nilck), [.tmp (nat_lit 52)], (some (nat_lit 53)), none⟩,
  .ins ⟨(.p (.fieldAddr (nat_lit 13))), [.tmp (nat_lit 53)], (some (nat_lit 54)), none⟩,
  .ins ⟨(.r (.load false (nat_lit 1))), [.tmp (nat_lit 54)], (some (nat_lit 55)), none⟩,
  .ins ⟨(.p .mv), [.tmp (nat_lit 0)], (some (nat_lit 57)), none⟩,
  .ins ⟨(.p .nilck), [.tmp (nat_lit 57)], (some (nat_lit 58)), none⟩,
  .ins ⟨(.p (.fieldAddr (nat_lit 13))), [.tmp (nat_lit 58)], (some (nat_lit 59)), none⟩,
  .ins ⟨(.r (.load false (nat_lit 1))), [.tmp (nat_lit 59)], (some (nat_lit 60)), none⟩,
  .ins ⟨(.c .value), [.const (.func (.func (nat_lit 64)) [] []), .tmp (nat_lit 55)], (some (nat_lit 56)), none⟩,
  .again ⟨(.r (.load false (nat_lit 1))), [.tmp (nat_lit 48)], (some (nat_lit 49)), none⟩,
  .again ⟨(.r (.load false (nat_lit 1))), [.tmp (nat_lit 50)], (some (nat_lit 51)), none⟩,
  .again ⟨(.r (.load false (nat_lit 1))), [.tmp (nat_lit 59)], (some (nat_lit 60)), none⟩,
  .ins ⟨(.c .value), [.const (.func (.func (nat_lit 65)) [] []), .tmp (nat_lit 60)], (some (nat_lit 61)), none⟩,
  .again ⟨(.r (.load false (nat_lit 1))), [.tmp (nat_lit 48)], (some (nat_lit 49)), none⟩,
  .again ⟨(.r (.load false (nat_lit 1))), [.tmp (nat_lit 50)], (some (nat_lit 51)), none⟩,
  .ins ⟨(.c .value), [.const (.func (.func (nat_lit 96)) [] []), .tmp (nat_lit 49), .tmp (nat_lit 51), .tmp (nat_lit 56), .tmp (nat_lit 61)], (some (nat_lit 62)), none⟩,
  .ins ⟨(.c .value), [.const (.func (.func (nat_lit 62)) [] []), .tmp (nat_lit 45), .tmp (nat_lit 62)], (some (nat_lit 63)), none⟩])
 .skip))))
 (.region [
  .ins ⟨(.p (.bini .add)), [.tmp (nat_lit 31), .const (.int .i64 (.ofNat (nat_lit 1)))], (some (nat_lit 64)), none⟩,
  .ins ⟨(.p .mv), [.tmp (nat_lit 64)], (some (nat_lit 31)), none⟩])))))))
 (.seq (.seq (.region [
  .ins ⟨(.p .mv), [.tmp (nat_lit 4)], (some (nat_lit 65)), none⟩,
  .ins ⟨(.p .mv), [.tmp (nat_lit 65)], (some (nat_lit 66)), none⟩,
  .ins ⟨(.p .mv), [.tmp (nat_lit 0)], (some (nat_lit 67)), (some ((nat_lit 66), true))⟩,
  .ins ⟨(.p .nilck), [.tmp (nat_lit 67)], (some (nat_lit 68)), (some ((nat_lit 66), true))⟩,
  .ins ⟨(.p (.fieldAddr (nat_lit 17))), [.tmp (nat_lit 68)], (some (nat_lit 69)), (some ((nat_lit 66), true))⟩,
  .ins ⟨(.r (.load false (nat_lit 1))), [.tmp (nat_lit 69)], (some (nat_lit 70)), (some ((nat_lit 66), true))⟩,
  .ins ⟨(.p (.bini .eql)), [.tmp (nat_lit 70), .const (.int .i64 (.ofNat (nat_lit 0)))], (some (nat_lit 71)), (some ((nat_lit 66), true))⟩,
  .ins ⟨(.p .pick), [.tmp (nat_lit 66), .tmp (nat_lit 71), .const (.bool false)], (some (nat_lit 72)), none⟩])
 (.cond (.tmp (nat_lit 72)) (.region [
  .ins ⟨(.p .mv), [.tmp (nat_lit 0)], (some (nat_lit 73)), none⟩,
  .ins ⟨(.p .mv), [.tmp (nat_lit 0)], (some (nat_lit 74)), none⟩,
  .ins ⟨(.p .nilck), [.tmp (nat_lit 74)], (some (nat_lit 75)), none⟩,
  .ins ⟨(.p (.fieldAddr (nat_lit 14))), [.tmp (nat_lit 75)], (some (nat_lit 76)), none⟩,
  .ins ⟨(.r (.load false (nat_lit 1))), [.tmp (nat_lit 76)], (some (nat_lit 77)), none⟩,
  .ins ⟨(.p .mv), [.tmp (nat_lit 0)], (some (nat_lit 78)), none⟩,
  .ins ⟨(.p .nilck), [.tmp (nat_lit 78)], (some (nat_lit 79)), none⟩,
  .ins ⟨(.p (.fieldAddr (nat_lit 13))), [.tmp (nat_lit 79)], (some (nat_lit 80)), none⟩,
  .ins ⟨(.r (.load false (nat_lit 1))), [.tmp (nat_lit 80)], (some (nat_lit 81)), none⟩,
  .ins ⟨(.p .mv), [.tmp (nat_lit 0)], (some (nat_lit 83)), none⟩,
  .ins ⟨(.p .nilck), [.tmp (nat_lit 83)], (some (nat_lit 84)), none⟩,
  .ins ⟨(.p (.fieldAddr (nat_lit 13))), [.tmp (nat_lit 84)], (some (nat_lit 85)), none⟩,
  .ins ⟨(.r (.load false (nat_lit 1))), [.tmp (nat_lit 85)], (some (nat_lit 86)), none⟩,
  .ins ⟨(.c .value), [.const (.func (.func (nat_lit 64)) [] []), .tmp (nat_lit 81)], (some (nat_lit 82)), none⟩,
  .again ⟨(.r (.load false (nat_lit 1))), [.tmp (nat_lit 76)], (some (nat_lit 77)), none⟩,
  .again ⟨(.r (.load false (nat_lit 1))), [.tmp (nat_lit 85)], (some (nat_lit 86)), none⟩,
  .ins ⟨(.c .value), [.const (.func (.func (nat_lit 65)) [] []), .tmp (nat_lit 86)], (some (nat_lit 87)), none⟩,
  .again ⟨(.r (.load false (nat_lit 1))), [.tmp (nat_lit 76)], (some (nat_lit 77)), none⟩,
  .ins ⟨(.c .value), [.const (.func (.func (nat_lit 63)) [] []), .tmp (nat_lit 77), .tmp (nat_lit 82), .tmp (nat_lit 87)], (some (nat_lit 88)), none⟩,
  .ins ⟨(.c .value), [.const (.func (.func (nat_lit 62)) [] []), .tmp (nat_lit 73), .tmp (nat_lit 88)], (some (nat_lit 89)), none⟩])
 .skip))
 (.seq (.seq (.region [
  .ins ⟨(.p .mv), [.tmp (nat_lit 0)], (some (nat_lit 90)), none⟩,
  .ins ⟨(.p .nilck), [.tmp (nat_lit 90)], (some (nat_lit 91)), none⟩,
  .ins ⟨(.p (.fieldAddr (nat_lit 17))), [.tmp (nat_lit 91)], (some (nat_lit 92)), none⟩,
  .ins ⟨(.r (.load false (nat_lit 1))), [.tmp (nat_lit 92)], (some (nat_lit 93)), none⟩,
  .ins ⟨(.p (.bini .eql)), [.tmp (nat_lit 93), .const (.int .i64 (.ofNat (nat_lit 0)))], (some (nat_lit 94)), none⟩])
 (.cond (.tmp (nat_lit 94)) (.region [
  .ins ⟨(.p .mv), [.tmp (nat_lit 0)], (some (nat_lit 95)), none⟩,
  .ins ⟨(.p .mv), [.tmp (nat_lit 0)], (some (nat_lit 96)), none⟩,
  .ins ⟨(.p .nilck), [.tmp (nat_lit 96)], (some (nat_lit 97)), none⟩,
  .ins ⟨(.p (.fieldAddr (nat_lit 14))), [.tmp (nat_lit 97)], (some (nat_lit 98)), none⟩,
  .ins ⟨(.r (.load false (nat_lit 1))), [.tmp (nat_lit 98)], (some (nat_lit 99)), none⟩,
  .ins ⟨(.p .mv), [.tmp (nat_lit 0)], (some (nat_lit 100)), none⟩,
  .ins ⟨(.p .nilck), [.tmp (nat_lit 100)], (some (nat_lit 101)), none⟩,
  .ins ⟨(.p (.fieldAddr (nat_lit 13))), [.tmp (nat_lit 101)], (some (nat_lit 102)), none⟩,
  .ins ⟨(.r (.load false (nat_lit 1))), [.tmp (nat_lit 102)], (some (nat_lit 103)), none⟩,
  .ins ⟨(.p .mv), [.tmp (nat_lit 0)], (some (nat_lit 105)), none⟩,
  .ins ⟨(.p .nilck), [.tmp (nat_lit 105)], (some (nat_lit 106)), none⟩,
  .ins ⟨(.p (.fieldAddr (nat_lit 13))), [.tmp (nat_lit 106)], (some (nat_lit 107)), none⟩,
  .ins ⟨(.r (.load false (nat_lit 1))), [.tmp (nat_lit 107)], (some (nat_lit 108)), none⟩,
  .ins ⟨(.c .value), [.const (.func (.func (nat_lit 64)) [] []), .tmp (nat_lit 103)], (some (nat_lit 104)), none⟩,
  .again ⟨(.r (.load false (nat_lit 1))), [.tmp (nat_lit 98)], (some (nat_lit 99)), none⟩,
  .again ⟨(.r (.load false (nat_lit 1))), [.tmp (nat_lit 107)], (some (nat_lit 108)), none⟩,
  .ins ⟨(.c .value), [.const (.func (.func (nat_lit 65)) [] []), .tmp (nat_lit 108)], (some (nat_lit 109)), none⟩,
  .again ⟨(.r (.load false (nat_lit 1))), [.tmp (nat_lit 98)], (some (nat_lit 99)), none⟩,
  .ins ⟨(.c .value), [.const (.func (.func (nat_lit 97)) [] []), .tmp (nat_lit 99), .tmp (nat_lit 104), .tmp (nat_lit 109)], (some (nat_lit 110)), none⟩,
  .ins ⟨(.c .value), [.const (.func (.func (nat_lit 62)) [] []), .tmp (nat_lit 95), .tmp (nat_lit 110)], (some (nat_lit 111)), none⟩])
 .skip))
 (.seq (.region [
  .ins ⟨(.p .mv), [.tmp (nat_lit 0)], (some (nat_lit 112)), none⟩,
  .ins ⟨(.p .nilck), [.tmp (nat_lit 112)], (some (nat_lit 113)), none⟩,
  .ins ⟨(.p (.fieldAddr (nat_lit 17))), [.tmp (nat_lit 113)], (some (nat_lit 114)), none⟩,
  .ins ⟨(.r (.load false (nat_lit 1))), [.tmp (nat_lit 114)], (some (nat_lit 115)), none⟩,
  .ins ⟨(.p (.bini .eql)), [.tmp (nat_lit 115), .const (.int .i64 (.ofNat (nat_lit 0)))], (some (nat_lit 116)), none⟩])
 (.cond (.tmp (nat_lit 116)) (.seq (.region [
  .ins ⟨(.p .mv), [.tmp (nat_lit 0)], (some (nat_lit 117)), none⟩,
  .ins ⟨(.p .nilck), [.tmp (nat_lit 117)], (some (nat_lit 118)), none⟩,
  .ins ⟨(.p (.fieldAddr (nat_lit 15))), [.tmp (nat_lit 118)], (some (nat_lit 119)), none⟩,
  .ins ⟨(.r (.load false (nat_lit 1))), [.tmp (nat_lit 119)], (some (nat_lit 120)), none⟩,
  .ins ⟨(.c .value), [.const (.func (.func (nat_lit 91)) [] []), .tmp (nat_lit 120), .const (.int .i64 (.ofNat (nat_lit 4)))], (some (nat_lit 121)), none⟩])
 (.seq (.region [
  .ins ⟨(.p .mv), [.tmp (nat_lit 0)], (some (nat_lit 122)), none⟩,
  .ins ⟨(.c .value), [.const (.func (.func (nat_lit 60)) [] []), .tmp (nat_lit 122), .const (.int .i64 (.ofNat (nat_lit 3)))], (some (nat_lit 123)), none⟩])
 (.region [
  .ins ⟨(.p .mv), [.tmp (nat_lit 0)], (some (nat_lit 124)), none⟩,
  .ins ⟨(.c .value), [.const (.func (.func (nat_lit 50)) [] []), .tmp (nat_lit 124)], (some (nat_lit 125)), none⟩])))
 .skip)))))))))⟩

def c43 : Code' := .fn ⟨(nat_lit 6), [.tmp (nat_lit 4)],
 (.seq (.region [
  .ins ⟨(.a .box), [.tmp (nat_lit 0)], (some (nat_lit 2)), none⟩,
  .ins ⟨(.a .box), [.tmp (nat_lit 1)], (some (nat_lit 3)), none⟩,
  .ins ⟨(.p .mv), [.const .nilFunc], (some (nat_lit 4)), none⟩])
 (.seq (.region [
  .ins ⟨(.p (.mkfunc (.func (nat_lit 99)) (nat_lit 0))), [.tmp (nat_lit 2), .tmp (nat_lit 3)], (some (nat_lit 5)), none⟩,
  .ins ⟨(.p .mv), [.tmp (nat_lit 5)], (some (nat_lit 4)), none⟩])
 .ret))⟩

def c45 : Code' := .fn ⟨(nat_lit 8), [.tmp (nat_lit 2)],
 (.seq (.region [
  .ins ⟨(.p .mv), [.const (.slice none (nat_lit 0) (nat_lit 0) (nat_lit 0))], (some (nat_lit 2)), none⟩])
 (.seq (.seq (.region [
  .ins ⟨(.p .mv), [.tmp (nat_lit 0)], (some (nat_lit 3)), none⟩,
  .ins ⟨(.p (.eqnil .sl false)), [.tmp (nat_lit 3), .const (.slice none (nat_lit 0) (nat_lit 0) (nat_lit 0))], (some (nat_lit 4)), none⟩])
 (.cond (.tmp (nat_lit 4)) (.seq (.region [
  .ins ⟨(.p .mv), [.const (.slice none (nat_lit 0) (nat_lit 0) (nat_lit 0))], (some (nat_lit 2)), none⟩])
 .ret)
 .skip))
 (.seq (.region [
  .ins ⟨(.a (.buildSlice [] (nat_lit 0) [])), [], (some (nat_lit 5)), none⟩,
  .ins ⟨(.p .mv), [.tmp (nat_lit 0)], (some (nat_lit 6)), none⟩,
  .ins ⟨(.l (.append [(.int .u8 (.ofNat (nat_lit 0)))] (nat_lit 1) (nat_lit 1))), [.tmp (nat_lit 5), .tmp (nat_lit 6)], (some (nat_lit 7)), none⟩,
  .ins ⟨(.p .mv), [.tmp (nat_lit 7)], (some (nat_lit 2)), none⟩])
 .ret)))⟩

def c46 : Code' := .fn ⟨(nat_lit 36), [.tmp (nat_lit 4)],
 (.seq (.region [
  .ins ⟨(.p .mv), [.const (.slice none (nat_lit 0) (nat_lit 0) (nat_lit 0))], (some (nat_lit 4)), none⟩])
 (.seq (.seq (.region [
  .ins ⟨(.p .mv), [.tmp (nat_lit 0)], (some (nat_lit 6)), none⟩,
  .ins ⟨(.p (.eqnil .ptr false)), [.tmp (nat_lit 6), .const (.ptr none)], (some (nat_lit 7)), none⟩,
  .ins ⟨(.p .mv), [.tmp (nat_lit 7)], (some (nat_lit 8)), none⟩,
  .ins ⟨(.p .mv), [.tmp (nat_lit 1)], (some (nat_lit 9)), (some ((nat_lit 8), false))⟩,
  .ins ⟨(.p (.bini .lss)), [.tmp (nat_lit 9), .const (.int .i64 (.ofNat (nat_lit 1)))], (some (nat_lit 10)), (some ((nat_lit 8), false))⟩,
  .ins ⟨(.p .pick), [.tmp (nat_lit 8), .const (.bool true), .tmp (nat_lit 10)], (some (nat_lit 11)), none⟩])
 (.cond (.tmp (nat_lit 11)) (.seq (.region [
  .ins ⟨(.p .mv), [.const (.slice none (nat_lit 0) (nat_lit 0) (nat_lit 0))], (some (nat_lit 4)), none⟩])
 .ret)
 .skip))
 (.seq (.region [
  .ins ⟨(.p .mv), [.tmp (nat_lit 1)], (some (nat_lit 12)), none⟩,
  .ins ⟨(.p .mv), [.tmp (nat_lit 0)], (some (nat_lit 13)), none⟩,
  .ins ⟨(.p .nilck), [.tmp (nat_lit 13)], (some (nat_lit 14)), none⟩,
  .ins ⟨(.p (.fieldAddr (nat_lit 14))), [.tmp (nat_lit 14)], (some (nat_lit 15)), none⟩,
  .ins ⟨(.r (.load false (nat_lit 1))), [.tmp (nat_lit 15)], (some (nat_lit 16)), none⟩,
  .ins ⟨(.p .lenSl), [.tmp (nat_lit 16)], (some (nat_lit 17)), none⟩,
  .ins ⟨(.p .min), [.tmp (nat_lit 12), .tmp (nat_lit 17)], (some (nat_lit 18)), none⟩,
  .ins ⟨(.p .mv), [.tmp (nat_lit 18)], (some (nat_lit 1)), none⟩])
 (.seq (.region [
  .ins ⟨(.p .mv), [.tmp (nat_lit 0)], (some (nat_lit 19)), none⟩,
  .ins ⟨(.p .nilck), [.tmp (nat_lit 19)], (some (nat_lit 20)), none⟩,
  .ins ⟨(.p (.fieldAddr (nat_lit 14))), [.tmp (nat_lit 20)], (some (nat_lit 21)), none⟩,
  .ins ⟨(.r (.load false (nat_lit 1))), [.tmp (nat_lit 21)], (some (nat_lit 22)), none⟩,
  .ins ⟨(.p .mv), [.tmp (nat_lit 1)], (some (nat_lit 23)), none⟩,
  .ins ⟨(.p (.slice (nat_lit 1) false true)), [.tmp (nat_lit 22), .tmp (nat_lit 23)], (some (nat_lit 24)), none⟩,
  .ins ⟨(.c .value), [.const (.func (.func (nat_lit 45)) [] []), .tmp (nat_lit 24)], (some (nat_lit 25)), none⟩,
  .ins ⟨(.p .mv), [.tmp (nat_lit 25)], (some (nat_lit 5)), none⟩])
 (.seq (.region [
  .ins ⟨(.p .mv), [.tmp (nat_lit 0)], (some (nat_lit 26)), none⟩,
  .ins ⟨(.p .mv), [.tmp (nat_lit 0)], (some (nat_lit 27)), none⟩,
  .ins ⟨(.p .nilck), [.tmp (nat_lit 27)], (some (nat_lit 28)), none⟩,
  .ins ⟨(.p (.fieldAddr (nat_lit 14))), [.tmp (nat_lit 28)], (some (nat_lit 29)), none⟩,
  .ins ⟨(.r (.load false (nat_lit 1))), [.tmp (nat_lit 29)], (some (nat_lit 30)), none⟩,
  .ins ⟨(.p .mv), [.tmp (nat_lit 1)], (some (nat_lit 31)), none⟩,
  .ins ⟨(.c .value), [.const (.func (.func (nat_lit 105)) [] []), .tmp (nat_lit 30), .const (.int .i64 (.ofNat (nat_lit 0))), .tmp (nat_lit 31)], (some (nat_lit 32)), none⟩,
  .ins ⟨(.p .nilck), [.tmp (nat_lit 26)], (some (nat_lit 33)), none⟩,
  .ins ⟨(.p (.fieldAddr (nat_lit 14))), [.tmp (nat_lit 33)], (some (nat_lit 34)), none⟩,
  .ins ⟨(.l (.store (nat_lit 1))), [.tmp (nat_lit 34), .tmp (nat_lit 32)], none, none⟩])
 (.seq (.region [
  .ins ⟨(.p .mv), [.tmp (nat_lit 5)], (some (nat_lit 35)), none⟩,
  .ins ⟨(.p .mv), [.tmp (nat_lit 35)], (some (nat_lit 4)), none⟩])
 .ret))))))⟩

def c47 : Code' := .fn ⟨(nat_lit 12), [.tmp (nat_lit 2)],
 (.seq (.region [
  .ins ⟨(.p .mv), [.const (.int .i64 (.ofNat (nat_lit 0)))], (some (nat_lit 2)), none⟩])
 (.seq (.block (nat_lit 0) (.seq (.region [
  .ins ⟨(.p .mv), [.tmp (nat_lit 0)], (some (nat_lit 4)), none⟩,
  .ins ⟨(.p (.eqnil .ptr false)), [.tmp (nat_lit 4), .const (.ptr none)], (some (nat_lit 5)), none⟩,
  .ins ⟨(.p .mv), [.tmp (nat_lit 5)], (some (nat_lit 3)), none⟩])
 (.cond (.tmp (nat_lit 3)) (.seq (.region [
  .ins ⟨(.p .mv), [.const (.int .i64 (.ofNat (nat_lit 1)))], (some (nat_lit 2)), none⟩])
 .ret)
 (.seq (.region [
  .ins ⟨(.p .mv), [.tmp (nat_lit 0)], (some (nat_lit 7)), none⟩,
  .ins ⟨(.p .nilck), [.tmp (nat_lit 7)], (some (nat_lit 8)), none⟩,
  .ins ⟨(.p (.fieldAddr (nat_lit 17))), [.tmp (nat_lit 8)], (some (nat_lit 9)), none⟩,
  .ins ⟨(.r (.load false (nat_lit 1))), [.tmp (nat_lit 9)], (some (nat_lit 10)), none⟩,
  .ins ⟨(.p (.bini .neq)), [.tmp (nat_lit 10), .const (.int .i64 (.ofNat (nat_lit 0)))], (some (nat_lit 11)), none⟩,
  .ins ⟨(.p .mv), [.tmp (nat_lit 11)], (some (nat_lit 6)), none⟩])
 (.cond (.tmp (nat_lit 6)) (.seq (.region [
  .ins ⟨(.p .mv), [.const (.int .i64 (.ofNat (nat_lit 11)))], (some (nat_lit 2)), none⟩])
 .ret)
 .skip)))))
 (.seq (.region [
  .ins ⟨(.p .mv), [.const (.int .i64 (.ofNat (nat_lit 0)))], (some (nat_lit 2)), none⟩])
 .ret)))⟩

def c48 : Code' := .fn ⟨(nat_lit 86), [.tmp (nat_lit 6), .tmp (nat_lit 7)],
 (.seq (.region [
  .ins ⟨(.p .mv), [.const (.int .i64 (.ofNat (nat_lit 0)))], (some (nat_lit 6)), none⟩,
  .ins ⟨(.p .mv), [.const (.int .i64 (.ofNat (nat_lit 0)))], (some (nat_lit 7)), none⟩])
 (.seq (.seq (.region [
  .ins ⟨(.p .mv), [.tmp (nat_lit 0)], (some (nat_lit 13)), none⟩,
  .ins ⟨(.c .value), [.const (.func (.func (nat_lit 106)) [] []), .tmp (nat_lit 13)], (some (nat_lit 14)), none⟩,
  .ins ⟨(.p .mv), [.tmp (nat_lit 14)], (some (nat_lit 8)), none⟩])
 (.seq (.region [
  .ins ⟨(.p .mv), [.tmp (nat_lit 8)], (some (nat_lit 15)), none⟩,
  .ins ⟨(.p (.bini .neq)), [.tmp (nat_lit 15), .const (.int .i64 (.ofNat (nat_lit 0)))], (some (nat_lit 16)), none⟩])
 (.cond (.tmp (nat_lit 16)) (.seq (.region [
  .ins ⟨(.p .mv), [.tmp (nat_lit 8)], (some (nat_lit 17)), none⟩,
  .ins ⟨(.p .mv), [.const (.int .i64 (.ofNat (nat_lit 0)))], (some (nat_lit 6)), none⟩,
  .ins ⟨(.p .mv), [.tmp (nat_lit 17)], (some (nat_lit 7)), none⟩])
 .ret)
 .skip)))
 (.seq (.seq (.region [
  .ins ⟨(.p .mv), [.tmp (nat_lit 0)], (some (nat_lit 18)), none⟩,
  .ins ⟨(.p .nilck), [.tmp (nat_lit 18)], (some (nat_lit 19)), none⟩,
  .ins ⟨(.p (.fieldAddr (nat_lit 0))), [.tmp (nat_lit 19)], (some (nat_lit 20)), none⟩,
  .ins ⟨(.r (.load false (nat_lit 1))), [.tmp (nat_lit 20)], (some (nat_lit 21)), none⟩,
  .ins ⟨(.p (.bini .neq)), [.tmp (nat_lit 21), .const (.int .i64 (.ofNat (nat_lit 1)))], (some (nat_lit 22)), none⟩,
  .ins ⟨(.p .mv), [.tmp (nat_lit 22)], (some (nat_lit 23)), none⟩,
  .ins ⟨(.p .mv), [.tmp (nat_lit 0)], (some (nat_lit 24)), (some ((nat_lit 23), false))⟩,
  .ins ⟨(.p .nilck), [.tmp (nat_lit 24)], (some (nat_lit 25)), (some ((nat_lit 23), false))⟩,
  .ins ⟨(.p (.fieldAddr (nat_lit 21))), [.tmp (nat_lit 25)], (some (nat_lit 26)), (some ((nat_lit 23), false))⟩,
  .ins ⟨(.r (.load false (nat_lit 1))), [.tmp (nat_lit 26)], (some (nat_lit 27)), (some ((nat_lit 23), false))⟩,
  .ins ⟨(.p (.bini .geq)), [.tmp (nat_lit 27), .const (.int .i64 (.ofNat (nat_lit 0)))], (some (nat_lit 28)), (some ((nat_lit 23), false))⟩,
  .ins ⟨(.p .pick), [.tmp (nat_lit 23), .const (.bool true), .tmp (nat_lit 28)], (some (nat_lit 29)), none⟩,
  .ins ⟨(.p .mv), [.tmp (nat_lit 29)], (some (nat_lit 30)), none⟩,
  .ins ⟨(.p .mv), [.tmp (nat_lit 0)], (some (nat_lit 31)), (some ((nat_lit 30), false))⟩,
  .ins ⟨(.p .nilck), [.tmp (nat_lit 31)], (some (nat_lit 32)), (some ((nat_lit 30), false))⟩,
  .ins ⟨(.p (.fieldAddr (nat_lit 22))), [.tmp (nat_lit 32)], (some (nat_lit 33)), (some ((nat_lit 30), false))⟩,
  .ins ⟨(.r (.load false (nat_lit 1))), [.tmp (nat_lit 33)], (some (nat_lit 34)), (some ((nat_lit 30), false))⟩,
  .ins ⟨(.p (.bini .geq)), [.tmp (nat_lit 34), .const (.int .i64 (.ofNat (nat_lit 0)))], (some (nat_lit 35)), (some ((nat_lit 30), false))⟩,
  .ins ⟨(.p .pick), [.tmp (nat_lit 30), .const (.bool true), .tmp (nat_lit 35)], (some (nat_lit 36)), none⟩])
 (.cond (.tmp (nat_lit 36)) (.seq (.region [
  .ins ⟨(.p .mv), [.const (.int .i64 (.ofNat (nat_lit 0)))], (some (nat_lit 6)), none⟩,
  .ins ⟨(.p .mv), [.const (.int .i64 (.ofNat (nat_lit 8)))], (some (nat_lit 7)), none⟩])
 .ret)
 .skip))
 (.seq (.seq (.region [
  .ins ⟨(.p .mv), [.tmp (nat_lit 1)], (some (nat_lit 37)), none⟩,
  .ins ⟨(.c .value), [.const (.func (.func (nat_lit 107)) [] []), .tmp (nat_lit 37)], (some (nat_lit 38)), none⟩,
  .ins ⟨(.p .mv), [.tmp (nat_lit 38)], (some (nat_lit 9)), none⟩])
 (.seq (.region [
  .ins ⟨(.p .mv), [.tmp (nat_lit 9)], (some (nat_lit 39)), none⟩,
  .ins ⟨(.p (.bini .neq)), [.tmp (nat_lit 39), .const (.int .i64 (.ofNat (nat_lit 0)))], (some (nat_lit 40)), none⟩])
 (.cond (.tmp (nat_lit 40)) (.seq (.region [
  .ins ⟨(.p .mv), [.tmp (nat_lit 9)], (some (nat_lit 41)), none⟩,
  .ins ⟨(.p .mv), [.const (.int .i64 (.ofNat (nat_lit 0)))], (some (nat_lit 6)), none⟩,
  .ins ⟨(.p .mv), [.tmp (nat_lit 41)], (some (nat_lit 7)), none⟩])
 .ret)
 .skip)))
 (.seq (.seq (.region [
  .ins ⟨(.p .mv), [.tmp (nat_lit 0)], (some (nat_lit 42)), none⟩,
  .ins ⟨(.p .mv), [.tmp (nat_lit 1)], (some (nat_lit 43)), none⟩,
  .ins ⟨(.c .value), [.const (.func (.func (nat_lit 108)) [] []), .tmp (nat_lit 42), .tmp (nat_lit 43)], (some (nat_lit 44)), none⟩,
  .ins ⟨(.p .mv), [.tmp (nat_lit 44)], (some (nat_lit 10)), none⟩])
 (.seq (.region [
  .ins ⟨(.p .mv), [.tmp (nat_lit 10)], (some (nat_lit 45)), none⟩,
  .ins ⟨(.p (.bini .neq)), [.tmp (nat_lit 45), .const (.int .i64 (.ofNat (nat_lit 0)))], (some (nat_lit 46)), none⟩])
 (.cond (.tmp (nat_lit 46)) (.seq (.region [
  .ins ⟨(.p .mv), [.tmp (nat_lit 10)], (some (nat_lit 47)), none⟩,
  .ins ⟨(.p .mv), [.const (.int .i64 (.ofNat (nat_lit 0)))], (some (nat_lit 6)), none⟩,
  .ins ⟨(.p .mv), [.tmp (nat_lit 47)], (some (nat_lit 7)), none⟩])
 .ret)
 .skip)))
 (.seq (.seq (.region [
  .ins ⟨(.p .mv), [.tmp (nat_lit 0)], (some (nat_lit 48)), none⟩,
  .ins ⟨(.c .value), [.const (.func (.func (nat_lit 109)) [] []), .tmp (nat_lit 48)], (some (nat_lit 49)), none⟩])
 (.cond (.tmp (nat_lit 49)) (.seq (.region [
  .ins ⟨(.p .mv), [.const (.int .i64 (.ofNat (nat_lit 0)))], (some (nat_lit 6)), none⟩,
  .ins ⟨(.p .mv), [.const (.int .i64 (.ofNat (nat_lit 9)))], (some (nat_lit 7)), none⟩])
 .ret)
 .skip))
 (.seq (.seq (.region [
  .ins ⟨(.p .mv), [.tmp (nat_lit 0)], (some (nat_lit 50)), none⟩,
  .ins ⟨(.p .nilck), [.tmp (nat_lit 50)], (some (nat_lit 51)), none⟩,
  .ins ⟨(.p (.fieldAddr (nat_lit 19))), [.tmp (nat_lit 51)], (some (nat_lit 52)), none⟩,
  .ins ⟨(.r (.load false (nat_lit 1))), [.tmp (nat_lit 52)], (some (nat_lit 53)), none⟩,
  .ins ⟨(.p (.bini .gtr)), [.tmp (nat_lit 53), .const (.int .i64 (.ofNat (nat_lit 2147483647)))], (some (nat_lit 54)), none⟩])
 (.cond (.tmp (nat_lit 54)) (.seq (.region [
  .ins ⟨(.p .mv), [.const (.int .i64 (.ofNat (nat_lit 0)))], (some (nat_lit 6)), none⟩,
  .ins ⟨(.p .mv), [.const (.int .i64 (.ofNat (nat_lit 2)))], (some (nat_lit 7)), none⟩])
 .ret)
 .skip))
 (.seq (.region [
  .ins ⟨(.p .mv), [.tmp (nat_lit 0)], (some (nat_lit 55)), none⟩,
  .ins ⟨(.p .nilck), [.tmp (nat_lit 55)], (some (nat_lit 56)), none⟩,
  .ins ⟨(.p (.fieldAddr (nat_lit 19))), [.tmp (nat_lit 56)], (some (nat_lit 57)), none⟩,
  .ins ⟨(.r (.load false (nat_lit 1))), [.tmp (nat_lit 57)], (some (nat_lit 58)), none⟩,
  .ins ⟨(.p .mv), [.tmp (nat_lit 0)], (some (nat_lit 59)), none⟩,
  .ins ⟨(.c .value), [.const (.func (.func (nat_lit 110)) [] []), .tmp (nat_lit 59)], (some (nat_lit 60)), none⟩,
  .ins ⟨(.p .mv), [.tmp (nat_lit 58)], (some (nat_lit 11)), none⟩,
  .ins ⟨(.p .mv), [.tmp (nat_lit 60)], (some (nat_lit 12)), none⟩,
  .again ⟨(.r (.load false (nat_lit 1))), [.tmp (nat_lit 57)], (some (nat_lit 58)), none⟩])
 (.seq (.region [
  .ins ⟨(.p .mv), [.tmp (nat_lit 0)], (some (nat_lit 61)), none⟩,
  .ins ⟨(.p .nilck), [.tmp (nat_lit 61)], (some (nat_lit 62)), none⟩,
  .ins ⟨(.p (.fieldAddr (nat_lit 19))), [.tmp (nat_lit 62)], (some (nat_lit 63)), none⟩,
  .ins ⟨(.r (.load false (nat_lit 1))), [.tmp (nat_lit 63)], (some (nat_lit 64)), none⟩,
  .ins ⟨(.p (.bini .add)), [.tmp (nat_lit 64), .const (.int .i64 (.ofNat (nat_lit 2)))], (some (nat_lit 65)), none⟩,
  .ins ⟨(.p .nilck), [.tmp (nat_lit 61)], (some (nat_lit 66)), none⟩,
  .ins ⟨(.p (.fieldAddr (nat_lit 19))), [.tmp (nat_lit 66)], (some (nat_lit 67)), none⟩,
  .ins ⟨(.l (.store (nat_lit 1))), [.tmp (nat_lit 67), .tmp (nat_lit 65)], none, none⟩])
 (.seq (.region [
  .ins ⟨(.p .mv), [.tmp (nat_lit 12)], (some (nat_lit 68)), none⟩,
  .ins ⟨(.p .mv), [.tmp (nat_lit 2)], (some (nat_lit 69)), none⟩,
  .ins ⟨(.p .nilck), [.tmp (nat_lit 68)], (some (nat_lit 70)), none⟩,
  .ins ⟨(.p (.fieldAddr (nat_lit 6))), [.tmp (nat_lit 70)], (some (nat_lit 71)), none⟩,
  .ins ⟨(.l (.store (nat_lit 1))), [.tmp (nat_lit 71), .tmp (nat_lit 69)], none, none⟩])
 (.seq (.region [
  .ins ⟨(.p .mv), [.tmp (nat_lit 0)], (some (nat_lit 72)), none⟩,
  .ins ⟨(.p .nilck), [.tmp (nat_lit 72)], (some (nat_lit 73)), none⟩,
  .ins ⟨(.p (.fieldAddr (nat_lit 13))), [.tmp (nat_lit 73)], (some (nat_lit 74)), none⟩,
  .ins ⟨(.r (.load false (nat_lit 1))), [.tmp (nat_lit 74)], (some (nat_lit 75)), none⟩,
  .ins ⟨(.p .mv), [.tmp (nat_lit 11)], (some (nat_lit 76)), none⟩,
  .ins ⟨(.p .mv), [.tmp (nat_lit 12)], (some (nat_lit 77)), none⟩,
  .ins ⟨(.c .value), [.const (.func (.func (nat_lit 111)) [] []), .tmp (nat_lit 75), .tmp (nat_lit 76), .tmp (nat_lit 77)], (some (nat_lit 78)), none⟩])
 (.seq (.region [
  .ins ⟨(.p .mv), [.tmp (nat_lit 0)], (some (nat_lit 79)), none⟩,
  .ins ⟨(.p .mv), [.tmp (nat_lit 11)], (some (nat_lit 80)), none⟩,
  .ins ⟨(.p .mv), [.tmp (nat_lit 12)], (some (nat_lit 81)), none⟩,
  .ins ⟨(.p .mv), [.tmp (nat_lit 1)], (some (nat_lit 82)), none⟩,
  .ins ⟨(.p .mv), [.tmp (nat_lit 2)], (some (nat_lit 83)), none⟩,
  .ins ⟨(.c .value), [.const (.func (.func (nat_lit 112)) [] []), .tmp (nat_lit 79), .tmp (nat_lit 80), .tmp (nat_lit 81), .tmp (nat_lit 82), .tmp (nat_lit 83)], (some (nat_lit 84)), none⟩])
 (.seq (.region [
  .ins ⟨(.p .mv), [.tmp (nat_lit 11)], (some (nat_lit 85)), none⟩,
  .ins ⟨(.p .mv), [.tmp (nat_lit 85)], (some (nat_lit 6)), none⟩,
  .ins ⟨(.p .mv), [.const (.int .i64 (.ofNat (nat_lit 0)))], (some (nat_lit 7)), none⟩])
 .ret)))))))))))))⟩

def c50 : Code' := .fn ⟨(nat_lit 32), [],
 (.seq (.seq (.region [
  .ins ⟨(.p .mv), [.tmp (nat_lit 0)], (some (nat_lit 4)), none⟩,
  .ins ⟨(.p .nilck), [.tmp (nat_lit 4)], (some (nat_lit 5)), none⟩,
  .ins ⟨(.p (.fieldAddr (nat_lit 17))), [.tmp (nat_lit 5)], (some (nat_lit 6)), none⟩,
  .ins ⟨(.r (.load false (nat_lit 1))), [.tmp (nat_lit 6)], (some (nat_lit 7)), none⟩,
  .ins ⟨(.p (.bini .neq)), [.tmp (nat_lit 7), .const (.int .i64 (.ofNat (nat_lit 0)))], (some (nat_lit 8)), none⟩])
 (.cond (.tmp (nat_lit 8)) .ret
 .skip))
 (.seq (.region [
  .ins ⟨(.p .mv), [.tmp (nat_lit 0)], (some (nat_lit 9)), none⟩,
  .ins ⟨(.p .nilck), [.tmp (nat_lit 9)], (some (nat_lit 10)), none⟩,
  .ins ⟨(.p (.fieldAddr (nat_lit 13))), [.tmp (nat_lit 10)], (some (nat_lit 11)), none⟩,
  .ins ⟨(.r (.load false (nat_lit 1))), [.tmp (nat_lit 11)], (some (nat_lit 12)), none⟩,
  .ins ⟨(.c .value), [.const (.func (.func (nat_lit 65)) [] []), .tmp (nat_lit 12)], (some (nat_lit 13)), none⟩,
  .ins ⟨(.p (.bini .gtr)), [.tmp (nat_lit 13), .const (.int .i64 (.ofNat (nat_lit 0)))], (some (nat_lit 14)), none⟩])
 (.cond (.tmp (nat_lit 14)) (.region [
  .ins ⟨(.p .mv), [.tmp (nat_lit 0)], (some (nat_lit 15)), none⟩,
  .ins ⟨(.p .nilck), [.tmp (nat_lit 15)], (some (nat_lit 16)), none⟩,
  .ins ⟨(.p (.fieldAddr (nat_lit 15))), [.tmp (nat_lit 16)], (some (nat_lit 17)), none⟩,
  .ins ⟨(.r (.load false (nat_lit 1))), [.tmp (nat_lit 17)], (some (nat_lit 18)), none⟩,
  .ins ⟨(.c .value), [.const (.func (.func (nat_lit 91)) [] []), .tmp (nat_lit 18), .const (.int .i64 (.ofNat (nat_lit 2)))], (some (nat_lit 19)), none⟩])
 (.seq (.region [
  .ins ⟨(.p .mv), [.tmp (nat_lit 0)], (some (nat_lit 21)), none⟩,
  .ins ⟨(.p .nilck), [.tmp (nat_lit 21)], (some (nat_lit 22)), none⟩,
  .ins ⟨(.p (.fieldAddr (nat_lit 15))), [.tmp (nat_lit 22)], (some (nat_lit 23)), none⟩,
  .ins ⟨(.r (.load false (nat_lit 1))), [.tmp (nat_lit 23)], (some (nat_lit 24)), none⟩,
  .ins ⟨(.c .value), [.const (.func (.func (nat_lit 59)) [] []), .tmp (nat_lit 24), .const (.int .i64 (.ofNat (nat_lit 2)))], (some (nat_lit 25)), none⟩,
  .ins ⟨(.p .mv), [.tmp (nat_lit 25)], (some (nat_lit 20)), none⟩,
  .ins ⟨(.p (.extract (nat_lit 0))), [.tmp (nat_lit 20)], (some (nat_lit 26)), none⟩,
  .ins ⟨(.p (.extract (nat_lit 1))), [.tmp (nat_lit 20)], (some (nat_lit 27)), none⟩,
  .ins ⟨(.p .mv), [.tmp (nat_lit 26)], (some (nat_lit 2)), none⟩,
  .ins ⟨(.p .mv), [.tmp (nat_lit 27)], (some (nat_lit 3)), none⟩])
 (.seq (.region [
  .ins ⟨(.p .mv), [.tmp (nat_lit 3)], (some (nat_lit 28)), none⟩,
  .ins ⟨(.p (.un .not)), [.tmp (nat_lit 28)], (some (nat_lit 29)), none⟩])
 (.cond (.tmp (nat_lit 29)) (.region [
  .ins ⟨(.p .mv), [.tmp (nat_lit 0)], (some (nat_lit 30)), none⟩,
  .ins ⟨(.c .value), [.const (.func (.func (nat_lit 60)) [] []), .tmp (nat_lit 30), .const (.int .i64 (.ofNat (nat_lit 2)))], (some (nat_lit 31)), none⟩])
 .skip))))))⟩

def c51 : Code' := .fn ⟨(nat_lit 16), [.tmp (nat_lit 2)],
 (.seq (.region [
  .ins ⟨(.p .mv), [.const (.int .i64 (.ofNat (nat_lit 0)))], (some (nat_lit 2)), none⟩])
 (.seq (.region [
  .ins ⟨(.p .mv), [.tmp (nat_lit 0)], (some (nat_lit 4)), none⟩,
  .ins ⟨(.c .value), [.const (.func (.func (nat_lit 47)) [] []), .tmp (nat_lit 4)], (some (nat_lit 5)), none⟩,
  .ins ⟨(.p .mv), [.tmp (nat_lit 5)], (some (nat_lit 3)), none⟩])
 (.seq (.seq (.region [
  .ins ⟨(.p .mv), [.tmp (nat_lit 3)], (some (nat_lit 6)), none⟩,
  .ins ⟨(.p (.bini .eql)), [.tmp (nat_lit 6), .const (.int .i64 (.ofNat (nat_lit 0)))], (some (nat_lit 7)), none⟩,
  .ins ⟨(.p .mv), [.tmp (nat_lit 7)], (some (nat_lit 8)), none⟩,
  .ins ⟨(.p .mv), [.tmp (nat_lit 0)], (some (nat_lit 9)), (some ((nat_lit 8), true))⟩,
  .ins ⟨(.p .nilck), [.tmp (nat_lit 9)], (some (nat_lit 10)), (some ((nat_lit 8), true))⟩,
  .ins ⟨(.p (.fieldAddr (nat_lit 16))), [.tmp (nat_lit 10)], (some (nat_lit 11)), (some ((nat_lit 8), true))⟩,
  .ins ⟨(.r (.load false (nat_lit 1))), [.tmp (nat_lit 11)], (some (nat_lit 12)), (some ((nat_lit 8), true))⟩,
  .ins ⟨(.p (.un .not)), [.tmp (nat_lit 12)], (some (nat_lit 13)), (some ((nat_lit 8), true))⟩,
  .ins ⟨(.p .pick), [.tmp (nat_lit 8), .tmp (nat_lit 13), .const (.bool false)], (some (nat_lit 14)), none⟩])
 (.cond (.tmp (nat_lit 14)) (.region [
  .ins ⟨(.p .mv), [.const (.int .i64 (.ofNat (nat_lit 8)))], (some (nat_lit 3)), none⟩])
 .skip))
 (.seq (.region [
  .ins ⟨(.p .mv), [.tmp (nat_lit 3)], (some (nat_lit 15)), none⟩,
  .ins ⟨(.p .mv), [.tmp (nat_lit 15)], (some (nat_lit 2)), none⟩])
 .ret))))⟩

def c52 : Code' := .fn ⟨(nat_lit 60), [.tmp (nat_lit 8)],
 (.seq (.region [
  .ins ⟨(.p .mv), [.const (.int .i64 (.ofNat (nat_lit 0)))], (some (nat_lit 8)), none⟩])
 (.seq (.seq (.region [
  .ins ⟨(.p .mv), [.tmp (nat_lit 0)], (some (nat_lit 14)), none⟩,
  .ins ⟨(.c .value), [.const (.func (.func (nat_lit 106)) [] []), .tmp (nat_lit 14)], (some (nat_lit 15)), none⟩,
  .ins ⟨(.p .mv), [.tmp (nat_lit 15)], (some (nat_lit 9)), none⟩])
 (.seq (.region [
  .ins ⟨(.p .mv), [.tmp (nat_lit 9)], (some (nat_lit 16)), none⟩,
  .ins ⟨(.p (.bini .neq)), [.tmp (nat_lit 16), .const (.int .i64 (.ofNat (nat_lit 0)))], (some (nat_lit 17)), none⟩])
 (.cond (.tmp (nat_lit 17)) (.seq (.region [
  .ins ⟨(.p .mv), [.tmp (nat_lit 9)], (some (nat_lit 18)), none⟩,
  .ins ⟨(.p .mv), [.tmp (nat_lit 18)], (some (nat_lit 8)), none⟩])
 .ret)
 .skip)))
 (.seq (.seq (.region [
  .ins ⟨(.p .mv), [.tmp (nat_lit 0)], (some (nat_lit 19)), none⟩,
  .ins ⟨(.p .nilck), [.tmp (nat_lit 19)], (some (nat_lit 20)), none⟩,
  .ins ⟨(.p (.fieldAddr (nat_lit 0))), [.tmp (nat_lit 20)], (some (nat_lit 21)), none⟩,
  .ins ⟨(.r (.load false (nat_lit 1))), [.tmp (nat_lit 21)], (some (nat_lit 22)), none⟩,
  .ins ⟨(.p (.bini .neq)), [.tmp (nat_lit 22), .const (.int .i64 (.ofNat (nat_lit 2)))], (some (nat_lit 23)), none⟩])
 (.cond (.tmp (nat_lit 23)) (.seq (.region [
  .ins ⟨(.p .mv), [.const (.int .i64 (.ofNat (nat_lit 8)))], (some (nat_lit 8)), none⟩])
 .ret)
 .skip))
 (.seq (.region [
  .ins ⟨(.p .mv), [.tmp (nat_lit 0)], (some (nat_lit 25)), none⟩,
  .ins ⟨(.p .mv), [.tmp (nat_lit 1)], (some (nat_lit 26)), none⟩,
  .ins ⟨(.c .value), [.const (.func (.func (nat_lit 115)) [] []), .tmp (nat_lit 25), .tmp (nat_lit 26)], (some (nat_lit 27)), none⟩,
  .ins ⟨(.p .mv), [.tmp (nat_lit 27)], (some (nat_lit 24)), none⟩,
  .ins ⟨(.p (.extract (nat_lit 0))), [.tmp (nat_lit 24)], (some (nat_lit 28)), none⟩,
  .ins ⟨(.p (.extract (nat_lit 1))), [.tmp (nat_lit 24)], (some (nat_lit 29)), none⟩,
  .ins ⟨(.p .mv), [.tmp (nat_lit 28)], (some (nat_lit 10)), none⟩,
  .ins ⟨(.p .mv), [.tmp (nat_lit 29)], (some (nat_lit 11)), none⟩])
 (.seq (.block (nat_lit 0) (.seq (.region [
  .ins ⟨(.p .mv), [.tmp (nat_lit 11)], (some (nat_lit 31)), none⟩,
  .ins ⟨(.p (.bini .neq)), [.tmp (nat_lit 31), .const (.int .i64 (.ofNat (nat_lit 0)))], (some (nat_lit 32)), none⟩,
  .ins ⟨(.p .mv), [.tmp (nat_lit 32)], (some (nat_lit 30)), none⟩])
 (.cond (.tmp (nat_lit 30)) (.seq (.region [
  .ins ⟨(.p .mv), [.tmp (nat_lit 11)], (some (nat_lit 33)), none⟩,
  .ins ⟨(.p .mv), [.tmp (nat_lit 33)], (some (nat_lit 8)), none⟩])
 .ret)
 (.seq (.region [
  .ins ⟨(.p .mv), [.tmp (nat_lit 10)], (some (nat_lit 35)), none⟩,
  .ins ⟨(.p .nilck), [.tmp (nat_lit 35)], (some (nat_lit 36)), none⟩,
  .ins ⟨(.p (.fieldAddr (nat_lit 4))), [.tmp (nat_lit 36)], (some (nat_lit 37)), none⟩,
  .ins ⟨(.r (.load false (nat_lit 1))), [.tmp (nat_lit 37)], (some (nat_lit 38)), none⟩,
  .ins ⟨(.p .mv), [.tmp (nat_lit 38)], (some (nat_lit 34)), none⟩])
 (.cond (.tmp (nat_lit 34)) (.seq (.region [
  .ins ⟨(.p .mv), [.const (.int .i64 (.ofNat (nat_lit 8)))], (some (nat_lit 8)), none⟩])
 .ret)
 .skip)))))
 (.seq (.seq (.region [
  .ins ⟨(.p .mv), [.tmp (nat_lit 2)], (some (nat_lit 39)), none⟩,
  .ins ⟨(.c .value), [.const (.func (.func (nat_lit 116)) [] []), .tmp (nat_lit 39)], (some (nat_lit 40)), none⟩,
  .ins ⟨(.p .mv), [.tmp (nat_lit 40)], (some (nat_lit 12)), none⟩])
 (.seq (.region [
  .ins ⟨(.p .mv), [.tmp (nat_lit 12)], (some (nat_lit 41)), none⟩,
  .ins ⟨(.p (.bini .neq)), [.tmp (nat_lit 41), .const (.int .i64 (.ofNat (nat_lit 0)))], (some (nat_lit 42)), none⟩])
 (.cond (.tmp (nat_lit 42)) (.seq (.region [
  .ins ⟨(.p .mv), [.tmp (nat_lit 12)], (some (nat_lit 43)), none⟩,
  .ins ⟨(.p .mv), [.tmp (nat_lit 43)], (some (nat_lit 8)), none⟩])
 .ret)
 .skip)))
 (.seq (.seq (.region [
  .ins ⟨(.p .mv), [.tmp (nat_lit 0)], (some (nat_lit 44)), none⟩,
  .ins ⟨(.p .mv), [.tmp (nat_lit 2)], (some (nat_lit 45)), none⟩,
  .ins ⟨(.c .value), [.const (.func (.func (nat_lit 108)) [] []), .tmp (nat_lit 44), .tmp (nat_lit 45)], (some (nat_lit 46)), none⟩,
  .ins ⟨(.p .mv), [.tmp (nat_lit 46)], (some (nat_lit 13)), none⟩])
 (.seq (.region [
  .ins ⟨(.p .mv), [.tmp (nat_lit 13)], (some (nat_lit 47)), none⟩,
  .ins ⟨(.p (.bini .neq)), [.tmp (nat_lit 47), .const (.int .i64 (.ofNat (nat_lit 0)))], (some (nat_lit 48)), none⟩])
 (.cond (.tmp (nat_lit 48)) (.seq (.region [
  .ins ⟨(.p .mv), [.tmp (nat_lit 13)], (some (nat_lit 49)), none⟩,
  .ins ⟨(.p .mv), [.tmp (nat_lit 49)], (some (nat_lit 8)), none⟩])
 .ret)
 .skip)))
 (.seq (.region [
  .ins ⟨(.p .mv), [.tmp (nat_lit 10)], (some (nat_lit 50)), none⟩,
  .ins ⟨(.p .mv), [.tmp (nat_lit 3)], (some (nat_lit 51)), none⟩,
  .ins ⟨(.p .nilck), [.tmp (nat_lit 50)], (some (nat_lit 52)), none⟩,
  .ins ⟨(.p (.fieldAddr (nat_lit 6))), [.tmp (nat_lit 52)], (some (nat_lit 53)), none⟩,
  .ins ⟨(.l (.store (nat_lit 1))), [.tmp (nat_lit 53), .tmp (nat_lit 51)], none, none⟩])
 (.seq (.region [
  .ins ⟨(.p .mv), [.tmp (nat_lit 0)], (some (nat_lit 54)), none⟩,
  .ins ⟨(.p .mv), [.tmp (nat_lit 1)], (some (nat_lit 55)), none⟩,
  .ins ⟨(.p .mv), [.tmp (nat_lit 10)], (some (nat_lit 56)), none⟩,
  .ins ⟨(.p .mv), [.tmp (nat_lit 2)], (some (nat_lit 57)), none⟩,
  .ins ⟨(.p .mv), [.tmp (nat_lit 3)], (some (nat_lit 58)), none⟩,
  .ins ⟨(.c .value), [.const (.func (.func (nat_lit 112)) [] []), .tmp (nat_lit 54), .tmp (nat_lit 55), .tmp (nat_lit 56), .tmp (nat_lit 57), .tmp (nat_lit 58)], (some (nat_lit 59)), none⟩])
 (.seq (.region [
  .ins ⟨(.p .mv), [.const (.int .i64 (.ofNat (nat_lit 0)))], (some (nat_lit 8)), none⟩])
 .ret))))))))))⟩

def c56 : Code' := .fn ⟨(nat_lit 36), [.tmp (nat_lit 4)],
 (.seq (.region [
  .ins ⟨(.p .mv), [.const (.ptr none)], (some (nat_lit 4)), none⟩])
 (.seq (.seq (.region [
  .ins ⟨(.p .mv), [.tmp (nat_lit 0)], (some (nat_lit 7)), none⟩,
  .ins ⟨(.p .nilck), [.tmp (nat_lit 7)], (some (nat_lit 8)), none⟩,
  .ins ⟨(.p (.fieldAddr (nat_lit 21))), [.tmp (nat_lit 8)], (some (nat_lit 9)), none⟩,
  .ins ⟨(.r (.load false (nat_lit 1))), [.tmp (nat_lit 9)], (some (nat_lit 10)), none⟩,
  .ins ⟨(.p .lenSl), [.tmp (nat_lit 10)], (some (nat_lit 11)), none⟩,
  .ins ⟨(.p .mv), [.const (.int .i64 (.ofNat (nat_lit 0)))], (some (nat_lit 12)), none⟩])
 (.block (nat_lit 0) (.loop (.seq (.region [
  .ins ⟨(.p (.bini .lss)), [.tmp (nat_lit 12), .tmp (nat_lit 11)], (some (nat_lit 13)), none⟩])
 (.seq (.cond (.tmp (nat_lit 13)) .skip
 (.exit (nat_lit 0)))
 (.seq (.block (nat_lit 1) (.seq (.region [
  .ins ⟨(.p .mv), [.tmp (nat_lit 12)], (some (nat_lit 14)), none⟩,
  .ins ⟨(.p .mv), [.tmp (nat_lit 14)], (some (nat_lit 5)), none⟩])
 (.seq (.region [
  .ins ⟨(.p .mv), [.tmp (nat_lit 0)], (some (nat_lit 15)), none⟩,
  .ins ⟨(.p .nilck), [.tmp (nat_lit 15)], (some (nat_lit 16)), none⟩,
  .ins ⟨(.p (.fieldAddr (nat_lit 21))), [.tmp (nat_lit 16)], (some (nat_lit 17)), none⟩,
  .ins ⟨(.r (.load false (nat_lit 1))), [.tmp (nat_lit 17)], (some (nat_lit 18)), none⟩,
  .ins ⟨(.p .mv), [.tmp (nat_lit 5)], (some (nat_lit 19)), none⟩,
  .ins ⟨(.p (.indexAddr (nat_lit 2))), [.tmp (nat_lit 18), .tmp (nat_lit 19)], (some (nat_lit 20)), none⟩,
  .ins ⟨(.p .mv), [.tmp (nat_lit 20)], (some (nat_lit 6)), none⟩])
 (.seq (.region [
  .ins ⟨(.p .mv), [.tmp (nat_lit 6)], (some (nat_lit 21)), none⟩,
  .ins ⟨(.p .nilck), [.tmp (nat_lit 21)], (some (nat_lit 22)), none⟩,
  .ins ⟨(.p (.fieldAddr (nat_lit 0))), [.tmp (nat_lit 22)], (some (nat_lit 23)), none⟩,
  .ins ⟨(.r (.load false (nat_lit 1))), [.tmp (nat_lit 23)], (some (nat_lit 24)), none⟩,
  .ins ⟨(.p .mv), [.tmp (nat_lit 1)], (some (nat_lit 25)), none⟩,
  .ins ⟨(.p (.bini .eql)), [.tmp (nat_lit 24), .tmp (nat_lit 25)], (some (nat_lit 26)), none⟩,
  .ins ⟨(.p .mv), [.tmp (nat_lit 26)], (some (nat_lit 27)), none⟩,
  .ins ⟨(.p .mv), [.tmp (nat_lit 6)], (some (nat_lit 28)), (some ((nat_lit 27), true))⟩,
  .ins ⟨(.p .nilck), [.tmp (nat_lit 28)], (some (nat_lit 29)), (some ((nat_lit 27), true))⟩,
  .ins ⟨(.p (.fieldAddr (nat_lit 1))), [.tmp (nat_lit 29)], (some (nat_lit 30)), (some ((nat_lit 27), true))⟩,
  .ins ⟨(.r (.load false (nat_lit 1))), [.tmp (nat_lit 30)], (some (nat_lit 31)), (some ((nat_lit 27), true))⟩,
  .ins ⟨(.p (.bini .eql)), [.tmp (nat_lit 31), .const (.int .i64 (.ofNat (nat_lit 1)))], (some (nat_lit 32)), (some ((nat_lit 27), true))⟩,
  .ins ⟨(.p .pick), [.tmp (nat_lit 27), .tmp (nat_lit 32), .const (.bool false)], (some (nat_lit 33)), none⟩])
 (.cond (.tmp (nat_lit 33)) (.seq (.region [
  .ins ⟨(.p .mv), [.tmp (nat_lit 6)], (some (nat_lit 34)), none⟩,
  .ins ⟨(.p .mv), [.tmp (nat_lit 34)], (some (nat_lit 4)), none⟩])
 .ret)
 .skip)))))
 (.region [
  .ins ⟨(.p (.bini .add)), [.tmp (nat_lit 12), .const (.int .i64 (.ofNat (nat_lit 1)))], (some (nat_lit 35)), none⟩,
  .ins ⟨(.p .mv), [.tmp (nat_lit 35)], (some (nat_lit 12)), none⟩])))))))
 (.seq (.region [
  .ins ⟨(.p .mv), [.const (.ptr none)], (some (nat_lit 4)), none⟩])
 .ret)))⟩

def c57 : Code' := .fn ⟨(nat_lit 18), [],
 (.seq (.region [
  .ins ⟨(.p .mv), [.tmp (nat_lit 1)], (some (nat_lit 6)), none⟩,
  .ins ⟨(.p .mv), [.tmp (nat_lit 2)], (some (nat_lit 7)), none⟩,
  .ins ⟨(.p .nilck), [.tmp (nat_lit 6)], (some (nat_lit 8)), none⟩,
  .ins ⟨(.p (.fieldAddr (nat_lit 1))), [.tmp (nat_lit 8)], (some (nat_lit 9)), none⟩,
  .ins ⟨(.l (.store (nat_lit 1))), [.tmp (nat_lit 9), .tmp (nat_lit 7)], none, none⟩])
 (.region [
  .ins ⟨(.p .mv), [.tmp (nat_lit 0)], (some (nat_lit 10)), none⟩,
  .ins ⟨(.p .mv), [.tmp (nat_lit 1)], (some (nat_lit 11)), none⟩,
  .ins ⟨(.p .nilck), [.tmp (nat_lit 11)], (some (nat_lit 12)), none⟩,
  .ins ⟨(.p (.fieldAddr (nat_lit 0))), [.tmp (nat_lit 12)], (some (nat_lit 13)), none⟩,
  .ins ⟨(.r (.load false (nat_lit 1))), [.tmp (nat_lit 13)], (some (nat_lit 14)), none⟩,
  .ins ⟨(.p .mv), [.tmp (nat_lit 2)], (some (nat_lit 15)), none⟩,
  .ins ⟨(.p (.build [(.int .i64 (.ofNat (nat_lit 0))), (.int .i64 (.ofNat (nat_lit 0))), (.slice none (nat_lit 0) (nat_lit 0) (nat_lit 0)), (.slice none (nat_lit 0) (nat_lit 0) (nat_lit 0)), (.bool false), (.int .i64 (.ofNat (nat_lit 0))), (.int .i64 (.ofNat (nat_lit 0)))] [((nat_lit 0), (nat_lit 1)), ((nat_lit 1), (nat_lit 1)), ((nat_lit 5), (nat_lit 1))])), [.const (.int .i64 (.ofNat (nat_lit 13))), .tmp (nat_lit 14), .tmp (nat_lit 15)], (some (nat_lit 16)), none⟩,
  .ins ⟨(.c .value), [.const (.func (.func (nat_lit 93)) [] []), .tmp (nat_lit 10), .tmp (nat_lit 16)], (some (nat_lit 17)), none⟩]))⟩

def c59 : Code' := .fn ⟨(nat_lit 27), [.tmp (nat_lit 4), .tmp (nat_lit 5)],
 (.seq (.region [
  .ins ⟨(.p .mv), [.const (.int .i64 (.ofNat (nat_lit 0)))], (some (nat_lit 4)), none⟩,
  .ins ⟨(.p .mv), [.const (.bool false)], (some (nat_lit 5)), none⟩])
 (.seq (.seq (.region [
  .ins ⟨(.p .mv), [.tmp (nat_lit 0)], (some (nat_lit 6)), none⟩,
  .ins ⟨(.p (.eqnil .ptr false)), [.tmp (nat_lit 6), .const (.ptr none)], (some (nat_lit 7)), none⟩,
  .ins ⟨(.p .mv), [.tmp (nat_lit 7)], (some (nat_lit 8)), none⟩,
  .ins ⟨(.p .mv), [.tmp (nat_lit 1)], (some (nat_lit 9)), (some ((nat_lit 8), false))⟩,
  .ins ⟨(.c .value), [.const (.func (.func (nat_lit 121)) [] []), .tmp (nat_lit 9)], (some (nat_lit 10)), (some ((nat_lit 8), false))⟩,
  .ins ⟨(.p (.un .not)), [.tmp (nat_lit 10)], (some (nat_lit 11)), (some ((nat_lit 8), false))⟩,
  .ins ⟨(.p .pick), [.tmp (nat_lit 8), .const (.bool true), .tmp (nat_lit 11)], (some (nat_lit 12)), none⟩])
 (.cond (.tmp (nat_lit 12)) (.seq (.region [
  .ins ⟨(.p .mv), [.const (.int .i64 (.ofNat (nat_lit 0)))], (some (nat_lit 4)), none⟩,
  .ins ⟨(.p .mv), [.const (.bool false)], (some (nat_lit 5)), none⟩])
 .ret)
 .skip))
 (.seq (.region [
  .ins ⟨(.p .mv), [.tmp (nat_lit 0)], (some (nat_lit 13)), none⟩,
  .ins ⟨(.p .mv), [.tmp (nat_lit 1)], (some (nat_lit 14)), none⟩,
  .ins ⟨(.p .nilck), [.tmp (nat_lit 13)], (some (nat_lit 15)), none⟩,
  .ins ⟨(.p (.fieldAddr (nat_lit 0))), [.tmp (nat_lit 15)], (some (nat_lit 16)), none⟩,
  .ins ⟨(.p (.indexAddrArr (nat_lit 6) (nat_lit 2))), [.tmp (nat_lit 16), .tmp (nat_lit 14)], (some (nat_lit 17)), none⟩,
  .ins ⟨(.p (.fieldAddr (nat_lit 0))), [.tmp (nat_lit 17)], (some (nat_lit 18)), none⟩,
  .ins ⟨(.r (.load false (nat_lit 1))), [.tmp (nat_lit 18)], (some (nat_lit 19)), none⟩,
  .ins ⟨(.p .mv), [.tmp (nat_lit 0)], (some (nat_lit 20)), none⟩,
  .ins ⟨(.p .mv), [.tmp (nat_lit 1)], (some (nat_lit 21)), none⟩,
  .ins ⟨(.p .nilck), [.tmp (nat_lit 20)], (some (nat_lit 22)), none⟩,
  .ins ⟨(.p (.fieldAddr (nat_lit 0))), [.tmp (nat_lit 22)], (some (nat_lit 23)), none⟩,
  .ins ⟨(.p (.indexAddrArr (nat_lit 6) (nat_lit 2))), [.tmp (nat_lit 23), .tmp (nat_lit 21)], (some (nat_lit 24)), none⟩,
  .ins ⟨(.p (.fieldAddr (nat_lit 1))), [.tmp (nat_lit 24)], (some (nat_lit 25)), none⟩,
  .ins ⟨(.r (.load false (nat_lit 1))), [.tmp (nat_lit 25)], (some (nat_lit 26)), none⟩,
  .ins ⟨(.p .mv), [.tmp (nat_lit 19)], (some (nat_lit 4)), none⟩,
  .ins ⟨(.p .mv), [.tmp (nat_lit 26)], (some (nat_lit 5)), none⟩])
 .ret)))⟩

def c60 : Code' := .fn ⟨(nat_lit 48), [],
 (.seq (.region [
  .ins ⟨(.p .mv), [.tmp (nat_lit 0)], (some (nat_lit 5)), none⟩,
  .ins ⟨(.p .nilck), [.tmp (nat_lit 5)], (some (nat_lit 6)), none⟩,
  .ins ⟨(.p (.fieldAddr (nat_lit 7))), [.tmp (nat_lit 6)], (some (nat_lit 7)), none⟩,
  .ins ⟨(.p (.fieldAddr (nat_lit 0))), [.tmp (nat_lit 7)], (some (nat_lit 8)), none⟩,
  .ins ⟨(.r (.load false (nat_lit 1))), [.tmp (nat_lit 8)], (some (nat_lit 9)), none⟩,
  .ins ⟨(.p .mv), [.tmp (nat_lit 0)], (some (nat_lit 10)), none⟩,
  .ins ⟨(.p .nilck), [.tmp (nat_lit 10)], (some (nat_lit 11)), none⟩,
  .ins ⟨(.p (.fieldAddr (nat_lit 7))), [.tmp (nat_lit 11)], (some (nat_lit 12)), none⟩,
  .ins ⟨(.p (.fieldAddr (nat_lit 1))), [.tmp (nat_lit 12)], (some (nat_lit 13)), none⟩,
  .ins ⟨(.r (.load false (nat_lit 1))), [.tmp (nat_lit 13)], (some (nat_lit 14)), none⟩,
  .ins ⟨(.p .mv), [.tmp (nat_lit 0)], (some (nat_lit 15)), none⟩,
  .ins ⟨(.p .nilck), [.tmp (nat_lit 15)], (some (nat_lit 16)), none⟩,
  .ins ⟨(.p (.fieldAddr (nat_lit 7))), [.tmp (nat_lit 16)], (some (nat_lit 17)), none⟩,
  .ins ⟨(.p (.fieldAddr (nat_lit 2))), [.tmp (nat_lit 17)], (some (nat_lit 18)), none⟩,
  .ins ⟨(.r (.load false (nat_lit 1))), [.tmp (nat_lit 18)], (some (nat_lit 19)), none⟩,
  .ins ⟨(.p .mv), [.tmp (nat_lit 0)], (some (nat_lit 20)), none⟩,
  .ins ⟨(.p .nilck), [.tmp (nat_lit 20)], (some (nat_lit 21)), none⟩,
  .ins ⟨(.p (.fieldAddr (nat_lit 7))), [.tmp (nat_lit 21)], (some (nat_lit 22)), none⟩,
  .ins ⟨(.p (.fieldAddr (nat_lit 3))), [.tmp (nat_lit 22)], (some (nat_lit 23)), none⟩,
  .ins ⟨(.r (.load false (nat_lit 1))), [.tmp (nat_lit 23)], (some (nat_lit 24)), none⟩,
  .ins ⟨(.p .mv), [.tmp (nat_lit 0)], (some (nat_lit 25)), none⟩,
  .ins ⟨(.p .nilck), [.tmp (nat_lit 25)], (some (nat_lit 26)), none⟩,
  .ins ⟨(.p (.fieldAddr (nat_lit 7))), [.tmp (nat_lit 26)], (some (nat_lit 27)), none⟩,
  .ins ⟨(.p (.fieldAddr (nat_lit 4))), [.tmp (nat_lit 27)], (some (nat_lit 28)), none⟩,
  .ins ⟨(.r (.load false (nat_lit 1))), [.tmp (nat_lit 28)], (some (nat_lit 29)), none⟩,
  .ins ⟨(.p (.build [(.int .i64 (.ofNat (nat_lit 0))), (.int .i64 (.ofNat (nat_lit 0))), (.int .i64 (.ofNat (nat_lit 0))), (.int .i64 (.ofNat (nat_lit 0))), (.int .i64 (.ofNat (nat_lit 0))), (.int .i64 (.ofNat (nat_lit 0)))] [((nat_lit 0), (nat_lit 1)), ((nat_lit 1), (nat_lit 1)), ((nat_lit 2), (nat_lit 1)), ((nat_lit 3), (nat_lit 1)), ((nat_lit 4), (nat_lit 1)), ((nat_lit 5), (nat_lit 1))])), [.const (.int .i64 (.ofNat (nat_lit 0))), .tmp (nat_lit 9), .tmp (nat_lit 14), .tmp (nat_lit 19), .tmp (nat_lit 24), .tmp (nat_lit 29)], (some (nat_lit 30)), none⟩,
  .ins ⟨(.p .mv), [.tmp (nat_lit 1)], (some (nat_lit 31)), none⟩,
  .ins ⟨(.p (.indexArr (nat_lit 6) (nat_lit 1) false)), [.tmp (nat_lit 30), .tmp (nat_lit 31)], (some (nat_lit 32)), none⟩,
  .ins ⟨(.p .mv), [.tmp (nat_lit 32)], (some (nat_lit 4)), none⟩])
 (.seq (.region [
  .ins ⟨(.p .mv), [.tmp (nat_lit 4)], (some (nat_lit 33)), none⟩,
  .ins ⟨(.p (.bini .gtr)), [.tmp (nat_lit 33), .const (.int .i64 (.ofNat (nat_lit 0)))], (some (nat_lit 34)), none⟩])
 (.cond (.tmp (nat_lit 34)) (.region [
  .ins ⟨(.p .mv), [.tmp (nat_lit 0)], (some (nat_lit 35)), none⟩,
  .ins ⟨(.p .nilck), [.tmp (nat_lit 35)], (some (nat_lit 36)), none⟩,
  .ins ⟨(.p (.fieldAddr (nat_lit 15))), [.tmp (nat_lit 36)], (some (nat_lit 37)), none⟩,
  .ins ⟨(.r (.load false (nat_lit 1))), [.tmp (nat_lit 37)], (some (nat_lit 38)), none⟩,
  .ins ⟨(.p .mv), [.tmp (nat_lit 1)], (some (nat_lit 39)), none⟩,
  .ins ⟨(.p .mv), [.tmp (nat_lit 0)], (some (nat_lit 40)), none⟩,
  .ins ⟨(.p .nilck), [.tmp (nat_lit 40)], (some (nat_lit 41)), none⟩,
  .ins ⟨(.p (.fieldAddr (nat_lit 12))), [.tmp (nat_lit 41)], (some (nat_lit 42)), none⟩,
  .ins ⟨(.r (.load false (nat_lit 1))), [.tmp (nat_lit 42)], (some (nat_lit 43)), none⟩,
  .ins ⟨(.p .mv), [.tmp (nat_lit 4)], (some (nat_lit 44)), none⟩,
  .ins ⟨(.p (.bini .add)), [.tmp (nat_lit 43), .tmp (nat_lit 44)], (some (nat_lit 45)), none⟩,
  .ins ⟨(.p .min), [.tmp (nat_lit 45), .const (.int .i64 (.ofNat (nat_lit 1099511627776)))], (some (nat_lit 46)), none⟩,
  .ins ⟨(.c .value), [.const (.func (.func (nat_lit 122)) [] []), .tmp (nat_lit 38), .tmp (nat_lit 39), .tmp (nat_lit 46)], (some (nat_lit 47)), none⟩])
 .skip)))⟩

def c62 : Code' := .fn ⟨(nat_lit 36), [],
 (.seq (.region [
  .ins ⟨(.p .mv), [.tmp (nat_lit 1)], (some (nat_lit 6)), none⟩,
  .ins ⟨(.p .lenSl), [.tmp (nat_lit 6)], (some (nat_lit 7)), none⟩,
  .ins ⟨(.p .mv), [.const (.int .i64 (.ofNat (nat_lit 0)))], (some (nat_lit 8)), none⟩])
 (.block (nat_lit 0) (.loop (.seq (.region [
  .ins ⟨(.p (.bini .lss)), [.tmp (nat_lit 8), .tmp (nat_lit 7)], (some (nat_lit 9)), none⟩])
 (.seq (.cond (.tmp (nat_lit 9)) .skip
 (.exit (nat_lit 0)))
 (.seq (.block (nat_lit 1) (.seq (.region [
  .ins ⟨(.p (.indexAddr (nat_lit 2))), [.tmp (nat_lit 6), .tmp (nat_lit 8)], (some (nat_lit 10)), none⟩,
  .ins ⟨(.r (.load true (nat_lit 2))), [.tmp (nat_lit 10)], (some (nat_lit 11)), none⟩,
  .ins ⟨(.a (.alloc [(.int .i64 (.ofNat (nat_lit 0))), (.int .i64 (.ofNat (nat_lit 0)))])), [], (some (nat_lit 5)), none⟩,
  .ins ⟨(.l (.store (nat_lit 2))), [.tmp (nat_lit 5), .tmp (nat_lit 11)], none, none⟩])
 (.seq (.region [
  .ins ⟨(.p (.fieldAddr (nat_lit 0))), [.tmp (nat_lit 5)], (some (nat_lit 12)), none⟩,
  .ins ⟨(.r (.load false (nat_lit 1))), [.tmp (nat_lit 12)], (some (nat_lit 13)), none⟩])
 (.block (nat_lit 2) (.seq (.region [
  .ins ⟨(.p (.bini .eql)), [.tmp (nat_lit 13), .const (.int .i64 (.ofNat (nat_lit 1)))], (some (nat_lit 15)), none⟩,
  .ins ⟨(.p .mv), [.tmp (nat_lit 15)], (some (nat_lit 14)), none⟩])
 (.cond (.tmp (nat_lit 14)) (.region [
  .ins ⟨(.p .mv), [.tmp (nat_lit 0)], (some (nat_lit 16)), none⟩,
  .ins ⟨(.p .nilck), [.tmp (nat_lit 16)], (some (nat_lit 17)), none⟩,
  .ins ⟨(.p (.fieldAddr (nat_lit 13))), [.tmp (nat_lit 17)], (some (nat_lit 18)), none⟩,
  .ins ⟨(.r (.load false (nat_lit 1))), [.tmp (nat_lit 18)], (some (nat_lit 19)), none⟩,
  .ins ⟨(.p (.fieldAddr (nat_lit 1))), [.tmp (nat_lit 5)], (some (nat_lit 20)), none⟩,
  .ins ⟨(.r (.load false (nat_lit 1))), [.tmp (nat_lit 20)], (some (nat_lit 21)), none⟩,
  .ins ⟨(.c .value), [.const (.func (.func (nat_lit 102)) [] []), .tmp (nat_lit 19), .tmp (nat_lit 21), .const (.int .i64 (.ofNat (nat_lit 0)))], (some (nat_lit 22)), none⟩])
 (.seq (.region [
  .ins ⟨(.p (.bini .eql)), [.tmp (nat_lit 13), .const (.int .i64 (.ofNat (nat_lit 2)))], (some (nat_lit 24)), none⟩,
  .ins ⟨(.p .mv), [.tmp (nat_lit 24)], (some (nat_lit 23)), none⟩])
 (.cond (.tmp (nat_lit 23)) (.region [
  .ins ⟨(.p .mv), [.tmp (nat_lit 0)], (some (nat_lit 25)), none⟩,
  .ins ⟨(.p .nilck), [.tmp (nat_lit 25)], (some (nat_lit 26)), none⟩,
  .ins ⟨(.p (.fieldAddr (nat_lit 13))), [.tmp (nat_lit 26)], (some (nat_lit 27)), none⟩,
  .ins ⟨(.r (.load false (nat_lit 1))), [.tmp (nat_lit 27)], (some (nat_lit 28)), none⟩,
  .ins ⟨(.c .value), [.const (.func (.func (nat_lit 123)) [] [])], (some (nat_lit 29)), none⟩,
  .again ⟨(.r (.load false (nat_lit 1))), [.tmp (nat_lit 27)], (some (nat_lit 28)), none⟩,
  .ins ⟨(.c .value), [.const (.func (.func (nat_lit 103)) [] []), .tmp (nat_lit 28), .tmp (nat_lit 29)], (some (nat_lit 30)), none⟩])
 (.seq (.region [
  .ins ⟨(.p (.bini .eql)), [.tmp (nat_lit 13), .const (.int .i64 (.ofNat (nat_lit 3)))], (some (nat_lit 32)), none⟩,
  .ins ⟨(.p .mv), [.tmp (nat_lit 32)], (some (nat_lit 31)), none⟩])
 (.cond (.tmp (nat_lit 31)) (.region [
  .ins ⟨(.p .mv), [.tmp (nat_lit 0)], (some (nat_lit 33)), none⟩,
  .ins ⟨(.c .value), [.const (.func (.func (nat_lit 42)) [] []), .tmp (nat_lit 33), .const (.int .i64 (.ofNat (nat_lit 1)))], (some (nat_lit 34)), none⟩])
 .skip))))))))))
 (.region [
  .ins ⟨(.p (.bini .add)), [.tmp (nat_lit 8), .const (.int .i64 (.ofNat (nat_lit 1)))], (some (nat_lit 35)), none⟩,
  .ins ⟨(.p .mv), [.tmp (nat_lit 35)], (some (nat_lit 8)), none⟩])))))))⟩

def c64 : Code' := .fn ⟨(nat_lit 9), [.tmp (nat_lit 2)],
 (.seq (.region [
  .ins ⟨(.p .mv), [.const (.int .i64 (.ofNat (nat_lit 0)))], (some (nat_lit 2)), none⟩])
 (.seq (.seq (.region [
  .ins ⟨(.p .mv), [.tmp (nat_lit 0)], (some (nat_lit 3)), none⟩,
  .ins ⟨(.p (.eqnil .ptr false)), [.tmp (nat_lit 3), .const (.ptr none)], (some (nat_lit 4)), none⟩])
 (.cond (.tmp (nat_lit 4)) (.seq (.region [
  .ins ⟨(.p .mv), [.const (.int .i64 (.ofNat (nat_lit 0)))], (some (nat_lit 2)), none⟩])
 .ret)
 .skip))
 (.seq (.region [
  .ins ⟨(.p .mv), [.tmp (nat_lit 0)], (some (nat_lit 5)), none⟩,
  .ins ⟨(.p .nilck), [.tmp (nat_lit 5)], (some (nat_lit 6)), none⟩,
  .ins ⟨(.p (.fieldAddr (nat_lit 20))), [.tmp (nat_lit 6)], (some (nat_lit 7)), none⟩,
  .ins ⟨(.r (.load false (nat_lit 1))), [.tmp (nat_lit 7)], (some (nat_lit 8)), none⟩,
  .ins ⟨(.p .mv), [.tmp (nat_lit 8)], (some (nat_lit 2)), none⟩])
 .ret)))⟩

def c65 : Code' := .fn ⟨(nat_lit 10), [.tmp (nat_lit 2)],
 (.seq (.region [
  .ins ⟨(.p .mv), [.const (.int .i64 (.ofNat (nat_lit 0)))], (some (nat_lit 2)), none⟩])
 (.seq (.seq (.region [
  .ins ⟨(.p .mv), [.tmp (nat_lit 0)], (some (nat_lit 3)), none⟩,
  .ins ⟨(.p (.eqnil .ptr false)), [.tmp (nat_lit 3), .const (.ptr none)], (some (nat_lit 4)), none⟩])
 (.cond (.tmp (nat_lit 4)) (.seq (.region [
  .ins ⟨(.p .mv), [.const (.int .i64 (.ofNat (nat_lit 0)))], (some (nat_lit 2)), none⟩])
 .ret)
 .skip))
 (.seq (.region [
  .ins ⟨(.p .mv), [.tmp (nat_lit 0)], (some (nat_lit 5)), none⟩,
  .ins ⟨(.p .nilck), [.tmp (nat_lit 5)], (some (nat_lit 6)), none⟩,
  .ins ⟨(.p (.fieldAddr (nat_lit 13))), [.tmp (nat_lit 6)], (some (nat_lit 7)), none⟩,
  .ins ⟨(.r (.load false (nat_lit 1))), [.tmp (nat_lit 7)], (some (nat_lit 8)), none⟩,
  .ins ⟨(.c .value), [.const (.func (.func (nat_lit 125)) [] []), .tmp (nat_lit 8)], (some (nat_lit 9)), none⟩,
  .ins ⟨(.p .mv), [.tmp (nat_lit 9)], (some (nat_lit 2)), none⟩])
 .ret)))⟩

def c66 : Code' := .fn ⟨(nat_lit 24), [],
 (.seq (.seq (.region [
  .ins ⟨(.r (.load false (nat_lit 1))), [.tmp (nat_lit 1)], (some (nat_lit 5)), none⟩,
  .ins ⟨(.p (.eqnil .ptr false)), [.tmp (nat_lit 5), .const (.ptr none)], (some (nat_lit 6)), none⟩])
 (.cond (.tmp (nat_lit 6)) .ret
 .skip))
 (.seq (.region [
  .ins ⟨(.r (.load false (nat_lit 1))), [.tmp (nat_lit 1)], (some (nat_lit 7)), none⟩,
  .ins ⟨(.p .nilck), [.tmp (nat_lit 7)], (some (nat_lit 8)), none⟩,
  .ins ⟨(.p (.fieldAddr (nat_lit 21))), [.tmp (nat_lit 8)], (some (nat_lit 9)), none⟩,
  .ins ⟨(.r (.load false (nat_lit 1))), [.tmp (nat_lit 9)], (some (nat_lit 10)), none⟩,
  .ins ⟨(.p .lenSl), [.tmp (nat_lit 10)], (some (nat_lit 11)), none⟩,
  .ins ⟨(.p .mv), [.const (.int .i64 (.ofNat (nat_lit 0)))], (some (nat_lit 12)), none⟩])
 (.block (nat_lit 0) (.loop (.seq (.region [
  .ins ⟨(.p (.bini .lss)), [.tmp (nat_lit 12), .tmp (nat_lit 11)], (some (nat_lit 13)), none⟩])
 (.seq (.cond (.tmp (nat_lit 13)) .skip
 (.exit (nat_lit 0)))
 (.seq (.block (nat_lit 1) (.seq (.region [
  .ins ⟨(.p (.indexAddr (nat_lit 2))), [.tmp (nat_lit 10), .tmp (nat_lit 12)], (some (nat_lit 14)), none⟩,
  .ins ⟨(.r (.load true (nat_lit 2))), [.tmp (nat_lit 14)], (some (nat_lit 15)), none⟩,
  .ins ⟨(.a (.alloc [(.int .i64 (.ofNat (nat_lit 0))), (.int .i64 (.ofNat (nat_lit 0)))])), [], (some (nat_lit 4)), none⟩,
  .ins ⟨(.l (.store (nat_lit 2))), [.tmp (nat_lit 4), .tmp (nat_lit 15)], none, none⟩])
 (.seq (.region [
  .ins ⟨(.p .mv), [.tmp (nat_lit 0)], (some (nat_lit 16)), none⟩,
  .ins ⟨(.p (.fieldAddr (nat_lit 0))), [.tmp (nat_lit 4)], (some (nat_lit 17)), none⟩,
  .ins ⟨(.r (.load false (nat_lit 1))), [.tmp (nat_lit 17)], (some (nat_lit 18)), none⟩,
  .ins ⟨(.p (.fieldAddr (nat_lit 1))), [.tmp (nat_lit 4)], (some (nat_lit 19)), none⟩,
  .ins ⟨(.r (.load false (nat_lit 1))), [.tmp (nat_lit 19)], (some (nat_lit 20)), none⟩,
  .ins ⟨(.c .value), [.tmp (nat_lit 16), .tmp (nat_lit 18), .tmp (nat_lit 20)], (some (nat_lit 21)), none⟩,
  .ins ⟨(.p (.un .not)), [.tmp (nat_lit 21)], (some (nat_lit 22)), none⟩])
 (.cond (.tmp (nat_lit 22)) .ret
 .skip))))
 (.region [
  .ins ⟨(.p (.bini .add)), [.tmp (nat_lit 12), .const (.int .i64 (.ofNat (nat_lit 1)))], (some (nat_lit 23)), none⟩,
  .ins ⟨(.p .mv), [.tmp (nat_lit 23)], (some (nat_lit 12)), none⟩]))))))))⟩

def c67 : Code' := .fn ⟨(nat_lit 89), [.tmp (nat_lit 10), .tmp (nat_lit 11)],
 (.seq (.region [
  .ins ⟨(.a .box), [.tmp (nat_lit 2)], (some (nat_lit 7)), none⟩,
  .ins ⟨(.a .box), [.tmp (nat_lit 3)], (some (nat_lit 8)), none⟩,
  .ins ⟨(.p .mv), [.const (.ptr none)], (some (nat_lit 10)), none⟩,
  .ins ⟨(.p .mv), [.const (.int .i64 (.ofNat (nat_lit 0)))], (some (nat_lit 11)), none⟩])
 (.seq (.seq (.region [
  .ins ⟨(.p .mv), [.tmp (nat_lit 1)], (some (nat_lit 15)), none⟩,
  .ins ⟨(.p (.bini .neq)), [.tmp (nat_lit 15), .const (.int .i64 (.ofNat (nat_lit 0)))], (some (nat_lit 16)), none⟩,
  .ins ⟨(.p .mv), [.tmp (nat_lit 16)], (some (nat_lit 17)), none⟩,
  .ins ⟨(.p .mv), [.tmp (nat_lit 1)], (some (nat_lit 18)), (some ((nat_lit 17), true))⟩,
  .ins ⟨(.p (.bini .neq)), [.tmp (nat_lit 18), .const (.int .i64 (.ofNat (nat_lit 1)))], (some (nat_lit 19)), (some ((nat_lit 17), true))⟩,
  .ins ⟨(.p .pick), [.tmp (nat_lit 17), .tmp (nat_lit 19), .const (.bool false)], (some (nat_lit 20)), none⟩,
  .ins ⟨(.p .mv), [.tmp (nat_lit 20)], (some (nat_lit 21)), none⟩,
  .ins ⟨(.p (.fieldAddr (nat_lit 0))), [.tmp (nat_lit 8)], (some (nat_lit 22)), (some ((nat_lit 21), false))⟩,
  .ins ⟨(.r (.load false (nat_lit 1))), [.tmp (nat_lit 22)], (some (nat_lit 23)), (some ((nat_lit 21), false))⟩,
  .ins ⟨(.c .value), [.const (.func (.func (nat_lit 126)) [] []), .tmp (nat_lit 23)], (some (nat_lit 24)), (some ((nat_lit 21), false))⟩,
  .ins ⟨(.p (.un .not)), [.tmp (nat_lit 24)], (some (nat_lit 25)), (some ((nat_lit 21), false))⟩,
  .ins ⟨(.p .pick), [.tmp (nat_lit 21), .const (.bool true), .tmp (nat_lit 25)], (some (nat_lit 26)), none⟩,
  .ins ⟨(.p .mv), [.tmp (nat_lit 26)], (some (nat_lit 27)), none⟩,
  .ins ⟨(.p (.fieldAddr (nat_lit 1))), [.tmp (nat_lit 8)], (some (nat_lit 28)), (some ((nat_lit 27), false))⟩,
  .ins ⟨(.r (.load false (nat_lit 1))), [.tmp (nat_lit 28)], (some (nat_lit 29)), (some ((nat_lit 27), false))⟩,
  .ins ⟨(.c .value), [.const (.func (.func (nat_lit 126)) [] []), .tmp (nat_lit 29)], (some (nat_lit 30)), (some ((nat_lit 27), false))⟩,
  .ins ⟨(.p (.un .not)), [.tmp (nat_lit 30)], (some (nat_lit 31)), (some ((nat_lit 27), false))⟩,
  .ins ⟨(.p .pick), [.tmp (nat_lit 27), .const (.bool true), .tmp (nat_lit 31)], (some (nat_lit 32)), none⟩,
  .ins ⟨(.p .mv), [.tmp (nat_lit 32)], (some (nat_lit 33)), none⟩,
  .ins ⟨(.p (.fieldAddr (nat_lit 2))), [.tmp (nat_lit 8)], (some (nat_lit 34)), (some ((nat_lit 33), false))⟩,
  .ins ⟨(.r (.load false (nat_lit 1))), [.tmp (nat_lit 34)], (some (nat_lit 35)), (some ((nat_lit 33), false))⟩,
  .ins ⟨(.c .value), [.const (.func (.func (nat_lit 126)) [] []), .tmp (nat_lit 35)], (some (nat_lit 36)), (some ((nat_lit 33), false))⟩,
  .ins ⟨(.p (.un .not)), [.tmp (nat_lit 36)], (some (nat_lit 37)), (some ((nat_lit 33), false))⟩,
  .ins ⟨(.p .pick), [.tmp (nat_lit 33), .const (.bool true), .tmp (nat_lit 37)], (some (nat_lit 38)), none⟩,
  .ins ⟨(.p .mv), [.tmp (nat_lit 38)], (some (nat_lit 39)), none⟩,
  .ins ⟨(.p (.fieldAddr (nat_lit 3))), [.tmp (nat_lit 8)], (some (nat_lit 40)), (some ((nat_lit 39), false))⟩,
  .ins ⟨(.r (.load false (nat_lit 1))), [.tmp (nat_lit 40)], (some (nat_lit 41)), (some ((nat_lit 39), false))⟩,
  .ins ⟨(.c .value), [.const (.func (.func (nat_lit 126)) [] []), .tmp (nat_lit 41)], (some (nat_lit 42)), (some ((nat_lit 39), false))⟩,
  .ins ⟨(.p (.un .not)), [.tmp (nat_lit 42)], (some (nat_lit 43)), (some ((nat_lit 39), false))⟩,
  .ins ⟨(.p .pick), [.tmp (nat_lit 39), .const (.bool true), .tmp (nat_lit 43)], (some (nat_lit 44)), none⟩,
  .ins ⟨(.p .mv), [.tmp (nat_lit 44)], (some (nat_lit 45)), none⟩,
  .ins ⟨(.p (.fieldAddr (nat_lit 4))), [.tmp (nat_lit 8)], (some (nat_lit 46)), (some ((nat_lit 45), false))⟩,
  .ins ⟨(.r (.load false (nat_lit 1))), [.tmp (nat_lit 46)], (some (nat_lit 47)), (some ((nat_lit 45), false))⟩,
  .ins ⟨(.c .value), [.const (.func (.func (nat_lit 126)) [] []), .tmp (nat_lit 47)], (some (nat_lit 48)), (some ((nat_lit 45), false))⟩,
  .ins ⟨(.p (.un .not)), [.tmp (nat_lit 48)], (some (nat_lit 49)), (some ((nat_lit 45), false))⟩,
  .ins ⟨(.p .pick), [.tmp (nat_lit 45), .const (.bool true), .tmp (nat_lit 49)], (some (nat_lit 50)), none⟩,
  .ins ⟨(.p .mv), [.tmp (nat_lit 50)], (some (nat_lit 51)), none⟩,
  .ins ⟨(.p .mv), [.tmp (nat_lit 4)], (some (nat_lit 52)), (some ((nat_lit 51), false))⟩,
  .ins ⟨(.c .value), [.const (.func (.func (nat_lit 126)) [] []), .tmp (nat_lit 52)], (some (nat_lit 53)), (some ((nat_lit 51), false))⟩,
  .ins ⟨(.p (.un .not)), [.tmp (nat_lit 53)], (some (nat_lit 54)), (some ((nat_lit 51), false))⟩,
  .ins ⟨(.p .pick), [.tmp (nat_lit 51), .const (.bool true), .tmp (nat_lit 54)], (some (nat_lit 55)), none⟩])
 (.cond (.tmp (nat_lit 55)) (.seq (.region [
  .ins ⟨(.p .mv), [.const (.ptr none)], (some (nat_lit 10)), none⟩,
  .ins ⟨(.p .mv), [.const (.int .i64 (.ofNat (nat_lit 1)))], (some (nat_lit 11)), none⟩])
 .ret)
 .skip))
 (.seq (.region [
  .ins ⟨(.p .mv), [.tmp (nat_lit 0)], (some (nat_lit 57)), none⟩,
  .ins ⟨(.r (.load true (nat_lit 5))), [.tmp (nat_lit 7)], (some (nat_lit 58)), none⟩,
  .ins ⟨(.c .value), [.const (.func (.func (nat_lit 127)) [] []), .tmp (nat_lit 57), .tmp (nat_lit 58)], (some (nat_lit 59)), none⟩,
  .ins ⟨(.p .mv), [.tmp (nat_lit 59)], (some (nat_lit 56)), none⟩,
  .ins ⟨(.p (.extract (nat_lit 0))), [.tmp (nat_lit 56)], (some (nat_lit 60)), none⟩,
  .ins ⟨(.p (.extract (nat_lit 1))), [.tmp (nat_lit 56)], (some (nat_lit 61)), none⟩,
  .ins ⟨(.p .mv), [.tmp (nat_lit 60)], (some (nat_lit 12)), none⟩,
  .ins ⟨(.p .mv), [.tmp (nat_lit 61)], (some (nat_lit 13)), none⟩])
 (.seq (.seq (.region [
  .ins ⟨(.p .mv), [.tmp (nat_lit 13)], (some (nat_lit 62)), none⟩,
  .ins ⟨(.p (.bini .neq)), [.tmp (nat_lit 62), .const (.int .i64 (.ofNat (nat_lit 0)))], (some (nat_lit 63)), none⟩])
 (.cond (.tmp (nat_lit 63)) (.seq (.region [
  .ins ⟨(.p .mv), [.tmp (nat_lit 13)], (some (nat_lit 64)), none⟩,
  .ins ⟨(.p .mv), [.const (.ptr none)], (some (nat_lit 10)), none⟩,
  .ins ⟨(.p .mv), [.tmp (nat_lit 64)], (some (nat_lit 11)), none⟩])
 .ret)
 .skip))
 (.seq (.region [
  .ins ⟨(.p .mv), [.tmp (nat_lit 0)], (some (nat_lit 65)), none⟩,
  .ins ⟨(.p .mv), [.tmp (nat_lit 1)], (some (nat_lit 66)), none⟩,
  .ins ⟨(.r (.load true (nat_lit 5))), [.tmp (nat_lit 7)], (some (nat_lit 67)), none⟩,
  .ins ⟨(.r (.load true (nat_lit 5))), [.tmp (nat_lit 8)], (some (nat_lit 68)), none⟩,
  .ins ⟨(.p .mv), [.tmp (nat_lit 4)], (some (nat_lit 69)), none⟩,
  .ins ⟨(.p .mv), [.tmp (nat_lit 12)], (some (nat_lit 70)), none⟩,
  .ins ⟨(.c .value), [.const (.func (.func (nat_lit 128)) [] [])], (some (nat_lit 71)), none⟩,
  .ins ⟨(.p (.build [(.int .i64 (.ofNat (nat_lit 0))), (.int .i64 (.ofNat (nat_lit 0))), (.int .i64 (.ofNat (nat_lit 0))), (.int .i64 (.ofNat (nat_lit 0))), (.int .i64 (.ofNat (nat_lit 0))), (.int .i64 (.ofNat (nat_lit 0))), (.int .i64 (.ofNat (nat_lit 0))), (.int .i64 (.ofNat (nat_lit 0))), (.int .i64 (.ofNat (nat_lit 0))), (.int .i64 (.ofNat (nat_lit 0))), (.int .i64 (.ofNat (nat_lit 0))), (.int .i64 (.ofNat (nat_lit 0))), (.int .i64 (.ofNat (nat_lit 0))), (.ptr none), (.ptr none), (.ptr none), (.bool false), (.int .i64 (.ofNat (nat_lit 0))), (.slice none (nat_lit 0) (nat_lit 0) (nat_lit 0)), (.slice none (nat_lit 0) (nat_lit 0) (nat_lit 0)), (.bool false), (.slice none (nat_lit 0) (nat_lit 0) (nat_lit 0)), (.slice none (nat_lit 0) (nat_lit 0) (nat_lit 0))] [((nat_lit 0), (nat_lit 1)), ((nat_lit 1), (nat_lit 1)), ((nat_lit 2), (nat_lit 5)), ((nat_lit 7), (nat_lit 5)), ((nat_lit 12), (nat_lit 1)), ((nat_lit 13), (nat_lit 1)), ((nat_lit 15), (nat_lit 1))])), [.tmp (nat_lit 65), .tmp (nat_lit 66), .tmp (nat_lit 67), .tmp (nat_lit 68), .tmp (nat_lit 69), .tmp (nat_lit 70), .tmp (nat_lit 71)], (some (nat_lit 72)), none⟩,
  .ins ⟨(.a .box), [.tmp (nat_lit 72)], (some (nat_lit 73)), none⟩,
  .ins ⟨(.p .mv), [.tmp (nat_lit 73)], (some (nat_lit 14)), none⟩,
  .again ⟨(.r (.load true (nat_lit 5))), [.tmp (nat_lit 7)], (some (nat_lit 67)), none⟩,
  .again ⟨(.r (.load true (nat_lit 5))), [.tmp (nat_lit 8)], (some (nat_lit 68)), none⟩])
 (.seq (.region [
  .ins ⟨(.p .mv), [.tmp (nat_lit 14)], (some (nat_lit 75)), none⟩,
  .ins ⟨(.p .mv), [.tmp (nat_lit 0)], (some (nat_lit 76)), none⟩,
  .ins ⟨(.c .value), [.const (.func (.func (nat_lit 129)) [] []), .tmp (nat_lit 76)], (some (nat_lit 77)), none⟩,
  .ins ⟨(.p .mv), [.tmp (nat_lit 77)], (some (nat_lit 74)), none⟩,
  .ins ⟨(.p (.extract (nat_lit 0))), [.tmp (nat_lit 74)], (some (nat_lit 78)), none⟩,
  .ins ⟨(.p (.extract (nat_lit 1))), [.tmp (nat_lit 74)], (some (nat_lit 79)), none⟩,
  .ins ⟨(.p .nilck), [.tmp (nat_lit 75)], (some (nat_lit 80)), none⟩,
  .ins ⟨(.p (.fieldAddr (nat_lit 14))), [.tmp (nat_lit 80)], (some (nat_lit 81)), none⟩,
  .ins ⟨(.l (.store (nat_lit 1))), [.tmp (nat_lit 81), .tmp (nat_lit 78)], none, none⟩])
 (.seq (.region [
  .ins ⟨(.p .mv), [.tmp (nat_lit 14)], (some (nat_lit 82)), none⟩,
  .ins ⟨(.c .value), [.const (.func (.func (nat_lit 60)) [] []), .tmp (nat_lit 82), .const (.int .i64 (.ofNat (nat_lit 2)))], (some (nat_lit 83)), none⟩])
 (.seq (.seq (.region [
  .ins ⟨(.p .mv), [.tmp (nat_lit 1)], (some (nat_lit 84)), none⟩,
  .ins ⟨(.p (.bini .eql)), [.tmp (nat_lit 84), .const (.int .i64 (.ofNat (nat_lit 0)))], (some (nat_lit 85)), none⟩])
 (.cond (.tmp (nat_lit 85)) (.region [
  .ins ⟨(.p .mv), [.tmp (nat_lit 14)], (some (nat_lit 86)), none⟩,
  .ins ⟨(.c .value), [.const (.func (.func (nat_lit 83)) [] []), .tmp (nat_lit 86)], (some (nat_lit 87)), none⟩])
 .skip))
 (.seq (.region [
  .ins ⟨(.p .mv), [.tmp (nat_lit 14)], (some (nat_lit 88)), none⟩,
  .ins ⟨(.p .mv), [.tmp (nat_lit 88)], (some (nat_lit 10)), none⟩,
  .ins ⟨(.p .mv), [.const (.int .i64 (.ofNat (nat_lit 0)))], (some (nat_lit 11)), none⟩])
 .ret)))))))))⟩

def c68 : Code' := .fn ⟨(nat_lit 5), [.tmp (nat_lit 0)],
 (.seq (.region [
  .ins ⟨(.p .mv), [.const (.slice none (nat_lit 0) (nat_lit 0) (nat_lit 0))], (some (nat_lit 0)), none⟩])
 (.seq (.region [
  .ins ⟨(.p (.build [(.str (bs [])), (.str (bs [])), (.bool false)] [((nat_lit 0), (nat_lit 1)), ((nat_lit 1), (nat_lit 1))])), [.const (.str (bs [(nat_lit 58), (nat_lit 109), (nat_lit 101), (nat_lit 116), (nat_lit 104), (nat_lit 111), (nat_lit 100)])), .const (.str (bs [(nat_lit 71), (nat_lit 69), (nat_lit 84)]))], (some (nat_lit 1)), none⟩,
  .ins ⟨(.p (.build [(.str (bs [])), (.str (bs [])), (.bool false)] [((nat_lit 0), (nat_lit 1)), ((nat_lit 1), (nat_lit 1))])), [.const (.str (bs [(nat_lit 58), (nat_lit 115), (nat_lit 99), (nat_lit 104), (nat_lit 101), (nat_lit 109), (nat_lit 101)])), .const (.str (bs [(nat_lit 104), (nat_lit 116), (nat_lit 116), (nat_lit 112)]))], (some (nat_lit 2)), none⟩,
  .ins ⟨(.p (.build [(.str (bs [])), (.str (bs [])), (.bool false)] [((nat_lit 0), (nat_lit 1)), ((nat_lit 1), (nat_lit 1))])), [.const (.str (bs [(nat_lit 58), (nat_lit 112), (nat_lit 97), (nat_lit 116), (nat_lit 104)])), .const (.str (bs [(nat_lit 47)]))], (some (nat_lit 3)), none⟩,
  .ins ⟨(.a (.buildSlice [(.str (bs [])), (.str (bs [])), (.bool false), (.str (bs [])), (.str (bs [])), (.bool false), (.str (bs [])), (.str (bs [])), (.bool false)] (nat_lit 3) [((nat_lit 0), (nat_lit 3)), ((nat_lit 3), (nat_lit 3)), ((nat_lit 6), (nat_lit 3))])), [.tmp (nat_lit 1), .tmp (nat_lit 2), .tmp (nat_lit 3)], (some (nat_lit 4)), none⟩,
  .ins ⟨(.p .mv), [.tmp (nat_lit 4)], (some (nat_lit 0)), none⟩])
 .ret))⟩

def c70 : Code' := .fn ⟨(nat_lit 6), [.cell (nat_lit 0) true (nat_lit 5)],
 (.seq (.region [
  .ins ⟨(.a (.alloc [(.int .i64 (.ofNat (nat_lit 0))), (.int .i64 (.ofNat (nat_lit 0))), (.int .i64 (.ofNat (nat_lit 0))), (.int .i64 (.ofNat (nat_lit 0))), (.int .i64 (.ofNat (nat_lit 0)))])), [], (some (nat_lit 0)), none⟩])
 (.seq (.region [
  .ins ⟨(.c .value), [.const (.func (.func (nat_lit 15)) [] [])], (some (nat_lit 2)), none⟩,
  .ins ⟨(.a (.alloc [(.int .i64 (.ofNat (nat_lit 0))), (.int .i64 (.ofNat (nat_lit 0))), (.int .i64 (.ofNat (nat_lit 0))), (.int .i64 (.ofNat (nat_lit 0))), (.int .i64 (.ofNat (nat_lit 0)))])), [], (some (nat_lit 1)), none⟩,
  .ins ⟨(.l (.store (nat_lit 5))), [.tmp (nat_lit 1), .tmp (nat_lit 2)], none, none⟩])
 (.seq (.region [
  .ins ⟨(.p (.fieldAddr (nat_lit 1))), [.tmp (nat_lit 1)], (some (nat_lit 3)), none⟩,
  .ins ⟨(.l (.store (nat_lit 1))), [.tmp (nat_lit 3), .const (.int .i64 (.ofNat (nat_lit 10)))], none, none⟩])
 (.seq (.region [
  .ins ⟨(.p (.fieldAddr (nat_lit 4))), [.tmp (nat_lit 1)], (some (nat_lit 4)), none⟩,
  .ins ⟨(.l (.store (nat_lit 1))), [.tmp (nat_lit 4), .const (.int .i64 (.ofNat (nat_lit 1000)))], none, none⟩])
 (.seq (.region [
  .ins ⟨(.r (.load true (nat_lit 5))), [.tmp (nat_lit 1)], (some (nat_lit 5)), none⟩,
  .ins ⟨(.l (.store (nat_lit 5))), [.tmp (nat_lit 0), .tmp (nat_lit 5)], none, none⟩])
 .ret)))))⟩

def c71 : Code' := .fn ⟨(nat_lit 50), [],
 (.scope (.seq (.region [
  .ins ⟨(.r (.load true (nat_lit 21))), [.tmp (nat_lit 1)], (some (nat_lit 13)), none⟩,
  .ins ⟨(.c .value), [.const (.func (.func (nat_lit 30)) [] []), .tmp (nat_lit 13)], (some (nat_lit 14)), none⟩,
  .ins ⟨(.p .mv), [.tmp (nat_lit 14)], (some (nat_lit 12)), none⟩,
  .ins ⟨(.p (.extract (nat_lit 0))), [.tmp (nat_lit 12)], (some (nat_lit 15)), none⟩,
  .ins ⟨(.p (.extract (nat_lit 1))), [.tmp (nat_lit 12)], (some (nat_lit 16)), none⟩,
  .ins ⟨(.p .mv), [.tmp (nat_lit 15)], (some (nat_lit 4)), none⟩,
  .ins ⟨(.p .mv), [.tmp (nat_lit 16)], (some (nat_lit 5)), none⟩])
 (.seq (.seq (.region [
  .ins ⟨(.p .mv), [.tmp (nat_lit 5)], (some (nat_lit 17)), none⟩,
  .ins ⟨(.p (.bini .neq)), [.tmp (nat_lit 17), .const (.int .i64 (.ofNat (nat_lit 0)))], (some (nat_lit 18)), none⟩,
  .ins ⟨(.p .mv), [.tmp (nat_lit 18)], (some (nat_lit 19)), none⟩,
  .ins ⟨(.r (.load false (nat_lit 1))), [.tmp (nat_lit 2)], (some (nat_lit 20)), (some ((nat_lit 19), false))⟩,
  .ins ⟨(.p .lenSl), [.tmp (nat_lit 20)], (some (nat_lit 21)), (some ((nat_lit 19), false))⟩,
  .ins ⟨(.p (.bini .gtr)), [.tmp (nat_lit 21), .const (.int .i64 (.ofNat (nat_lit 4096)))], (some (nat_lit 22)), (some ((nat_lit 19), false))⟩,
  .ins ⟨(.p .pick), [.tmp (nat_lit 19), .const (.bool true), .tmp (nat_lit 22)], (some (nat_lit 23)), none⟩])
 (.cond (.tmp (nat_lit 23)) .ret
 .skip))
 (.seq .skip
 (.seq (.region [
  .ins ⟨(.r (.load false (nat_lit 1))), [.tmp (nat_lit 2)], (some (nat_lit 24)), none⟩,
  .ins ⟨(.p .lenSl), [.tmp (nat_lit 24)], (some (nat_lit 25)), none⟩,
  .ins ⟨(.p .mv), [.const (.int .i64 (.ofNat (nat_lit 0)))], (some (nat_lit 26)), none⟩])
 (.block (nat_lit 0) (.loop (.seq (.region [
  .ins ⟨(.p (.bini .lss)), [.tmp (nat_lit 26), .tmp (nat_lit 25)], (some (nat_lit 27)), none⟩])
 (.seq (.cond (.tmp (nat_lit 27)) .skip
 (.exit (nat_lit 0)))
 (.seq (.block (nat_lit 1) (.seq (.region [
  .ins ⟨(.p .mv), [.tmp (nat_lit 26)], (some (nat_lit 28)), none⟩,
  .ins ⟨(.p (.indexAddr (nat_lit 12))), [.tmp (nat_lit 24), .tmp (nat_lit 26)], (some (nat_lit 29)), none⟩,
  .ins ⟨(.r (.load true (nat_lit 12))), [.tmp (nat_lit 29)], (some (nat_lit 30)), none⟩,
  .ins ⟨(.a (.alloc [(.int .i64 (.ofNat (nat_lit 0))), (.int .i64 (.ofNat (nat_lit 0))), (.int .i64 (.ofNat (nat_lit 0))), (.int .i64 (.ofNat (nat_lit 0))), (.slice none (nat_lit 0) (nat_lit 0) (nat_lit 0)), (.slice none (nat_lit 0) (nat_lit 0) (nat_lit 0)), (.bool false), (.int .i64 (.ofNat (nat_lit 0))), (.int .i64 (.ofNat (nat_lit 0))), (.int .i64 (.ofNat (nat_lit 0))), (.int .i64 (.ofNat (nat_lit 0))), (.int .i64 (.ofNat (nat_lit 0)))])), [], (some (nat_lit 7)), none⟩,
  .ins ⟨(.p .mv), [.tmp (nat_lit 28)], (some (nat_lit 6)), none⟩,
  .ins ⟨(.l (.store (nat_lit 12))), [.tmp (nat_lit 7), .tmp (nat_lit 30)], none, none⟩])
 (.seq (.region [
  .ins ⟨(.p .mv), [.tmp (nat_lit 4)], (some (nat_lit 32)), none⟩,
  .ins ⟨(.r (.load true (nat_lit 12))), [.tmp (nat_lit 7)], (some (nat_lit 33)), none⟩,
  .ins ⟨(.c .value), [.const (.func (.func (nat_lit 28)) [] []), .tmp (nat_lit 32), .tmp (nat_lit 33)], (some (nat_lit 34)), none⟩,
  .ins ⟨(.p .mv), [.tmp (nat_lit 34)], (some (nat_lit 31)), none⟩,
  .ins ⟨(.p (.extract (nat_lit 0))), [.tmp (nat_lit 31)], (some (nat_lit 35)), none⟩,
  .ins ⟨(.p (.extract (nat_lit 1))), [.tmp (nat_lit 31)], (some (nat_lit 36)), none⟩,
  .ins ⟨(.p .mv), [.tmp (nat_lit 35)], (some (nat_lit 8)), none⟩,
  .ins ⟨(.p .mv), [.tmp (nat_lit 36)], (some (nat_lit 9)), none⟩])
 (.seq (.region [
  .ins ⟨(.p .mv), [.tmp (nat_lit 8)], (some (nat_lit 37)), none⟩,
  .ins ⟨(.p .lenSl), [.tmp (nat_lit 37)], (some (nat_lit 38)), none⟩,
  .ins ⟨(.p .mv), [.const (.int .i64 (.ofNat (nat_lit 0)))], (some (nat_lit 39)), none⟩])
 (.block (nat_lit 2) (.loop (.seq (.region [
  .ins ⟨(.p (.bini .lss)), [.tmp (nat_lit 39), .tmp (nat_lit 38)], (some (nat_lit 40)), none⟩])
 (.seq (.cond (.tmp (nat_lit 40)) .skip
 (.exit (nat_lit 2)))
 (.seq (.block (nat_lit 3) (.seq (.region [
  .ins ⟨(.p (.indexAddr (nat_lit 8))), [.tmp (nat_lit 37), .tmp (nat_lit 39)], (some (nat_lit 41)), none⟩,
  .ins ⟨(.r (.load true (nat_lit 8))), [.tmp (nat_lit 41)], (some (nat_lit 42)), none⟩,
  .ins ⟨(.a (.alloc [(.int .i64 (.ofNat (nat_lit 0))), (.int .i64 (.ofNat (nat_lit 0))), (.int .i64 (.ofNat (nat_lit 0))), (.slice none (nat_lit 0) (nat_lit 0) (nat_lit 0)), (.slice none (nat_lit 0) (nat_lit 0) (nat_lit 0)), (.bool false), (.int .i64 (.ofNat (nat_lit 0))), (.int .i64 (.ofNat (nat_lit 0)))])), [], (some (nat_lit 11)), none⟩,
  .ins ⟨(.l (.store (nat_lit 8))), [.tmp (nat_lit 11), .tmp (nat_lit 42)], none, none⟩])
 (.seq (.region [
  .ins ⟨(.p .mv), [.tmp (nat_lit 0)], (some (nat_lit 43)), none⟩,
  .ins ⟨(.p .mv), [.tmp (nat_lit 6)], (some (nat_lit 44)), none⟩,
  .ins ⟨(.r (.load true (nat_lit 8))), [.tmp (nat_lit 11)], (some (nat_lit 45)), none⟩,
  .ins ⟨(.c .value), [.tmp (nat_lit 43), .tmp (nat_lit 44), .tmp (nat_lit 45)], (some (nat_lit 46)), none⟩,
  .ins ⟨(.p (.un .not)), [.tmp (nat_lit 46)], (some (nat_lit 47)), none⟩])
 (.cond (.tmp (nat_lit 47)) (.exit (nat_lit 0))
 .skip))))
 (.region [
  .ins ⟨(.p (.bini .add)), [.tmp (nat_lit 39), .const (.int .i64 (.ofNat (nat_lit 1)))], (some (nat_lit 48)), none⟩,
  .ins ⟨(.p .mv), [.tmp (nat_lit 48)], (some (nat_lit 39)), none⟩]))))))))))
 (.region [
  .ins ⟨(.p (.bini .add)), [.tmp (nat_lit 26), .const (.int .i64 (.ofNat (nat_lit 1)))], (some (nat_lit 49)), none⟩,
  .ins ⟨(.p .mv), [.tmp (nat_lit 49)], (some (nat_lit 26)), none⟩])))))))))))⟩

def c72 : Code' := .fn ⟨(nat_lit 54), [.tmp (nat_lit 4)],
 (.seq (.region [
  .ins ⟨(.a .box), [.tmp (nat_lit 1)], (some (nat_lit 3)), none⟩,
  .ins ⟨(.p .mv), [.const (.bool false)], (some (nat_lit 4)), none⟩])
 (.seq (.seq (.region [
  .ins ⟨(.p (.fieldAddr (nat_lit 0))), [.tmp (nat_lit 3)], (some (nat_lit 5)), none⟩,
  .ins ⟨(.r (.load false (nat_lit 1))), [.tmp (nat_lit 5)], (some (nat_lit 6)), none⟩])
 (.block (nat_lit 0) (.seq (.seq (.region [
  .ins ⟨(.p (.bini .eql)), [.tmp (nat_lit 6), .const (.int .i64 (.ofNat (nat_lit 1)))], (some (nat_lit 8)), none⟩,
  .ins ⟨(.p .mv), [.tmp (nat_lit 8)], (some (nat_lit 7)), none⟩])
 (.cond (.tmp (nat_lit 7)) .skip
 (.seq (.region [
  .ins ⟨(.p (.bini .eql)), [.tmp (nat_lit 6), .const (.int .i64 (.ofNat (nat_lit 3)))], (some (nat_lit 9)), none⟩,
  .ins ⟨(.p .mv), [.tmp (nat_lit 9)], (some (nat_lit 7)), none⟩])
 (.cond (.tmp (nat_lit 7)) .skip
 (.region [
  .ins ⟨(.p (.bini .eql)), [.tmp (nat_lit 6), .const (.int .i64 (.ofNat (nat_lit 9)))], (some (nat_lit 10)), none⟩,
  .ins ⟨(.p .mv), [.tmp (nat_lit 10)], (some (nat_lit 7)), none⟩])))))
 (.cond (.tmp (nat_lit 7)) (.seq (.region [
  .ins ⟨(.p .mv), [.const (.bool true)], (some (nat_lit 4)), none⟩])
 .ret)
 (.seq (.region [
  .ins ⟨(.p (.bini .eql)), [.tmp (nat_lit 6), .const (.int .i64 (.ofNat (nat_lit 6)))], (some (nat_lit 12)), none⟩,
  .ins ⟨(.p .mv), [.tmp (nat_lit 12)], (some (nat_lit 11)), none⟩])
 (.cond (.tmp (nat_lit 11)) (.seq (.region [
  .ins ⟨(.p (.fieldAddr (nat_lit 3))), [.tmp (nat_lit 3)], (some (nat_lit 13)), none⟩,
  .ins ⟨(.r (.load false (nat_lit 1))), [.tmp (nat_lit 13)], (some (nat_lit 14)), none⟩,
  .ins ⟨(.p (.bini .geq)), [.tmp (nat_lit 14), .const (.int .i64 (.ofNat (nat_lit 0)))], (some (nat_lit 15)), none⟩,
  .ins ⟨(.p .mv), [.tmp (nat_lit 15)], (some (nat_lit 16)), none⟩,
  .ins ⟨(.p (.fieldAddr (nat_lit 3))), [.tmp (nat_lit 3)], (some (nat_lit 17)), (some ((nat_lit 16), true))⟩,
  .ins ⟨(.r (.load false (nat_lit 1))), [.tmp (nat_lit 17)], (some (nat_lit 18)), (some ((nat_lit 16), true))⟩,
  .ins ⟨(.p (.bini .leq)), [.tmp (nat_lit 18), .const (.int .i64 (.ofNat (nat_lit 1099511627776)))], (some (nat_lit 19)), (some ((nat_lit 16), true))⟩,
  .ins ⟨(.p .pick), [.tmp (nat_lit 16), .tmp (nat_lit 19), .const (.bool false)], (some (nat_lit 20)), none⟩,
  .ins ⟨(.p .mv), [.tmp (nat_lit 20)], (some (nat_lit 21)), none⟩,
  .ins ⟨(.p .mv), [.tmp (nat_lit 0)], (some (nat_lit 22)), (some ((nat_lit 21), true))⟩,
  .ins ⟨(.p .nilck), [.tmp (nat_lit 22)], (some (nat_lit 23)), (some ((nat_lit 21), true))⟩,
  .ins ⟨(.p (.fieldAddr (nat_lit 4))), [.tmp (nat_lit 23)], (some (nat_lit 24)), (some ((nat_lit 21), true))⟩,
  .ins ⟨(.r (.load false (nat_lit 1))), [.tmp (nat_lit 24)], (some (nat_lit 25)), (some ((nat_lit 21), true))⟩,
  .ins ⟨(.p (.fieldAddr (nat_lit 3))), [.tmp (nat_lit 3)], (some (nat_lit 26)), (some ((nat_lit 21), true))⟩,
  .ins ⟨(.r (.load false (nat_lit 1))), [.tmp (nat_lit 26)], (some (nat_lit 27)), (some ((nat_lit 21), true))⟩,
  .ins ⟨(.p (.bini .add)), [.tmp (nat_lit 25), .tmp (nat_lit 27)], (some (nat_lit 28)), (some ((nat_lit 21), true))⟩,
  .ins ⟨(.p (.bini .leq)), [.tmp (nat_lit 28), .const (.int .i64 (.ofNat (nat_lit 1099511627776)))], (some (nat_lit 29)), (some ((nat_lit 21), true))⟩,
  .ins ⟨(.p .pick), [.tmp (nat_lit 21), .tmp (nat_lit 29), .const (.bool false)], (some (nat_lit 30)), none⟩,
  .ins ⟨(.p .mv), [.tmp (nat_lit 30)], (some (nat_lit 4)), none⟩])
 .ret)
 (.seq (.region [
  .ins ⟨(.p (.bini .eql)), [.tmp (nat_lit 6), .const (.int .i64 (.ofNat (nat_lit 5)))], (some (nat_lit 32)), none⟩,
  .ins ⟨(.p .mv), [.tmp (nat_lit 32)], (some (nat_lit 31)), none⟩])
 (.cond (.tmp (nat_lit 31)) (.seq (.region [
  .ins ⟨(.p (.fieldAddr (nat_lit 3))), [.tmp (nat_lit 3)], (some (nat_lit 33)), none⟩,
  .ins ⟨(.r (.load false (nat_lit 1))), [.tmp (nat_lit 33)], (some (nat_lit 34)), none⟩,
  .ins ⟨(.p (.bini .lss)), [.tmp (nat_lit 34), .const (.int .i64 (.ofNat (nat_lit 1)))], (some (nat_lit 35)), none⟩,
  .ins ⟨(.p .mv), [.tmp (nat_lit 35)], (some (nat_lit 36)), none⟩,
  .ins ⟨(.p (.fieldAddr (nat_lit 3))), [.tmp (nat_lit 3)], (some (nat_lit 37)), (some ((nat_lit 36), false))⟩,
  .ins ⟨(.r (.load false (nat_lit 1))), [.tmp (nat_lit 37)], (some (nat_lit 38)), (some ((nat_lit 36), false))⟩,
  .ins ⟨(.p (.bini .gtr)), [.tmp (nat_lit 38), .const (.int .i64 (.ofNat (nat_lit 1048576)))], (some (nat_lit 39)), (some ((nat_lit 36), false))⟩,
  .ins ⟨(.p .pick), [.tmp (nat_lit 36), .const (.bool true), .tmp (nat_lit 39)], (some (nat_lit 40)), none⟩])
 (.cond (.tmp (nat_lit 40)) (.seq (.region [
  .ins ⟨(.p .mv), [.const (.bool false)], (some (nat_lit 4)), none⟩])
 .ret)
 .skip))
 (.seq (.seq (.region [
  .ins ⟨(.p (.bini .eql)), [.tmp (nat_lit 6), .const (.int .i64 (.ofNat (nat_lit 2)))], (some (nat_lit 42)), none⟩,
  .ins ⟨(.p .mv), [.tmp (nat_lit 42)], (some (nat_lit 41)), none⟩])
 (.cond (.tmp (nat_lit 41)) .skip
 (.seq (.region [
  .ins ⟨(.p (.bini .eql)), [.tmp (nat_lit 6), .const (.int .i64 (.ofNat (nat_lit 4)))], (some (nat_lit 43)), none⟩,
  .ins ⟨(.p .mv), [.tmp (nat_lit 43)], (some (nat_lit 41)), none⟩])
 (.cond (.tmp (nat_lit 41)) .skip
 (.seq (.region [
  .ins ⟨(.p (.bini .eql)), [.tmp (nat_lit 6), .const (.int .i64 (.ofNat (nat_lit 7)))], (some (nat_lit 44)), none⟩,
  .ins ⟨(.p .mv), [.tmp (nat_lit 44)], (some (nat_lit 41)), none⟩])
 (.cond (.tmp (nat_lit 41)) .skip
 (.region [
  .ins ⟨(.p (.bini .eql)), [.tmp (nat_lit 6), .const (.int .i64 (.ofNat (nat_lit 8)))], (some (nat_lit 45)), none⟩,
  .ins ⟨(.p .mv), [.tmp (nat_lit 45)], (some (nat_lit 41)), none⟩])))))))
 (.cond (.tmp (nat_lit 41)) .skip
 (.seq (.region [
  .ins ⟨(.p .mv), [.const (.bool false)], (some (nat_lit 4)), none⟩])
 .ret)))))))))))
 (.seq (.region [
  .ins ⟨(.p (.fieldAddr (nat_lit 1))), [.tmp (nat_lit 3)], (some (nat_lit 46)), none⟩,
  .ins ⟨(.r (.load false (nat_lit 1))), [.tmp (nat_lit 46)], (some (nat_lit 47)), none⟩,
  .ins ⟨(.p (.bini .eql)), [.tmp (nat_lit 47), .const (.int .i64 (.ofNat (nat_lit 1)))], (some (nat_lit 48)), none⟩,
  .ins ⟨(.p .mv), [.tmp (nat_lit 48)], (some (nat_lit 49)), none⟩,
  .ins ⟨(.p (.fieldAddr (nat_lit 1))), [.tmp (nat_lit 3)], (some (nat_lit 50)), (some ((nat_lit 49), false))⟩,
  .ins ⟨(.r (.load false (nat_lit 1))), [.tmp (nat_lit 50)], (some (nat_lit 51)), (some ((nat_lit 49), false))⟩,
  .ins ⟨(.p (.bini .eql)), [.tmp (nat_lit 51), .const (.int .i64 (.ofNat (nat_lit 2)))], (some (nat_lit 52)), (some ((nat_lit 49), false))⟩,
  .ins ⟨(.p .pick), [.tmp (nat_lit 49), .const (.bool true), .tmp (nat_lit 52)], (some (nat_lit 53)), none⟩,
  .ins ⟨(.p .mv), [.tmp (nat_lit 53)], (some (nat_lit 4)), none⟩])
 .ret)))⟩

def c73 : Code' := .fn ⟨(nat_lit 106), [.tmp (nat_lit 4), .tmp (nat_lit 5)],
 (.seq (.region [
  .ins ⟨(.a .box), [.tmp (nat_lit 1)], (some (nat_lit 3)), none⟩,
  .ins ⟨(.p .mv), [.const (.slice none (nat_lit 0) (nat_lit 0) (nat_lit 0))], (some (nat_lit 4)), none⟩,
  .ins ⟨(.p .mv), [.const (.int .i64 (.ofNat (nat_lit 0)))], (some (nat_lit 5)), none⟩])
 (.seq (.region [
  .ins ⟨(.p .mv), [.tmp (nat_lit 0)], (some (nat_lit 12)), none⟩,
  .ins ⟨(.p (.fieldAddr (nat_lit 1))), [.tmp (nat_lit 3)], (some (nat_lit 13)), none⟩,
  .ins ⟨(.r (.load false (nat_lit 1))), [.tmp (nat_lit 13)], (some (nat_lit 14)), none⟩,
  .ins ⟨(.c .value), [.const (.func (.func (nat_lit 75)) [] []), .tmp (nat_lit 12), .tmp (nat_lit 14)], (some (nat_lit 15)), none⟩,
  .ins ⟨(.p .mv), [.tmp (nat_lit 15)], (some (nat_lit 11)), none⟩,
  .ins ⟨(.p (.extract (nat_lit 0))), [.tmp (nat_lit 11)], (some (nat_lit 16)), none⟩,
  .ins ⟨(.p (.extract (nat_lit 1))), [.tmp (nat_lit 11)], (some (nat_lit 17)), none⟩,
  .ins ⟨(.p .mv), [.tmp (nat_lit 16)], (some (nat_lit 6)), none⟩,
  .ins ⟨(.p .mv), [.tmp (nat_lit 17)], (some (nat_lit 7)), none⟩])
 (.seq (.seq (.region [
  .ins ⟨(.p (.fieldAddr (nat_lit 0))), [.tmp (nat_lit 3)], (some (nat_lit 18)), none⟩,
  .ins ⟨(.r (.load false (nat_lit 1))), [.tmp (nat_lit 18)], (some (nat_lit 19)), none⟩])
 (.block (nat_lit 0) (.seq (.seq (.region [
  .ins ⟨(.p (.bini .eql)), [.tmp (nat_lit 19), .const (.int .i64 (.ofNat (nat_lit 1)))], (some (nat_lit 21)), none⟩,
  .ins ⟨(.p .mv), [.tmp (nat_lit 21)], (some (nat_lit 20)), none⟩])
 (.cond (.tmp (nat_lit 20)) .skip
 (.seq (.region [
  .ins ⟨(.p (.bini .eql)), [.tmp (nat_lit 19), .const (.int .i64 (.ofNat (nat_lit 3)))], (some (nat_lit 22)), none⟩,
  .ins ⟨(.p .mv), [.tmp (nat_lit 22)], (some (nat_lit 20)), none⟩])
 (.cond (.tmp (nat_lit 20)) .skip
 (.region [
  .ins ⟨(.p (.bini .eql)), [.tmp (nat_lit 19), .const (.int .i64 (.ofNat (nat_lit 2)))], (some (nat_lit 23)), none⟩,
  .ins ⟨(.p .mv), [.tmp (nat_lit 23)], (some (nat_lit 20)), none⟩])))))
 (.cond (.tmp (nat_lit 20)) (.seq (.region [
  .ins ⟨(.p .mv), [.tmp (nat_lit 0)], (some (nat_lit 24)), none⟩,
  .ins ⟨(.r (.load true (nat_lit 12))), [.tmp (nat_lit 3)], (some (nat_lit 25)), none⟩,
  .ins ⟨(.c .value), [.const (.func (.func (nat_lit 130)) [] []), .tmp (nat_lit 24), .tmp (nat_lit 25)], (some (nat_lit 26)), none⟩,
  .ins ⟨(.p (.extract (nat_lit 0))), [.tmp (nat_lit 26)], (some (nat_lit 27)), none⟩,
  .ins ⟨(.p (.extract (nat_lit 1))), [.tmp (nat_lit 26)], (some (nat_lit 28)), none⟩,
  .ins ⟨(.p .mv), [.tmp (nat_lit 27)], (some (nat_lit 4)), none⟩,
  .ins ⟨(.p .mv), [.tmp (nat_lit 28)], (some (nat_lit 5)), none⟩])
 .ret)
 (.seq (.region [
  .ins ⟨(.p (.bini .eql)), [.tmp (nat_lit 19), .const (.int .i64 (.ofNat (nat_lit 4)))], (some (nat_lit 30)), none⟩,
  .ins ⟨(.p .mv), [.tmp (nat_lit 30)], (some (nat_lit 29)), none⟩])
 (.cond (.tmp (nat_lit 29)) (.seq (.region [
  .ins ⟨(.p .mv), [.tmp (nat_lit 6)], (some (nat_lit 32)), none⟩,
  .ins ⟨(.p (.fieldAddr (nat_lit 2))), [.tmp (nat_lit 3)], (some (nat_lit 33)), none⟩,
  .ins ⟨(.r (.load false (nat_lit 1))), [.tmp (nat_lit 33)], (some (nat_lit 34)), none⟩,
  .ins ⟨(.c .value), [.const (.func (.func (nat_lit 13)) [] []), .tmp (nat_lit 32), .tmp (nat_lit 34)], (some (nat_lit 35)), none⟩,
  .ins ⟨(.p .mv), [.tmp (nat_lit 35)], (some (nat_lit 31)), none⟩,
  .ins ⟨(.p (.extract (nat_lit 0))), [.tmp (nat_lit 31)], (some (nat_lit 36)), none⟩,
  .ins ⟨(.p (.extract (nat_lit 1))), [.tmp (nat_lit 31)], (some (nat_lit 37)), none⟩,
  .ins ⟨(.p .mv), [.tmp (nat_lit 36)], (some (nat_lit 8)), none⟩,
  .ins ⟨(.p .mv), [.tmp (nat_lit 37)], (some (nat_lit 9)), none⟩])
 (.seq (.region [
  .ins ⟨(.p (.fieldAddr (nat_lit 1))), [.tmp (nat_lit 3)], (some (nat_lit 38)), none⟩,
  .ins ⟨(.r (.load false (nat_lit 1))), [.tmp (nat_lit 38)], (some (nat_lit 39)), none⟩,
  .ins ⟨(.p .mv), [.tmp (nat_lit 8)], (some (nat_lit 40)), none⟩,
  .ins ⟨(.c .value), [.const (.func (.func (nat_lit 131)) [] []), .const (.slice none (nat_lit 0) (nat_lit 0) (nat_lit 0)), .tmp (nat_lit 39), .tmp (nat_lit 40)], (some (nat_lit 41)), none⟩,
  .ins ⟨(.p .mv), [.tmp (nat_lit 9)], (some (nat_lit 42)), none⟩,
  .ins ⟨(.p .mv), [.tmp (nat_lit 41)], (some (nat_lit 4)), none⟩,
  .ins ⟨(.p .mv), [.tmp (nat_lit 42)], (some (nat_lit 5)), none⟩])
 .ret))
 (.seq (.region [
  .ins ⟨(.p (.bini .eql)), [.tmp (nat_lit 19), .const (.int .i64 (.ofNat (nat_lit 5)))], (some (nat_lit 44)), none⟩,
  .ins ⟨(.p .mv), [.tmp (nat_lit 44)], (some (nat_lit 43)), none⟩])
 (.cond (.tmp (nat_lit 43)) (.seq (.region [
  .ins ⟨(.p .mv), [.tmp (nat_lit 0)], (some (nat_lit 45)), none⟩,
  .ins ⟨(.p (.fieldAddr (nat_lit 1))), [.tmp (nat_lit 3)], (some (nat_lit 46)), none⟩,
  .ins ⟨(.r (.load false (nat_lit 1))), [.tmp (nat_lit 46)], (some (nat_lit 47)), none⟩,
  .ins ⟨(.p (.fieldAddr (nat_lit 3))), [.tmp (nat_lit 3)], (some (nat_lit 48)), none⟩,
  .ins ⟨(.r (.load false (nat_lit 1))), [.tmp (nat_lit 48)], (some (nat_lit 49)), none⟩,
  .ins ⟨(.c .value), [.const (.func (.func (nat_lit 132)) [] []), .tmp (nat_lit 45), .tmp (nat_lit 47), .tmp (nat_lit 49)], (some (nat_lit 50)), none⟩,
  .ins ⟨(.p .mv), [.tmp (nat_lit 50)], (some (nat_lit 4)), none⟩,
  .ins ⟨(.p .mv), [.const (.int .i64 (.ofNat (nat_lit 0)))], (some (nat_lit 5)), none⟩])
 .ret)
 (.seq (.region [
  .ins ⟨(.p (.bini .eql)), [.tmp (nat_lit 19), .const (.int .i64 (.ofNat (nat_lit 6)))], (some (nat_lit 52)), none⟩,
  .ins ⟨(.p .mv), [.tmp (nat_lit 52)], (some (nat_lit 51)), none⟩])
 (.cond (.tmp (nat_lit 51)) (.seq (.region [
  .ins ⟨(.p .mv), [.tmp (nat_lit 0)], (some (nat_lit 53)), none⟩,
  .ins ⟨(.p .nilck), [.tmp (nat_lit 53)], (some (nat_lit 54)), none⟩,
  .ins ⟨(.p (.fieldAddr (nat_lit 4))), [.tmp (nat_lit 54)], (some (nat_lit 55)), none⟩,
  .ins ⟨(.r (.load false (nat_lit 1))), [.tmp (nat_lit 55)], (some (nat_lit 56)), none⟩,
  .ins ⟨(.p (.fieldAddr (nat_lit 3))), [.tmp (nat_lit 3)], (some (nat_lit 57)), none⟩,
  .ins ⟨(.r (.load false (nat_lit 1))), [.tmp (nat_lit 57)], (some (nat_lit 58)), none⟩,
  .ins ⟨(.p (.bini .add)), [.tmp (nat_lit 56), .tmp (nat_lit 58)], (some (nat_lit 59)), none⟩,
  .ins ⟨(.p .nilck), [.tmp (nat_lit 53)], (some (nat_lit 60)), none⟩,
  .ins ⟨(.p (.fieldAddr (nat_lit 4))), [.tmp (nat_lit 60)], (some (nat_lit 61)), none⟩,
  .ins ⟨(.l (.store (nat_lit 1))), [.tmp (nat_lit 61), .tmp (nat_lit 59)], none, none⟩])
 (.seq (.region [
  .ins ⟨(.p .mv), [.tmp (nat_lit 0)], (some (nat_lit 62)), none⟩,
  .ins ⟨(.p .nilck), [.tmp (nat_lit 62)], (some (nat_lit 63)), none⟩,
  .ins ⟨(.p (.fieldAddr (nat_lit 0))), [.tmp (nat_lit 63)], (some (nat_lit 64)), none⟩,
  .ins ⟨(.r (.load false (nat_lit 1))), [.tmp (nat_lit 64)], (some (nat_lit 65)), none⟩,
  .ins ⟨(.p .mv), [.tmp (nat_lit 0)], (some (nat_lit 66)), none⟩,
  .ins ⟨(.p .nilck), [.tmp (nat_lit 66)], (some (nat_lit 67)), none⟩,
  .ins ⟨(.p (.fieldAddr (nat_lit 4))), [.tmp (nat_lit 67)], (some (nat_lit 68)), none⟩,
  .ins ⟨(.r (.load false (nat_lit 1))), [.tmp (nat_lit 68)], (some (nat_lit 69)), none⟩,
  .ins ⟨(.c .value), [.const (.func (.func (nat_lit 8)) [] []), .tmp (nat_lit 65), .tmp (nat_lit 69)], (some (nat_lit 70)), none⟩,
  .ins ⟨(.c .value), [.const (.func (.func (nat_lit 131)) [] []), .const (.slice none (nat_lit 0) (nat_lit 0) (nat_lit 0)), .const (.int .i64 (.ofNat (nat_lit 1))), .tmp (nat_lit 70)], (some (nat_lit 71)), none⟩,
  .ins ⟨(.p .mv), [.tmp (nat_lit 71)], (some (nat_lit 10)), none⟩])
 (.seq (.region [
  .ins ⟨(.p .mv), [.tmp (nat_lit 10)], (some (nat_lit 72)), none⟩,
  .ins ⟨(.p .mv), [.tmp (nat_lit 0)], (some (nat_lit 73)), none⟩,
  .ins ⟨(.p .nilck), [.tmp (nat_lit 73)], (some (nat_lit 74)), none⟩,
  .ins ⟨(.p (.fieldAddr (nat_lit 1))), [.tmp (nat_lit 74)], (some (nat_lit 75)), none⟩,
  .ins ⟨(.r (.load false (nat_lit 1))), [.tmp (nat_lit 75)], (some (nat_lit 76)), none⟩,
  .ins ⟨(.p .mv), [.tmp (nat_lit 0)], (some (nat_lit 77)), none⟩,
  .ins ⟨(.p .nilck), [.tmp (nat_lit 77)], (some (nat_lit 78)), none⟩,
  .ins ⟨(.p (.fieldAddr (nat_lit 4))), [.tmp (nat_lit 78)], (some (nat_lit 79)), none⟩,
  .ins ⟨(.r (.load false (nat_lit 1))), [.tmp (nat_lit 79)], (some (nat_lit 80)), none⟩,
  .ins ⟨(.c .value), [.const (.func (.func (nat_lit 8)) [] []), .tmp (nat_lit 76), .tmp (nat_lit 80)], (some (nat_lit 81)), none⟩,
  .ins ⟨(.c .value), [.const (.func (.func (nat_lit 131)) [] []), .tmp (nat_lit 72), .const (.int .i64 (.ofNat (nat_lit 2))), .tmp (nat_lit 81)], (some (nat_lit 82)), none⟩,
  .ins ⟨(.p .mv), [.tmp (nat_lit 82)], (some (nat_lit 4)), none⟩,
  .ins ⟨(.p .mv), [.const (.int .i64 (.ofNat (nat_lit 0)))], (some (nat_lit 5)), none⟩])
 .ret)))
 (.seq (.region [
  .ins ⟨(.p (.bini .eql)), [.tmp (nat_lit 19), .const (.int .i64 (.ofNat (nat_lit 7)))], (some (nat_lit 84)), none⟩,
  .ins ⟨(.p .mv), [.tmp (nat_lit 84)], (some (nat_lit 83)), none⟩])
 (.cond (.tmp (nat_lit 83)) (.seq (.region [
  .ins ⟨(.p (.fieldAddr (nat_lit 1))), [.tmp (nat_lit 3)], (some (nat_lit 85)), none⟩,
  .ins ⟨(.r (.load false (nat_lit 1))), [.tmp (nat_lit 85)], (some (nat_lit 86)), none⟩,
  .ins ⟨(.p .mv), [.tmp (nat_lit 6)], (some (nat_lit 87)), none⟩,
  .ins ⟨(.c .value), [.const (.func (.func (nat_lit 16)) [] []), .tmp (nat_lit 87)], (some (nat_lit 88)), none⟩,
  .again ⟨(.r (.load false (nat_lit 1))), [.tmp (nat_lit 85)], (some (nat_lit 86)), none⟩,
  .ins ⟨(.c .value), [.const (.func (.func (nat_lit 131)) [] []), .const (.slice none (nat_lit 0) (nat_lit 0) (nat_lit 0)), .tmp (nat_lit 86), .tmp (nat_lit 88)], (some (nat_lit 89)), none⟩,
  .ins ⟨(.p .mv), [.tmp (nat_lit 89)], (some (nat_lit 4)), none⟩,
  .ins ⟨(.p .mv), [.const (.int .i64 (.ofNat (nat_lit 0)))], (some (nat_lit 5)), none⟩])
 .ret)
 (.seq (.region [
  .ins ⟨(.p (.bini .eql)), [.tmp (nat_lit 19), .const (.int .i64 (.ofNat (nat_lit 8)))], (some (nat_lit 91)), none⟩,
  .ins ⟨(.p .mv), [.tmp (nat_lit 91)], (some (nat_lit 90)), none⟩])
 (.cond (.tmp (nat_lit 90)) (.seq (.region [
  .ins ⟨(.p .mv), [.tmp (nat_lit 6)], (some (nat_lit 92)), none⟩,
  .ins ⟨(.p (.fieldAddr (nat_lit 7))), [.tmp (nat_lit 3)], (some (nat_lit 93)), none⟩,
  .ins ⟨(.r (.load true (nat_lit 5))), [.tmp (nat_lit 93)], (some (nat_lit 94)), none⟩,
  .ins ⟨(.c .value), [.const (.func (.func (nat_lit 14)) [] []), .tmp (nat_lit 92), .tmp (nat_lit 94)], (some (nat_lit 95)), none⟩,
  .ins ⟨(.p .mv), [.const (.slice none (nat_lit 0) (nat_lit 0) (nat_lit 0))], (some (nat_lit 4)), none⟩,
  .ins ⟨(.p .mv), [.tmp (nat_lit 95)], (some (nat_lit 5)), none⟩])
 .ret)
 .skip))))))))))))))
 (.seq (.region [
  .ins ⟨(.p .mv), [.tmp (nat_lit 0)], (some (nat_lit 96)), none⟩,
  .ins ⟨(.p .nilck), [.tmp (nat_lit 96)], (some (nat_lit 97)), none⟩,
  .ins ⟨(.p (.fieldAddr (nat_lit 2))), [.tmp (nat_lit 97)], (some (nat_lit 98)), none⟩,
  .ins ⟨(.r (.load false (nat_lit 1))), [.tmp (nat_lit 98)], (some (nat_lit 99)), none⟩,
  .ins ⟨(.c .value), [.const (.func (.func (nat_lit 133)) [] []), .tmp (nat_lit 99)], (some (nat_lit 100)), none⟩])
 (.seq (.region [
  .ins ⟨(.p .mv), [.tmp (nat_lit 0)], (some (nat_lit 101)), none⟩,
  .ins ⟨(.p .nilck), [.tmp (nat_lit 101)], (some (nat_lit 102)), none⟩,
  .ins ⟨(.p (.fieldAddr (nat_lit 3))), [.tmp (nat_lit 102)], (some (nat_lit 103)), none⟩,
  .ins ⟨(.r (.load false (nat_lit 1))), [.tmp (nat_lit 103)], (some (nat_lit 104)), none⟩,
  .ins ⟨(.c .value), [.const (.func (.func (nat_lit 133)) [] []), .tmp (nat_lit 104)], (some (nat_lit 105)), none⟩])
 (.seq (.region [
  .ins ⟨(.p .mv), [.const (.slice none (nat_lit 0) (nat_lit 0) (nat_lit 0))], (some (nat_lit 4)), none⟩,
  .ins ⟨(.p .mv), [.const (.int .i64 (.ofNat (nat_lit 0)))], (some (nat_lit 5)), none⟩])
 .ret))))))⟩

def c74 : Code' := .fn ⟨(nat_lit 20), [],
 (.seq (.region [
  .ins ⟨(.p .mv), [.tmp (nat_lit 0)], (some (nat_lit 2)), none⟩,
  .ins ⟨(.p .nilck), [.tmp (nat_lit 2)], (some (nat_lit 3)), none⟩,
  .ins ⟨(.p (.fieldAddr (nat_lit 0))), [.tmp (nat_lit 3)], (some (nat_lit 4)), none⟩,
  .ins ⟨(.r (.load false (nat_lit 1))), [.tmp (nat_lit 4)], (some (nat_lit 5)), none⟩,
  .ins ⟨(.p .mv), [.tmp (nat_lit 0)], (some (nat_lit 6)), none⟩,
  .ins ⟨(.p .nilck), [.tmp (nat_lit 6)], (some (nat_lit 7)), none⟩,
  .ins ⟨(.p (.fieldAddr (nat_lit 3))), [.tmp (nat_lit 7)], (some (nat_lit 8)), none⟩,
  .ins ⟨(.r (.load false (nat_lit 1))), [.tmp (nat_lit 8)], (some (nat_lit 9)), none⟩,
  .ins ⟨(.c .value), [.const (.func (.func (nat_lit 134)) [] []), .tmp (nat_lit 5), .tmp (nat_lit 9)], (some (nat_lit 10)), none⟩])
 (.region [
  .ins ⟨(.p .mv), [.tmp (nat_lit 0)], (some (nat_lit 11)), none⟩,
  .ins ⟨(.p .nilck), [.tmp (nat_lit 11)], (some (nat_lit 12)), none⟩,
  .ins ⟨(.p (.fieldAddr (nat_lit 1))), [.tmp (nat_lit 12)], (some (nat_lit 13)), none⟩,
  .ins ⟨(.r (.load false (nat_lit 1))), [.tmp (nat_lit 13)], (some (nat_lit 14)), none⟩,
  .ins ⟨(.p .mv), [.tmp (nat_lit 0)], (some (nat_lit 15)), none⟩,
  .ins ⟨(.p .nilck), [.tmp (nat_lit 15)], (some (nat_lit 16)), none⟩,
  .ins ⟨(.p (.fieldAddr (nat_lit 2))), [.tmp (nat_lit 16)], (some (nat_lit 17)), none⟩,
  .ins ⟨(.r (.load false (nat_lit 1))), [.tmp (nat_lit 17)], (some (nat_lit 18)), none⟩,
  .ins ⟨(.c .value), [.const (.func (.func (nat_lit 134)) [] []), .tmp (nat_lit 14), .tmp (nat_lit 18)], (some (nat_lit 19)), none⟩]))⟩

def c75 : Code' := .fn ⟨(nat_lit 31), [.tmp (nat_lit 4), .tmp (nat_lit 5)],
 (.seq (.region [
  .ins ⟨(.p .mv), [.const (.ptr none)], (some (nat_lit 4)), none⟩,
  .ins ⟨(.p .mv), [.const (.ptr none)], (some (nat_lit 5)), none⟩])
 (.seq (.block (nat_lit 0) (.seq (.region [
  .ins ⟨(.p .mv), [.tmp (nat_lit 0)], (some (nat_lit 7)), none⟩,
  .ins ⟨(.p (.eqnil .ptr false)), [.tmp (nat_lit 7), .const (.ptr none)], (some (nat_lit 8)), none⟩,
  .ins ⟨(.p .mv), [.tmp (nat_lit 8)], (some (nat_lit 6)), none⟩])
 (.cond (.tmp (nat_lit 6)) (.seq (.region [
  .ins ⟨(.p .mv), [.const (.ptr none)], (some (nat_lit 4)), none⟩,
  .ins ⟨(.p .mv), [.const (.ptr none)], (some (nat_lit 5)), none⟩])
 .ret)
 (.seq (.region [
  .ins ⟨(.p .mv), [.tmp (nat_lit 1)], (some (nat_lit 10)), none⟩,
  .ins ⟨(.p (.bini .eql)), [.tmp (nat_lit 10), .const (.int .i64 (.ofNat (nat_lit 1)))], (some (nat_lit 11)), none⟩,
  .ins ⟨(.p .mv), [.tmp (nat_lit 11)], (some (nat_lit 9)), none⟩])
 (.cond (.tmp (nat_lit 9)) (.seq (.region [
  .ins ⟨(.p .mv), [.tmp (nat_lit 0)], (some (nat_lit 12)), none⟩,
  .ins ⟨(.p .nilck), [.tmp (nat_lit 12)], (some (nat_lit 13)), none⟩,
  .ins ⟨(.p (.fieldAddr (nat_lit 0))), [.tmp (nat_lit 13)], (some (nat_lit 14)), none⟩,
  .ins ⟨(.r (.load false (nat_lit 1))), [.tmp (nat_lit 14)], (some (nat_lit 15)), none⟩,
  .ins ⟨(.p .mv), [.tmp (nat_lit 0)], (some (nat_lit 16)), none⟩,
  .ins ⟨(.p .nilck), [.tmp (nat_lit 16)], (some (nat_lit 17)), none⟩,
  .ins ⟨(.p (.fieldAddr (nat_lit 2))), [.tmp (nat_lit 17)], (some (nat_lit 18)), none⟩,
  .ins ⟨(.r (.load false (nat_lit 1))), [.tmp (nat_lit 18)], (some (nat_lit 19)), none⟩,
  .ins ⟨(.p .mv), [.tmp (nat_lit 15)], (some (nat_lit 4)), none⟩,
  .ins ⟨(.p .mv), [.tmp (nat_lit 19)], (some (nat_lit 5)), none⟩])
 .ret)
 (.seq (.region [
  .ins ⟨(.p .mv), [.tmp (nat_lit 1)], (some (nat_lit 21)), none⟩,
  .ins ⟨(.p (.bini .eql)), [.tmp (nat_lit 21), .const (.int .i64 (.ofNat (nat_lit 2)))], (some (nat_lit 22)), none⟩,
  .ins ⟨(.p .mv), [.tmp (nat_lit 22)], (some (nat_lit 20)), none⟩])
 (.cond (.tmp (nat_lit 20)) (.seq (.region [
  .ins ⟨(.p .mv), [.tmp (nat_lit 0)], (some (nat_lit 23)), none⟩,
  .ins ⟨(.p .nilck), [.tmp (nat_lit 23)], (some (nat_lit 24)), none⟩,
  .ins ⟨(.p (.fieldAddr (nat_lit 1))), [.tmp (nat_lit 24)], (some (nat_lit 25)), none⟩,
  .ins ⟨(.r (.load false (nat_lit 1))), [.tmp (nat_lit 25)], (some (nat_lit 26)), none⟩,
  .ins ⟨(.p .mv), [.tmp (nat_lit 0)], (some (nat_lit 27)), none⟩,
  .ins ⟨(.p .nilck), [.tmp (nat_lit 27)], (some (nat_lit 28)), none⟩,
  .ins ⟨(.p (.fieldAddr (nat_lit 3))), [.tmp (nat_lit 28)], (some (nat_lit 29)), none⟩,
  .ins ⟨(.r (.load false (nat_lit 1))), [.tmp (nat_lit 29)], (some (nat_lit 30)), none⟩,
  .ins ⟨(.p .mv), [.tmp (nat_lit 26)], (some (nat_lit 4)), none⟩,
  .ins ⟨(.p .mv), [.tmp (nat_lit 30)], (some (nat_lit 5)), none⟩])
 .ret)
 .skip)))))))
 (.seq (.region [
  .ins ⟨(.p .mv), [.const (.ptr none)], (some (nat_lit 4)), none⟩,
  .ins ⟨(.p .mv), [.const (.ptr none)], (some (nat_lit 5)), none⟩])
 .ret)))⟩

def c76 : Code' := .fn ⟨(nat_lit 3), [.tmp (nat_lit 0)],
 (.seq (.region [
  .ins ⟨(.p .mv), [.const (.ptr none)], (some (nat_lit 0)), none⟩])
 (.seq (.region [
  .ins ⟨(.p (.build [(.slice none (nat_lit 0) (nat_lit 0) (nat_lit 0)), (.bool false), (.bool false)] [])), [], (some (nat_lit 1)), none⟩,
  .ins ⟨(.a .box), [.tmp (nat_lit 1)], (some (nat_lit 2)), none⟩,
  .ins ⟨(.p .mv), [.tmp (nat_lit 2)], (some (nat_lit 0)), none⟩])
 .ret))⟩

def c83 : Code' := .fn ⟨(nat_lit 9), [],
 (.seq (.region [
  .ins ⟨(.p .mv), [.tmp (nat_lit 0)], (some (nat_lit 2)), none⟩,
  .ins ⟨(.p .nilck), [.tmp (nat_lit 2)], (some (nat_lit 3)), none⟩,
  .ins ⟨(.p (.fieldAddr (nat_lit 16))), [.tmp (nat_lit 3)], (some (nat_lit 4)), none⟩,
  .ins ⟨(.l (.store (nat_lit 1))), [.tmp (nat_lit 4), .const (.bool true)], none, none⟩])
 (.seq (.region [
  .ins ⟨(.p .mv), [.tmp (nat_lit 0)], (some (nat_lit 5)), none⟩,
  .ins ⟨(.c .value), [.const (.func (.func (nat_lit 60)) [] []), .tmp (nat_lit 5), .const (.int .i64 (.ofNat (nat_lit 1)))], (some (nat_lit 6)), none⟩])
 (.region [
  .ins ⟨(.p .mv), [.tmp (nat_lit 0)], (some (nat_lit 7)), none⟩,
  .ins ⟨(.c .value), [.const (.func (.func (nat_lit 60)) [] []), .tmp (nat_lit 7), .const (.int .i64 (.ofNat (nat_lit 3)))], (some (nat_lit 8)), none⟩])))⟩

def c84 : Code' := .fn ⟨(nat_lit 22), [],
 (.seq (.region [
  .ins ⟨(.p .mv), [.tmp (nat_lit 0)], (some (nat_lit 4)), none⟩,
  .ins ⟨(.p (.eqnil .ptr true)), [.tmp (nat_lit 4), .const (.ptr none)], (some (nat_lit 5)), none⟩,
  .ins ⟨(.p .mv), [.tmp (nat_lit 5)], (some (nat_lit 6)), none⟩,
  .ins ⟨(.p .mv), [.tmp (nat_lit 0)], (some (nat_lit 7)), (some ((nat_lit 6), true))⟩,
  .ins ⟨(.p .nilck), [.tmp (nat_lit 7)], (some (nat_lit 8)), (some ((nat_lit 6), true))⟩,
  .ins ⟨(.p (.fieldAddr (nat_lit 3))), [.tmp (nat_lit 8)], (some (nat_lit 9)), (some ((nat_lit 6), true))⟩,
  .ins ⟨(.r (.load false (nat_lit 1))), [.tmp (nat_lit 9)], (some (nat_lit 10)), (some ((nat_lit 6), true))⟩,
  .ins ⟨(.p (.bini .eql)), [.tmp (nat_lit 10), .const (.int .i64 (.ofNat (nat_lit 0)))], (some (nat_lit 11)), (some ((nat_lit 6), true))⟩,
  .ins ⟨(.p .pick), [.tmp (nat_lit 6), .tmp (nat_lit 11), .const (.bool false)], (some (nat_lit 12)), none⟩])
 (.cond (.tmp (nat_lit 12)) (.region [
  .ins ⟨(.p .mv), [.tmp (nat_lit 0)], (some (nat_lit 13)), none⟩,
  .ins ⟨(.p .mv), [.tmp (nat_lit 0)], (some (nat_lit 14)), none⟩,
  .ins ⟨(.p .nilck), [.tmp (nat_lit 14)], (some (nat_lit 15)), none⟩,
  .ins ⟨(.p (.fieldAddr (nat_lit 2))), [.tmp (nat_lit 15)], (some (nat_lit 16)), none⟩,
  .ins ⟨(.r (.load false (nat_lit 1))), [.tmp (nat_lit 16)], (some (nat_lit 17)), none⟩,
  .ins ⟨(.p .mv), [.tmp (nat_lit 1)], (some (nat_lit 18)), none⟩,
  .ins ⟨(.l (.append [(.int .u8 (.ofNat (nat_lit 0)))] (nat_lit 1) (nat_lit 1))), [.tmp (nat_lit 17), .tmp (nat_lit 18)], (some (nat_lit 19)), none⟩,
  .ins ⟨(.p .nilck), [.tmp (nat_lit 13)], (some (nat_lit 20)), none⟩,
  .ins ⟨(.p (.fieldAddr (nat_lit 2))), [.tmp (nat_lit 20)], (some (nat_lit 21)), none⟩,
  .ins ⟨(.l (.store (nat_lit 1))), [.tmp (nat_lit 21), .tmp (nat_lit 19)], none, none⟩])
 .skip))⟩

def c85 : Code' := .fn ⟨(nat_lit 4), [.tmp (nat_lit 2)],
 (.seq (.region [
  .ins ⟨(.a .box), [.tmp (nat_lit 0)], (some (nat_lit 1)), none⟩,
  .ins ⟨(.p .mv), [.const .nilFunc], (some (nat_lit 2)), none⟩])
 (.seq (.region [
  .ins ⟨(.p (.mkfunc (.func (nat_lit 147)) (nat_lit 0))), [.tmp (nat_lit 1)], (some (nat_lit 3)), none⟩,
  .ins ⟨(.p .mv), [.tmp (nat_lit 3)], (some (nat_lit 2)), none⟩])
 .ret))⟩

def c86 : Code' := .fn ⟨(nat_lit 80), [.cell (nat_lit 4) true (nat_lit 11), .tmp (nat_lit 5)],
 (.seq (.region [
  .ins ⟨(.a .box), [.tmp (nat_lit 1)], (some (nat_lit 3)), none⟩,
  .ins ⟨(.a (.alloc [(.slice none (nat_lit 0) (nat_lit 0) (nat_lit 0)), (.int .i64 (.ofNat (nat_lit 0))), (.bool false), (.bool false), (.int .i64 (.ofNat (nat_lit 0))), (.int .i64 (.ofNat (nat_lit 0))), (.int .i64 (.ofNat (nat_lit 0))), (.int .i64 (.ofNat (nat_lit 0))), (.int .i64 (.ofNat (nat_lit 0))), (.slice none (nat_lit 0) (nat_lit 0) (nat_lit 0)), (.int .i64 (.ofNat (nat_lit 0)))])), [], (some (nat_lit 4)), none⟩,
  .ins ⟨(.p .mv), [.const (.int .i64 (.ofNat (nat_lit 0)))], (some (nat_lit 5)), none⟩])
 (.seq (.seq (.region [
  .ins ⟨(.p .mv), [.tmp (nat_lit 0)], (some (nat_lit 10)), none⟩,
  .ins ⟨(.p .nilck), [.tmp (nat_lit 10)], (some (nat_lit 11)), none⟩,
  .ins ⟨(.p (.fieldAddr (nat_lit 17))), [.tmp (nat_lit 11)], (some (nat_lit 12)), none⟩,
  .ins ⟨(.r (.load false (nat_lit 1))), [.tmp (nat_lit 12)], (some (nat_lit 13)), none⟩,
  .ins ⟨(.p (.un .not)), [.tmp (nat_lit 13)], (some (nat_lit 14)), none⟩,
  .ins ⟨(.p .mv), [.tmp (nat_lit 14)], (some (nat_lit 15)), none⟩,
  .ins ⟨(.p (.fieldAddr (nat_lit 0))), [.tmp (nat_lit 3)], (some (nat_lit 16)), (some ((nat_lit 15), true))⟩,
  .ins ⟨(.r (.load false (nat_lit 1))), [.tmp (nat_lit 16)], (some (nat_lit 17)), (some ((nat_lit 15), true))⟩,
  .ins ⟨(.p (.bini .neq)), [.tmp (nat_lit 17), .const (.int .i64 (.ofNat (nat_lit 4)))], (some (nat_lit 18)), (some ((nat_lit 15), true))⟩,
  .ins ⟨(.p .mv), [.tmp (nat_lit 18)], (some (nat_lit 19)), (some ((nat_lit 15), true))⟩,
  .ins ⟨(.p (.fieldAddr (nat_lit 1))), [.tmp (nat_lit 3)], (some (nat_lit 20)), (some ((nat_lit 19), false))⟩,
  .ins ⟨(.r (.load false (nat_lit 1))), [.tmp (nat_lit 20)], (some (nat_lit 21)), (some ((nat_lit 19), false))⟩,
  .ins ⟨(.p (.bini .and)), [.tmp (nat_lit 21), .const (.int .i64 (.ofNat (nat_lit 1)))], (some (nat_lit 22)), (some ((nat_lit 19), false))⟩,
  .ins ⟨(.p (.bini .neq)), [.tmp (nat_lit 22), .const (.int .i64 (.ofNat (nat_lit 0)))], (some (nat_lit 23)), (some ((nat_lit 19), false))⟩,
  .ins ⟨(.p .pick), [.tmp (nat_lit 19), .const (.bool true), .tmp (nat_lit 23)], (some (nat_lit 24)), (some ((nat_lit 15), true))⟩,
  .ins ⟨(.p .pick), [.tmp (nat_lit 15), .tmp (nat_lit 24), .const (.bool false)], (some (nat_lit 25)), none⟩])
 (.cond (.tmp (nat_lit 25)) (.seq (.region [
  .ins ⟨(.p (.build [(.slice none (nat_lit 0) (nat_lit 0) (nat_lit 0)), (.int .i64 (.ofNat (nat_lit 0))), (.bool false), (.bool false), (.int .i64 (.ofNat (nat_lit 0))), (.int .i64 (.ofNat (nat_lit 0))), (.int .i64 (.ofNat (nat_lit 0))), (.int .i64 (.ofNat (nat_lit 0))), (.int .i64 (.ofNat (nat_lit 0))), (.slice none (nat_lit 0) (nat_lit 0) (nat_lit 0)), (.int .i64 (.ofNat (nat_lit 0)))] [])), [], (some (nat_lit 26)), none⟩,
  .ins ⟨(.l (.store (nat_lit 11))), [.tmp (nat_lit 4), .tmp (nat_lit 26)], none, none⟩,
  .ins ⟨(.p .mv), [.const (.int .i64 (.ofNat (nat_lit 1)))], (some (nat_lit 5)), none⟩])
 .ret)
 .skip))
 (.seq (.region [
  .ins ⟨(.p .mv), [.tmp (nat_lit 0)], (some (nat_lit 27)), none⟩,
  .ins ⟨(.p .nilck), [.tmp (nat_lit 27)], (some (nat_lit 28)), none⟩,
  .ins ⟨(.p (.fieldAddr (nat_lit 17))), [.tmp (nat_lit 28)], (some (nat_lit 29)), none⟩,
  .ins ⟨(.l (.store (nat_lit 1))), [.tmp (nat_lit 29), .const (.bool true)], none, none⟩])
 (.seq (.seq (.region [
  .ins ⟨(.p .mv), [.tmp (nat_lit 0)], (some (nat_lit 31)), none⟩,
  .ins ⟨(.p .nilck), [.tmp (nat_lit 31)], (some (nat_lit 32)), none⟩,
  .ins ⟨(.p (.fieldAddr (nat_lit 12))), [.tmp (nat_lit 32)], (some (nat_lit 33)), none⟩,
  .ins ⟨(.r (.load false (nat_lit 1))), [.tmp (nat_lit 33)], (some (nat_lit 34)), none⟩,
  .ins ⟨(.c .value), [.const (.func (.func (nat_lit 149)) [] []), .tmp (nat_lit 34)], (some (nat_lit 35)), none⟩,
  .ins ⟨(.p .mv), [.tmp (nat_lit 35)], (some (nat_lit 30)), none⟩,
  .ins ⟨(.p (.extract (nat_lit 0))), [.tmp (nat_lit 30)], (some (nat_lit 36)), none⟩,
  .ins ⟨(.p (.extract (nat_lit 1))), [.tmp (nat_lit 30)], (some (nat_lit 37)), none⟩,
  .ins ⟨(.p .mv), [.tmp (nat_lit 36)], (some (nat_lit 6)), none⟩,
  .ins ⟨(.p .mv), [.tmp (nat_lit 37)], (some (nat_lit 7)), none⟩])
 (.seq (.region [
  .ins ⟨(.p .mv), [.tmp (nat_lit 7)], (some (nat_lit 38)), none⟩,
  .ins ⟨(.p (.fieldAddr (nat_lit 0))), [.tmp (nat_lit 3)], (some (nat_lit 39)), none⟩,
  .ins ⟨(.r (.load false (nat_lit 1))), [.tmp (nat_lit 39)], (some (nat_lit 40)), none⟩,
  .ins ⟨(.p (.bini .eql)), [.tmp (nat_lit 40), .const (.int .i64 (.ofNat (nat_lit 9)))], (some (nat_lit 41)), none⟩,
  .ins ⟨(.p (.eqb true)), [.tmp (nat_lit 38), .tmp (nat_lit 41)], (some (nat_lit 42)), none⟩,
  .ins ⟨(.p .mv), [.tmp (nat_lit 42)], (some (nat_lit 43)), none⟩,
  .ins ⟨(.p .mv), [.tmp (nat_lit 7)], (some (nat_lit 44)), (some ((nat_lit 43), false))⟩,
  .ins ⟨(.p .mv), [.tmp (nat_lit 44)], (some (nat_lit 45)), (some ((nat_lit 43), false))⟩,
  .ins ⟨(.p .mv), [.tmp (nat_lit 6)], (some (nat_lit 46)), (some ((nat_lit 45), true))⟩,
  .ins ⟨(.p (.fieldAddr (nat_lit 2))), [.tmp (nat_lit 3)], (some (nat_lit 47)), (some ((nat_lit 45), true))⟩,
  .ins ⟨(.r (.load false (nat_lit 1))), [.tmp (nat_lit 47)], (some (nat_lit 48)), (some ((nat_lit 45), true))⟩,
  .ins ⟨(.p (.bini .neq)), [.tmp (nat_lit 46), .tmp (nat_lit 48)], (some (nat_lit 49)), (some ((nat_lit 45), true))⟩,
  .ins ⟨(.p .pick), [.tmp (nat_lit 45), .tmp (nat_lit 49), .const (.bool false)], (some (nat_lit 50)), (some ((nat_lit 43), false))⟩,
  .ins ⟨(.p .pick), [.tmp (nat_lit 43), .const (.bool true), .tmp (nat_lit 50)], (some (nat_lit 51)), none⟩])
 (.cond (.tmp (nat_lit 51)) (.seq (.region [
  .ins ⟨(.p (.build [(.slice none (nat_lit 0) (nat_lit 0) (nat_lit 0)), (.int .i64 (.ofNat (nat_lit 0))), (.bool false), (.bool false), (.int .i64 (.ofNat (nat_lit 0))), (.int .i64 (.ofNat (nat_lit 0))), (.int .i64 (.ofNat (nat_lit 0))), (.int .i64 (.ofNat (nat_lit 0))), (.int .i64 (.ofNat (nat_lit 0))), (.slice none (nat_lit 0) (nat_lit 0) (nat_lit 0)), (.int .i64 (.ofNat (nat_lit 0)))] [])), [], (some (nat_lit 52)), none⟩,
  .ins ⟨(.l (.store (nat_lit 11))), [.tmp (nat_lit 4), .tmp (nat_lit 52)], none, none⟩,
  .ins ⟨(.p .mv), [.const (.int .i64 (.ofNat (nat_lit 1)))], (some (nat_lit 5)), none⟩])
 .ret)
 .skip)))
 (.seq (.region [
  .ins ⟨(.r (.load true (nat_lit 4))), [.tmp (nat_lit 3)], (some (nat_lit 54)), none⟩,
  .ins ⟨(.c .value), [.const (.func (.func (nat_lit 150)) [] []), .tmp (nat_lit 54)], (some (nat_lit 55)), none⟩,
  .ins ⟨(.p .mv), [.tmp (nat_lit 55)], (some (nat_lit 53)), none⟩,
  .ins ⟨(.p (.extract (nat_lit 0))), [.tmp (nat_lit 53)], (some (nat_lit 56)), none⟩,
  .ins ⟨(.p (.extract (nat_lit 1))), [.tmp (nat_lit 53)], (some (nat_lit 57)), none⟩,
  .ins ⟨(.a (.alloc [(.slice none (nat_lit 0) (nat_lit 0) (nat_lit 0)), (.int .i64 (.ofNat (nat_lit 0))), (.bool false), (.bool false), (.int .i64 (.ofNat (nat_lit 0))), (.int .i64 (.ofNat (nat_lit 0))), (.int .i64 (.ofNat (nat_lit 0))), (.int .i64 (.ofNat (nat_lit 0))), (.int .i64 (.ofNat (nat_lit 0))), (.slice none (nat_lit 0) (nat_lit 0) (nat_lit 0)), (.int .i64 (.ofNat (nat_lit 0)))])), [], (some (nat_lit 8)), none⟩,
  .ins ⟨(.l (.store (nat_lit 11))), [.tmp (nat_lit 8), .tmp (nat_lit 56)], none, none⟩,
  .ins ⟨(.p .mv), [.tmp (nat_lit 57)], (some (nat_lit 9)), none⟩])
 (.seq (.seq (.region [
  .ins ⟨(.p .mv), [.tmp (nat_lit 9)], (some (nat_lit 58)), none⟩,
  .ins ⟨(.p (.bini .eql)), [.tmp (nat_lit 58), .const (.int .i64 (.ofNat (nat_lit 0)))], (some (nat_lit 59)), none⟩,
  .ins ⟨(.p .mv), [.tmp (nat_lit 59)], (some (nat_lit 60)), none⟩,
  .ins ⟨(.p (.fieldAddr (nat_lit 2))), [.tmp (nat_lit 3)], (some (nat_lit 61)), (some ((nat_lit 60), true))⟩,
  .ins ⟨(.r (.load false (nat_lit 1))), [.tmp (nat_lit 61)], (some (nat_lit 62)), (some ((nat_lit 60), true))⟩,
  .ins ⟨(.p (.bini .gtr)), [.tmp (nat_lit 62), .const (.int .i64 (.ofNat (nat_lit 0)))], (some (nat_lit 63)), (some ((nat_lit 60), true))⟩,
  .ins ⟨(.p .pick), [.tmp (nat_lit 60), .tmp (nat_lit 63), .const (.bool false)], (some (nat_lit 64)), none⟩,
  .ins ⟨(.p .mv), [.tmp (nat_lit 64)], (some (nat_lit 65)), none⟩,
  .ins ⟨(.p (.fieldAddr (nat_lit 2))), [.tmp (nat_lit 3)], (some (nat_lit 66)), (some ((nat_lit 65), true))⟩,
  .ins ⟨(.r (.load false (nat_lit 1))), [.tmp (nat_lit 66)], (some (nat_lit 67)), (some ((nat_lit 65), true))⟩,
  .ins ⟨(.p (.bini .rem)), [.tmp (nat_lit 67), .const (.int .i64 (.ofNat (nat_lit 2)))], (some (nat_lit 68)), (some ((nat_lit 65), true))⟩,
  .ins ⟨(.p (.bini .eql)), [.tmp (nat_lit 68), .const (.int .i64 (.ofNat (nat_lit 0)))], (some (nat_lit 69)), (some ((nat_lit 65), true))⟩,
  .ins ⟨(.p .pick), [.tmp (nat_lit 65), .tmp (nat_lit 69), .const (.bool false)], (some (nat_lit 70)), none⟩])
 (.cond (.tmp (nat_lit 70)) (.seq (.region [
  .ins ⟨(.p (.fieldAddr (nat_lit 0))), [.tmp (nat_lit 3)], (some (nat_lit 71)), none⟩,
  .ins ⟨(.r (.load false (nat_lit 1))), [.tmp (nat_lit 71)], (some (nat_lit 72)), none⟩])
 (.block (nat_lit 0) (.seq (.seq (.region [
  .ins ⟨(.p (.bini .eql)), [.tmp (nat_lit 72), .const (.int .i64 (.ofNat (nat_lit 0)))], (some (nat_lit 74)), none⟩,
  .ins ⟨(.p .mv), [.tmp (nat_lit 74)], (some (nat_lit 73)), none⟩])
 (.cond (.tmp (nat_lit 73)) .skip
 (.seq (.region [
  .ins ⟨(.p (.bini .eql)), [.tmp (nat_lit 72), .const (.int .i64 (.ofNat (nat_lit 1)))], (some (nat_lit 75)), none⟩,
  .ins ⟨(.p .mv), [.tmp (nat_lit 75)], (some (nat_lit 73)), none⟩])
 (.cond (.tmp (nat_lit 73)) .skip
 (.seq (.region [
  .ins ⟨(.p (.bini .eql)), [.tmp (nat_lit 72), .const (.int .i64 (.ofNat (nat_lit 3)))], (some (nat_lit 76)), none⟩,
  .ins ⟨(.p .mv), [.tmp (nat_lit 76)], (some (nat_lit 73)), none⟩])
 (.cond (.tmp (nat_lit 73)) .skip
 (.region [
  .ins ⟨(.p (.bini .eql)), [.tmp (nat_lit 72), .const (.int .i64 (.ofNat (nat_lit 8)))], (some (nat_lit 77)), none⟩,
  .ins ⟨(.p .mv), [.tmp (nat_lit 77)], (some (nat_lit 73)), none⟩])))))))
 (.cond (.tmp (nat_lit 73)) (.region [
  .ins ⟨(.p .mv), [.const (.int .i64 (.ofNat (nat_lit 1)))], (some (nat_lit 9)), none⟩])
 .skip))))
 .skip))
 (.seq (.region [
  .ins ⟨(.r (.load true (nat_lit 11))), [.tmp (nat_lit 8)], (some (nat_lit 78)), none⟩,
  .ins ⟨(.p .mv), [.tmp (nat_lit 9)], (some (nat_lit 79)), none⟩,
  .ins ⟨(.l (.store (nat_lit 11))), [.tmp (nat_lit 4), .tmp (nat_lit 78)], none, none⟩,
  .ins ⟨(.p .mv), [.tmp (nat_lit 79)], (some (nat_lit 5)), none⟩])
 .ret)))))))⟩

def c88 : Code' := .fn ⟨(nat_lit 92), [],
 (.seq (.region [
  .ins ⟨(.a .box), [.tmp (nat_lit 1)], (some (nat_lit 4)), none⟩,
  .ins ⟨(.a .box), [.tmp (nat_lit 2)], (some (nat_lit 5)), none⟩])
 (.seq (.region [
  .ins ⟨(.p .mv), [.tmp (nat_lit 0)], (some (nat_lit 10)), none⟩,
  .ins ⟨(.p .nilck), [.tmp (nat_lit 10)], (some (nat_lit 11)), none⟩,
  .ins ⟨(.p (.fieldAddr (nat_lit 13))), [.tmp (nat_lit 11)], (some (nat_lit 12)), none⟩,
  .ins ⟨(.r (.load false (nat_lit 1))), [.tmp (nat_lit 12)], (some (nat_lit 13)), none⟩,
  .ins ⟨(.p (.fieldAddr (nat_lit 2))), [.tmp (nat_lit 4)], (some (nat_lit 14)), none⟩,
  .ins ⟨(.r (.load false (nat_lit 1))), [.tmp (nat_lit 14)], (some (nat_lit 15)), none⟩,
  .ins ⟨(.c .value), [.const (.func (.func (nat_lit 153)) [] []), .tmp (nat_lit 13), .tmp (nat_lit 15)], (some (nat_lit 16)), none⟩,
  .ins ⟨(.p .mv), [.tmp (nat_lit 16)], (some (nat_lit 9)), none⟩,
  .ins ⟨(.p (.extract (nat_lit 0))), [.tmp (nat_lit 9)], (some (nat_lit 17)), none⟩,
  .ins ⟨(.p (.extract (nat_lit 1))), [.tmp (nat_lit 9)], (some (nat_lit 18)), none⟩,
  .ins ⟨(.p .mv), [.tmp (nat_lit 17)], (some (nat_lit 6)), none⟩,
  .ins ⟨(.p .mv), [.tmp (nat_lit 18)], (some (nat_lit 7)), none⟩])
 (.seq (.region [
  .ins ⟨(.p .mv), [.tmp (nat_lit 6)], (some (nat_lit 19)), none⟩,
  .ins ⟨(.p (.bini .eql)), [.tmp (nat_lit 19), .const (.int .i64 (.ofNat (nat_lit 0)))], (some (nat_lit 20)), none⟩,
  .ins ⟨(.p .mv), [.tmp (nat_lit 20)], (some (nat_lit 21)), none⟩,
  .ins ⟨(.p (.fieldAddr (nat_lit 2))), [.tmp (nat_lit 4)], (some (nat_lit 22)), (some ((nat_lit 21), true))⟩,
  .ins ⟨(.r (.load false (nat_lit 1))), [.tmp (nat_lit 22)], (some (nat_lit 23)), (some ((nat_lit 21), true))⟩,
  .ins ⟨(.p (.bini .gtr)), [.tmp (nat_lit 23), .const (.int .i64 (.ofNat (nat_lit 0)))], (some (nat_lit 24)), (some ((nat_lit 21), true))⟩,
  .ins ⟨(.p .pick), [.tmp (nat_lit 21), .tmp (nat_lit 24), .const (.bool false)], (some (nat_lit 25)), none⟩,
  .ins ⟨(.p .mv), [.tmp (nat_lit 25)], (some (nat_lit 8)), none⟩])
 (.seq (.region [
  .ins ⟨(.p (.fieldAddr (nat_lit 0))), [.tmp (nat_lit 4)], (some (nat_lit 26)), none⟩,
  .ins ⟨(.r (.load false (nat_lit 1))), [.tmp (nat_lit 26)], (some (nat_lit 27)), none⟩])
 (.block (nat_lit 0) (.seq (.seq (.region [
  .ins ⟨(.p (.bini .eql)), [.tmp (nat_lit 27), .const (.int .i64 (.ofNat (nat_lit 1)))], (some (nat_lit 29)), none⟩,
  .ins ⟨(.p .mv), [.tmp (nat_lit 29)], (some (nat_lit 28)), none⟩])
 (.cond (.tmp (nat_lit 28)) .skip
 (.region [
  .ins ⟨(.p (.bini .eql)), [.tmp (nat_lit 27), .const (.int .i64 (.ofNat (nat_lit 9)))], (some (nat_lit 30)), none⟩,
  .ins ⟨(.p .mv), [.tmp (nat_lit 30)], (some (nat_lit 28)), none⟩])))
 (.cond (.tmp (nat_lit 28)) (.region [
  .ins ⟨(.p .mv), [.tmp (nat_lit 0)], (some (nat_lit 31)), none⟩,
  .ins ⟨(.r (.load true (nat_lit 4))), [.tmp (nat_lit 4)], (some (nat_lit 32)), none⟩,
  .ins ⟨(.r (.load true (nat_lit 11))), [.tmp (nat_lit 5)], (some (nat_lit 33)), none⟩,
  .ins ⟨(.p .mv), [.tmp (nat_lit 8)], (some (nat_lit 34)), none⟩,
  .ins ⟨(.c .value), [.const (.func (.func (nat_lit 154)) [] []), .tmp (nat_lit 31), .tmp (nat_lit 32), .tmp (nat_lit 33), .tmp (nat_lit 34)], (some (nat_lit 35)), none⟩])
 (.seq (.region [
  .ins ⟨(.p (.bini .eql)), [.tmp (nat_lit 27), .const (.int .i64 (.ofNat (nat_lit 0)))], (some (nat_lit 37)), none⟩,
  .ins ⟨(.p .mv), [.tmp (nat_lit 37)], (some (nat_lit 36)), none⟩])
 (.cond (.tmp (nat_lit 36)) (.region [
  .ins ⟨(.p .mv), [.tmp (nat_lit 0)], (some (nat_lit 38)), none⟩,
  .ins ⟨(.r (.load true (nat_lit 4))), [.tmp (nat_lit 4)], (some (nat_lit 39)), none⟩,
  .ins ⟨(.r (.load true (nat_lit 11))), [.tmp (nat_lit 5)], (some (nat_lit 40)), none⟩,
  .ins ⟨(.p .mv), [.tmp (nat_lit 8)], (some (nat_lit 41)), none⟩,
  .ins ⟨(.c .value), [.const (.func (.func (nat_lit 155)) [] []), .tmp (nat_lit 38), .tmp (nat_lit 39), .tmp (nat_lit 40), .tmp (nat_lit 41)], (some (nat_lit 42)), none⟩])
 (.seq (.region [
  .ins ⟨(.p (.bini .eql)), [.tmp (nat_lit 27), .const (.int .i64 (.ofNat (nat_lit 3)))], (some (nat_lit 44)), none⟩,
  .ins ⟨(.p .mv), [.tmp (nat_lit 44)], (some (nat_lit 43)), none⟩])
 (.cond (.tmp (nat_lit 43)) (.region [
  .ins ⟨(.p .mv), [.tmp (nat_lit 0)], (some (nat_lit 45)), none⟩,
  .ins ⟨(.p (.fieldAddr (nat_lit 2))), [.tmp (nat_lit 4)], (some (nat_lit 46)), none⟩,
  .ins ⟨(.r (.load false (nat_lit 1))), [.tmp (nat_lit 46)], (some (nat_lit 47)), none⟩,
  .ins ⟨(.p (.fieldAddr (nat_lit 6))), [.tmp (nat_lit 5)], (some (nat_lit 48)), none⟩,
  .ins ⟨(.r (.load false (nat_lit 1))), [.tmp (nat_lit 48)], (some (nat_lit 49)), none⟩,
  .ins ⟨(.p .mv), [.tmp (nat_lit 8)], (some (nat_lit 50)), none⟩,
  .ins ⟨(.c .value), [.const (.func (.func (nat_lit 156)) [] []), .tmp (nat_lit 45), .tmp (nat_lit 47), .tmp (nat_lit 49), .tmp (nat_lit 50)], (some (nat_lit 51)), none⟩])
 (.seq (.region [
  .ins ⟨(.p (.bini .eql)), [.tmp (nat_lit 27), .const (.int .i64 (.ofNat (nat_lit 5)))], (some (nat_lit 53)), none⟩,
  .ins ⟨(.p .mv), [.tmp (nat_lit 53)], (some (nat_lit 52)), none⟩])
 (.cond (.tmp (nat_lit 52)) (.region [
  .ins ⟨(.p .mv), [.tmp (nat_lit 0)], (some (nat_lit 54)), none⟩,
  .ins ⟨(.c .value), [.const (.func (.func (nat_lit 87)) [] []), .tmp (nat_lit 54), .const (.int .i64 (.ofNat (nat_lit 1)))], (some (nat_lit 55)), none⟩])
 (.seq (.region [
  .ins ⟨(.p (.bini .eql)), [.tmp (nat_lit 27), .const (.int .i64 (.ofNat (nat_lit 4)))], (some (nat_lit 57)), none⟩,
  .ins ⟨(.p .mv), [.tmp (nat_lit 57)], (some (nat_lit 56)), none⟩])
 (.cond (.tmp (nat_lit 56)) (.region [
  .ins ⟨(.p .mv), [.tmp (nat_lit 0)], (some (nat_lit 58)), none⟩,
  .ins ⟨(.r (.load true (nat_lit 4))), [.tmp (nat_lit 4)], (some (nat_lit 59)), none⟩,
  .ins ⟨(.r (.load true (nat_lit 11))), [.tmp (nat_lit 5)], (some (nat_lit 60)), none⟩,
  .ins ⟨(.c .value), [.const (.func (.func (nat_lit 157)) [] []), .tmp (nat_lit 58), .tmp (nat_lit 59), .tmp (nat_lit 60)], (some (nat_lit 61)), none⟩])
 (.seq (.region [
  .ins ⟨(.p (.bini .eql)), [.tmp (nat_lit 27), .const (.int .i64 (.ofNat (nat_lit 6)))], (some (nat_lit 63)), none⟩,
  .ins ⟨(.p .mv), [.tmp (nat_lit 63)], (some (nat_lit 62)), none⟩])
 (.cond (.tmp (nat_lit 62)) (.seq (.region [
  .ins ⟨(.p (.fieldAddr (nat_lit 1))), [.tmp (nat_lit 4)], (some (nat_lit 64)), none⟩,
  .ins ⟨(.r (.load false (nat_lit 1))), [.tmp (nat_lit 64)], (some (nat_lit 65)), none⟩,
  .ins ⟨(.p (.bini .and)), [.tmp (nat_lit 65), .const (.int .i64 (.ofNat (nat_lit 1)))], (some (nat_lit 66)), none⟩,
  .ins ⟨(.p (.bini .neq)), [.tmp (nat_lit 66), .const (.int .i64 (.ofNat (nat_lit 0)))], (some (nat_lit 67)), none⟩])
 (.cond (.tmp (nat_lit 67)) (.region [
  .ins ⟨(.p .mv), [.tmp (nat_lit 0)], (some (nat_lit 68)), none⟩,
  .ins ⟨(.p (.fieldAddr (nat_lit 0))), [.tmp (nat_lit 5)], (some (nat_lit 69)), none⟩,
  .ins ⟨(.r (.load false (nat_lit 1))), [.tmp (nat_lit 69)], (some (nat_lit 70)), none⟩,
  .ins ⟨(.p (.build [(.int .i64 (.ofNat (nat_lit 0))), (.int .i64 (.ofNat (nat_lit 0))), (.slice none (nat_lit 0) (nat_lit 0) (nat_lit 0)), (.slice none (nat_lit 0) (nat_lit 0) (nat_lit 0)), (.bool false), (.int .i64 (.ofNat (nat_lit 0))), (.int .i64 (.ofNat (nat_lit 0)))] [((nat_lit 0), (nat_lit 1)), ((nat_lit 3), (nat_lit 1))])), [.const (.int .i64 (.ofNat (nat_lit 10))), .tmp (nat_lit 70)], (some (nat_lit 71)), none⟩,
  .ins ⟨(.c .value), [.const (.func (.func (nat_lit 152)) [] []), .tmp (nat_lit 68), .tmp (nat_lit 71)], (some (nat_lit 72)), none⟩])
 (.region [
  .ins ⟨(.p .mv), [.tmp (nat_lit 0)], (some (nat_lit 73)), none⟩,
  .ins ⟨(.p (.fieldAddr (nat_lit 0))), [.tmp (nat_lit 5)], (some (nat_lit 74)), none⟩,
  .ins ⟨(.r (.load false (nat_lit 1))), [.tmp (nat_lit 74)], (some (nat_lit 75)), none⟩,
  .ins ⟨(.p (.build [(.slice none (nat_lit 0) (nat_lit 0) (nat_lit 0)), (.int .i64 (.ofNat (nat_lit 0))), (.bool false), (.bool false), (.int .i64 (.ofNat (nat_lit 0))), (.int .i64 (.ofNat (nat_lit 0))), (.int .i64 (.ofNat (nat_lit 0))), (.int .i64 (.ofNat (nat_lit 0))), (.int .i64 (.ofNat (nat_lit 0))), (.slice none (nat_lit 0) (nat_lit 0) (nat_lit 0)), (.int .i64 (.ofNat (nat_lit 0)))] [((nat_lit 0), (nat_lit 1))])), [.tmp (nat_lit 75)], (some (nat_lit 76)), none⟩,
  .ins ⟨(.c .value), [.const (.func (.func (nat_lit 158)) [] []), .tmp (nat_lit 73), .const (.int .i64 (.ofNat (nat_lit 6))), .const (.int .i64 (.ofNat (nat_lit 1))), .const (.int .i64 (.ofNat (nat_lit 0))), .tmp (nat_lit 76)], (some (nat_lit 77)), none⟩])))
 (.seq (.region [
  .ins ⟨(.p (.bini .eql)), [.tmp (nat_lit 27), .const (.int .i64 (.ofNat (nat_lit 7)))], (some (nat_lit 79)), none⟩,
  .ins ⟨(.p .mv), [.tmp (nat_lit 79)], (some (nat_lit 78)), none⟩])
 (.cond (.tmp (nat_lit 78)) (.region [
  .ins ⟨(.p .mv), [.tmp (nat_lit 0)], (some (nat_lit 80)), none⟩,
  .ins ⟨(.r (.load true (nat_lit 11))), [.tmp (nat_lit 5)], (some (nat_lit 81)), none⟩,
  .ins ⟨(.c .value), [.const (.func (.func (nat_lit 159)) [] []), .tmp (nat_lit 80), .tmp (nat_lit 81)], (some (nat_lit 82)), none⟩])
 (.seq (.region [
  .ins ⟨(.p (.bini .eql)), [.tmp (nat_lit 27), .const (.int .i64 (.ofNat (nat_lit 8)))], (some (nat_lit 84)), none⟩,
  .ins ⟨(.p .mv), [.tmp (nat_lit 84)], (some (nat_lit 83)), none⟩])
 (.cond (.tmp (nat_lit 83)) (.region [
  .ins ⟨(.p .mv), [.tmp (nat_lit 0)], (some (nat_lit 85)), none⟩,
  .ins ⟨(.p (.fieldAddr (nat_lit 2))), [.tmp (nat_lit 4)], (some (nat_lit 86)), none⟩,
  .ins ⟨(.r (.load false (nat_lit 1))), [.tmp (nat_lit 86)], (some (nat_lit 87)), none⟩,
  .ins ⟨(.p (.fieldAddr (nat_lit 8))), [.tmp (nat_lit 5)], (some (nat_lit 88)), none⟩,
  .ins ⟨(.r (.load false (nat_lit 1))), [.tmp (nat_lit 88)], (some (nat_lit 89)), none⟩,
  .ins ⟨(.p .mv), [.tmp (nat_lit 8)], (some (nat_lit 90)), none⟩,
  .ins ⟨(.c .value), [.const (.func (.func (nat_lit 160)) [] []), .tmp (nat_lit 85), .tmp (nat_lit 87), .tmp (nat_lit 89), .tmp (nat_lit 90)], (some (nat_lit 91)), none⟩])
 .skip)))))))))))))))))))))⟩

def c89 : Code' := .fn ⟨(nat_lit 27), [],
 (.seq (.region [
  .ins ⟨(.a .box), [.tmp (nat_lit 0)], (some (nat_lit 1)), none⟩])
 (.seq (.region [
  .ins ⟨(.r (.load false (nat_lit 1))), [.tmp (nat_lit 1)], (some (nat_lit 4)), none⟩,
  .ins ⟨(.p .nilck), [.tmp (nat_lit 4)], (some (nat_lit 5)), none⟩,
  .ins ⟨(.p (.fieldAddr (nat_lit 13))), [.tmp (nat_lit 5)], (some (nat_lit 6)), none⟩,
  .ins ⟨(.r (.load false (nat_lit 1))), [.tmp (nat_lit 6)], (some (nat_lit 7)), none⟩,
  .ins ⟨(.c .value), [.const (.func (.func (nat_lit 161)) [] []), .tmp (nat_lit 7)], (some (nat_lit 8)), none⟩])
 (.block (nat_lit 0) (.rangeFunc (.tmp (nat_lit 8)) [(nat_lit 9), (nat_lit 10)] (.seq (.region [
  .ins ⟨(.p .mv), [.tmp (nat_lit 9)], (some (nat_lit 2)), none⟩])
 (.region [
  .ins ⟨(.p .mv), [.tmp (nat_lit 10)], (some (nat_lit 3)), none⟩]))
 (.block (nat_lit 1) (.seq (.region [
  .ins ⟨(.p .mv), [.tmp (nat_lit 3)], (some (nat_lit 11)), none⟩,
  .ins ⟨(.p .nilck), [.tmp (nat_lit 11)], (some (nat_lit 12)), none⟩,
  .ins ⟨(.p (.fieldAddr (nat_lit 4))), [.tmp (nat_lit 12)], (some (nat_lit 13)), none⟩,
  .ins ⟨(.r (.load false (nat_lit 1))), [.tmp (nat_lit 13)], (some (nat_lit 14)), none⟩,
  .ins ⟨(.p .mv), [.tmp (nat_lit 14)], (some (nat_lit 15)), none⟩,
  .ins ⟨(.p .mv), [.tmp (nat_lit 3)], (some (nat_lit 16)), (some ((nat_lit 15), true))⟩,
  .ins ⟨(.p .nilck), [.tmp (nat_lit 16)], (some (nat_lit 17)), (some ((nat_lit 15), true))⟩,
  .ins ⟨(.p (.fieldAddr (nat_lit 0))), [.tmp (nat_lit 17)], (some (nat_lit 18)), (some ((nat_lit 15), true))⟩,
  .ins ⟨(.r (.load false (nat_lit 1))), [.tmp (nat_lit 18)], (some (nat_lit 19)), (some ((nat_lit 15), true))⟩,
  .ins ⟨(.c .value), [.const (.func (.func (nat_lit 162)) [] []), .tmp (nat_lit 19)], (some (nat_lit 20)), (some ((nat_lit 15), true))⟩,
  .ins ⟨(.p (.bini .neq)), [.tmp (nat_lit 20), .const (.int .i64 (.ofNat (nat_lit 2)))], (some (nat_lit 21)), (some ((nat_lit 15), true))⟩,
  .ins ⟨(.p .pick), [.tmp (nat_lit 15), .tmp (nat_lit 21), .const (.bool false)], (some (nat_lit 22)), none⟩])
 (.cond (.tmp (nat_lit 22)) (.region [
  .ins ⟨(.r (.load false (nat_lit 1))), [.tmp (nat_lit 1)], (some (nat_lit 23)), none⟩,
  .ins ⟨(.p .mv), [.tmp (nat_lit 2)], (some (nat_lit 24)), none⟩,
  .ins ⟨(.p .mv), [.tmp (nat_lit 3)], (some (nat_lit 25)), none⟩,
  .ins ⟨(.c .value), [.const (.func (.func (nat_lit 163)) [] []), .tmp (nat_lit 23), .tmp (nat_lit 24), .tmp (nat_lit 25)], (some (nat_lit 26)), none⟩])
 .skip)))))))⟩

def c90 : Code' := .fn ⟨(nat_lit 9), [.tmp (nat_lit 2)],
 (.seq (.region [
  .ins ⟨(.p .mv), [.const (.int .i64 (.ofNat (nat_lit 0)))], (some (nat_lit 2)), none⟩])
 (.seq (.seq (.region [
  .ins ⟨(.p .mv), [.tmp (nat_lit 0)], (some (nat_lit 3)), none⟩,
  .ins ⟨(.p (.eqnil .ptr false)), [.tmp (nat_lit 3), .const (.ptr none)], (some (nat_lit 4)), none⟩])
 (.cond (.tmp (nat_lit 4)) (.seq (.region [
  .ins ⟨(.p .mv), [.const (.int .i64 (.ofNat (nat_lit 0)))], (some (nat_lit 2)), none⟩])
 .ret)
 .skip))
 (.seq (.region [
  .ins ⟨(.p .mv), [.tmp (nat_lit 0)], (some (nat_lit 5)), none⟩,
  .ins ⟨(.p .nilck), [.tmp (nat_lit 5)], (some (nat_lit 6)), none⟩,
  .ins ⟨(.p (.fieldAddr (nat_lit 3))), [.tmp (nat_lit 6)], (some (nat_lit 7)), none⟩,
  .ins ⟨(.r (.load false (nat_lit 1))), [.tmp (nat_lit 7)], (some (nat_lit 8)), none⟩,
  .ins ⟨(.p .mv), [.tmp (nat_lit 8)], (some (nat_lit 2)), none⟩])
 .ret)))⟩

def c91 : Code' := .fn ⟨(nat_lit 16), [],
 (.seq (.region [
  .ins ⟨(.p .mv), [.tmp (nat_lit 0)], (some (nat_lit 4)), none⟩,
  .ins ⟨(.p (.eqnil .ptr true)), [.tmp (nat_lit 4), .const (.ptr none)], (some (nat_lit 5)), none⟩,
  .ins ⟨(.p .mv), [.tmp (nat_lit 5)], (some (nat_lit 6)), none⟩,
  .ins ⟨(.p .mv), [.tmp (nat_lit 1)], (some (nat_lit 7)), (some ((nat_lit 6), true))⟩,
  .ins ⟨(.c .value), [.const (.func (.func (nat_lit 121)) [] []), .tmp (nat_lit 7)], (some (nat_lit 8)), (some ((nat_lit 6), true))⟩,
  .ins ⟨(.p .pick), [.tmp (nat_lit 6), .tmp (nat_lit 8), .const (.bool false)], (some (nat_lit 9)), none⟩])
 (.cond (.tmp (nat_lit 9)) (.region [
  .ins ⟨(.p .mv), [.tmp (nat_lit 0)], (some (nat_lit 10)), none⟩,
  .ins ⟨(.p .mv), [.tmp (nat_lit 1)], (some (nat_lit 11)), none⟩,
  .ins ⟨(.p (.build [(.int .i64 (.ofNat (nat_lit 0))), (.bool false)] [])), [], (some (nat_lit 12)), none⟩,
  .ins ⟨(.p .nilck), [.tmp (nat_lit 10)], (some (nat_lit 13)), none⟩,
  .ins ⟨(.p (.fieldAddr (nat_lit 0))), [.tmp (nat_lit 13)], (some (nat_lit 14)), none⟩,
  .ins ⟨(.p (.indexAddrArr (nat_lit 6) (nat_lit 2))), [.tmp (nat_lit 14), .tmp (nat_lit 11)], (some (nat_lit 15)), none⟩,
  .ins ⟨(.l (.store (nat_lit 2))), [.tmp (nat_lit 15), .tmp (nat_lit 12)], none, none⟩])
 .skip))⟩

def c92 : Code' := .fn ⟨(nat_lit 10), [.tmp (nat_lit 2)],
 (.seq (.region [
  .ins ⟨(.p .mv), [.const (.int .i64 (.ofNat (nat_lit 0)))], (some (nat_lit 2)), none⟩])
 (.seq (.seq (.region [
  .ins ⟨(.p .mv), [.tmp (nat_lit 0)], (some (nat_lit 3)), none⟩,
  .ins ⟨(.p (.eqnil .ptr false)), [.tmp (nat_lit 3), .const (.ptr none)], (some (nat_lit 4)), none⟩])
 (.cond (.tmp (nat_lit 4)) (.seq (.region [
  .ins ⟨(.p .mv), [.const (.int .i64 (.ofNat (nat_lit 0)))], (some (nat_lit 2)), none⟩])
 .ret)
 .skip))
 (.seq (.region [
  .ins ⟨(.p .mv), [.tmp (nat_lit 0)], (some (nat_lit 5)), none⟩,
  .ins ⟨(.p .nilck), [.tmp (nat_lit 5)], (some (nat_lit 6)), none⟩,
  .ins ⟨(.p (.fieldAddr (nat_lit 1))), [.tmp (nat_lit 6)], (some (nat_lit 7)), none⟩,
  .ins ⟨(.r (.load false (nat_lit 1))), [.tmp (nat_lit 7)], (some (nat_lit 8)), none⟩,
  .ins ⟨(.c .value), [.const (.func (.func (nat_lit 164)) [] []), .tmp (nat_lit 8)], (some (nat_lit 9)), none⟩,
  .ins ⟨(.p .mv), [.tmp (nat_lit 9)], (some (nat_lit 2)), none⟩])
 .ret)))⟩

def c93 : Code' := .fn ⟨(nat_lit 14), [],
 (.seq (.region [
  .ins ⟨(.a .box), [.tmp (nat_lit 1)], (some (nat_lit 3)), none⟩])
 (.region [
  .ins ⟨(.p .mv), [.tmp (nat_lit 0)], (some (nat_lit 4)), none⟩,
  .ins ⟨(.p .mv), [.tmp (nat_lit 0)], (some (nat_lit 5)), none⟩,
  .ins ⟨(.p .nilck), [.tmp (nat_lit 5)], (some (nat_lit 6)), none⟩,
  .ins ⟨(.p (.fieldAddr (nat_lit 22))), [.tmp (nat_lit 6)], (some (nat_lit 7)), none⟩,
  .ins ⟨(.r (.load false (nat_lit 1))), [.tmp (nat_lit 7)], (some (nat_lit 8)), none⟩,
  .ins ⟨(.r (.load true (nat_lit 7))), [.tmp (nat_lit 3)], (some (nat_lit 9)), none⟩,
  .ins ⟨(.a (.buildSlice [(.int .i64 (.ofNat (nat_lit 0))), (.int .i64 (.ofNat (nat_lit 0))), (.slice none (nat_lit 0) (nat_lit 0) (nat_lit 0)), (.slice none (nat_lit 0) (nat_lit 0) (nat_lit 0)), (.bool false), (.int .i64 (.ofNat (nat_lit 0))), (.int .i64 (.ofNat (nat_lit 0)))] (nat_lit 1) [((nat_lit 0), (nat_lit 7))])), [.tmp (nat_lit 9)], (some (nat_lit 10)), none⟩,
  .ins ⟨(.l (.append [(.int .i64 (.ofNat (nat_lit 0))), (.int .i64 (.ofNat (nat_lit 0))), (.slice none (nat_lit 0) (nat_lit 0) (nat_lit 0)), (.slice none (nat_lit 0) (nat_lit 0) (nat_lit 0)), (.bool false), (.int .i64 (.ofNat (nat_lit 0))), (.int .i64 (.ofNat (nat_lit 0)))] (nat_lit 7) (nat_lit 88))), [.tmp (nat_lit 8), .tmp (nat_lit 10)], (some (nat_lit 11)), none⟩,
  .ins ⟨(.p .nilck), [.tmp (nat_lit 4)], (some (nat_lit 12)), none⟩,
  .ins ⟨(.p (.fieldAddr (nat_lit 22))), [.tmp (nat_lit 12)], (some (nat_lit 13)), none⟩,
  .ins ⟨(.l (.store (nat_lit 1))), [.tmp (nat_lit 13), .tmp (nat_lit 11)], none, none⟩]))⟩

def c95 : Code' := .fn ⟨(nat_lit 52), [],
 (.seq (.region [
  .ins ⟨(.a .box), [.tmp (nat_lit 1)], (some (nat_lit 3)), none⟩])
 (.seq (.region [
  .ins ⟨(.p .mv), [.tmp (nat_lit 0)], (some (nat_lit 5)), none⟩,
  .ins ⟨(.p (.fieldAddr (nat_lit 1))), [.tmp (nat_lit 3)], (some (nat_lit 6)), none⟩,
  .ins ⟨(.r (.load false (nat_lit 1))), [.tmp (nat_lit 6)], (some (nat_lit 7)), none⟩,
  .ins ⟨(.c .value), [.const (.func (.func (nat_lit 56)) [] []), .tmp (nat_lit 5), .tmp (nat_lit 7)], (some (nat_lit 8)), none⟩,
  .ins ⟨(.p .mv), [.tmp (nat_lit 8)], (some (nat_lit 4)), none⟩])
 (.seq (.seq (.region [
  .ins ⟨(.p .mv), [.tmp (nat_lit 4)], (some (nat_lit 9)), none⟩,
  .ins ⟨(.p (.eqnil .ptr false)), [.tmp (nat_lit 9), .const (.ptr none)], (some (nat_lit 10)), none⟩])
 (.cond (.tmp (nat_lit 10)) .ret
 .skip))
 (.block (nat_lit 0) (.seq (.seq (.region [
  .ins ⟨(.p (.fieldAddr (nat_lit 0))), [.tmp (nat_lit 3)], (some (nat_lit 12)), none⟩,
  .ins ⟨(.r (.load false (nat_lit 1))), [.tmp (nat_lit 12)], (some (nat_lit 13)), none⟩,
  .ins ⟨(.p (.bini .eql)), [.tmp (nat_lit 13), .const (.int .i64 (.ofNat (nat_lit 3)))], (some (nat_lit 14)), none⟩,
  .ins ⟨(.p .mv), [.tmp (nat_lit 14)], (some (nat_lit 11)), none⟩])
 (.cond (.tmp (nat_lit 11)) .skip
 (.region [
  .ins ⟨(.p (.fieldAddr (nat_lit 4))), [.tmp (nat_lit 3)], (some (nat_lit 15)), none⟩,
  .ins ⟨(.r (.load false (nat_lit 1))), [.tmp (nat_lit 15)], (some (nat_lit 16)), none⟩,
  .ins ⟨(.p .mv), [.tmp (nat_lit 16)], (some (nat_lit 17)), none⟩,
  .ins ⟨(.p (.fieldAddr (nat_lit 0))), [.tmp (nat_lit 3)], (some (nat_lit 18)), (some ((nat_lit 17), true))⟩,
  .ins ⟨(.r (.load false (nat_lit 1))), [.tmp (nat_lit 18)], (some (nat_lit 19)), (some ((nat_lit 17), true))⟩,
  .ins ⟨(.p (.bini .eql)), [.tmp (nat_lit 19), .const (.int .i64 (.ofNat (nat_lit 2)))], (some (nat_lit 20)), (some ((nat_lit 17), true))⟩,
  .ins ⟨(.p .mv), [.tmp (nat_lit 20)], (some (nat_lit 21)), (some ((nat_lit 17), true))⟩,
  .ins ⟨(.p (.fieldAddr (nat_lit 0))), [.tmp (nat_lit 3)], (some (nat_lit 22)), (some ((nat_lit 21), false))⟩,
  .ins ⟨(.r (.load false (nat_lit 1))), [.tmp (nat_lit 22)], (some (nat_lit 23)), (some ((nat_lit 21), false))⟩,
  .ins ⟨(.p (.bini .eql)), [.tmp (nat_lit 23), .const (.int .i64 (.ofNat (nat_lit 4)))], (some (nat_lit 24)), (some ((nat_lit 21), false))⟩,
  .ins ⟨(.p .pick), [.tmp (nat_lit 21), .const (.bool true), .tmp (nat_lit 24)], (some (nat_lit 25)), (some ((nat_lit 17), true))⟩,
  .ins ⟨(.p .pick), [.tmp (nat_lit 17), .tmp (nat_lit 25), .const (.bool false)], (some (nat_lit 26)), none⟩,
  .ins ⟨(.p .mv), [.tmp (nat_lit 26)], (some (nat_lit 11)), none⟩])))
 (.cond (.tmp (nat_lit 11)) (.region [
  .ins ⟨(.p .mv), [.tmp (nat_lit 0)], (some (nat_lit 27)), none⟩,
  .ins ⟨(.p .mv), [.tmp (nat_lit 4)], (some (nat_lit 28)), none⟩,
  .ins ⟨(.c .value), [.const (.func (.func (nat_lit 57)) [] []), .tmp (nat_lit 27), .tmp (nat_lit 28), .const (.int .i64 (.ofNat (nat_lit 2)))], (some (nat_lit 29)), none⟩])
 (.seq (.region [
  .ins ⟨(.p (.fieldAddr (nat_lit 0))), [.tmp (nat_lit 3)], (some (nat_lit 31)), none⟩,
  .ins ⟨(.r (.load false (nat_lit 1))), [.tmp (nat_lit 31)], (some (nat_lit 32)), none⟩,
  .ins ⟨(.p (.bini .eql)), [.tmp (nat_lit 32), .const (.int .i64 (.ofNat (nat_lit 5)))], (some (nat_lit 33)), none⟩,
  .ins ⟨(.p .mv), [.tmp (nat_lit 33)], (some (nat_lit 34)), none⟩,
  .ins ⟨(.p (.fieldAddr (nat_lit 5))), [.tmp (nat_lit 3)], (some (nat_lit 35)), (some ((nat_lit 34), true))⟩,
  .ins ⟨(.r (.load false (nat_lit 1))), [.tmp (nat_lit 35)], (some (nat_lit 36)), (some ((nat_lit 34), true))⟩,
  .ins ⟨(.p (.bini .eql)), [.tmp (nat_lit 36), .const (.int .i64 (.ofNat (nat_lit 7)))], (some (nat_lit 37)), (some ((nat_lit 34), true))⟩,
  .ins ⟨(.p .pick), [.tmp (nat_lit 34), .tmp (nat_lit 37), .const (.bool false)], (some (nat_lit 38)), none⟩,
  .ins ⟨(.p .mv), [.tmp (nat_lit 38)], (some (nat_lit 30)), none⟩])
 (.cond (.tmp (nat_lit 30)) (.region [
  .ins ⟨(.p .mv), [.tmp (nat_lit 0)], (some (nat_lit 39)), none⟩,
  .ins ⟨(.p .mv), [.tmp (nat_lit 4)], (some (nat_lit 40)), none⟩,
  .ins ⟨(.c .value), [.const (.func (.func (nat_lit 57)) [] []), .tmp (nat_lit 39), .tmp (nat_lit 40), .const (.int .i64 (.ofNat (nat_lit 5)))], (some (nat_lit 41)), none⟩])
 (.seq (.seq (.region [
  .ins ⟨(.p (.fieldAddr (nat_lit 0))), [.tmp (nat_lit 3)], (some (nat_lit 43)), none⟩,
  .ins ⟨(.r (.load false (nat_lit 1))), [.tmp (nat_lit 43)], (some (nat_lit 44)), none⟩,
  .ins ⟨(.p (.bini .eql)), [.tmp (nat_lit 44), .const (.int .i64 (.ofNat (nat_lit 5)))], (some (nat_lit 45)), none⟩,
  .ins ⟨(.p .mv), [.tmp (nat_lit 45)], (some (nat_lit 42)), none⟩])
 (.cond (.tmp (nat_lit 42)) .skip
 (.region [
  .ins ⟨(.p (.fieldAddr (nat_lit 0))), [.tmp (nat_lit 3)], (some (nat_lit 46)), none⟩,
  .ins ⟨(.r (.load false (nat_lit 1))), [.tmp (nat_lit 46)], (some (nat_lit 47)), none⟩,
  .ins ⟨(.p (.bini .eql)), [.tmp (nat_lit 47), .const (.int .i64 (.ofNat (nat_lit 6)))], (some (nat_lit 48)), none⟩,
  .ins ⟨(.p .mv), [.tmp (nat_lit 48)], (some (nat_lit 42)), none⟩])))
 (.cond (.tmp (nat_lit 42)) (.region [
  .ins ⟨(.p .mv), [.tmp (nat_lit 0)], (some (nat_lit 49)), none⟩,
  .ins ⟨(.p .mv), [.tmp (nat_lit 4)], (some (nat_lit 50)), none⟩,
  .ins ⟨(.c .value), [.const (.func (.func (nat_lit 57)) [] []), .tmp (nat_lit 49), .tmp (nat_lit 50), .const (.int .i64 (.ofNat (nat_lit 3)))], (some (nat_lit 51)), none⟩])
 .skip))))))))))⟩

def c97 : Code' := .fn ⟨(nat_lit 25), [.tmp (nat_lit 6)],
 (.seq (.region [
  .ins ⟨(.p .mv), [.const (.slice none (nat_lit 0) (nat_lit 0) (nat_lit 0))], (some (nat_lit 6)), none⟩])
 (.seq (.seq (.region [
  .ins ⟨(.p .mv), [.tmp (nat_lit 0)], (some (nat_lit 7)), none⟩,
  .ins ⟨(.p (.eqnil .ptr false)), [.tmp (nat_lit 7), .const (.ptr none)], (some (nat_lit 8)), none⟩,
  .ins ⟨(.p .mv), [.tmp (nat_lit 8)], (some (nat_lit 9)), none⟩,
  .ins ⟨(.p .mv), [.tmp (nat_lit 0)], (some (nat_lit 10)), (some ((nat_lit 9), false))⟩,
  .ins ⟨(.p .nilck), [.tmp (nat_lit 10)], (some (nat_lit 11)), (some ((nat_lit 9), false))⟩,
  .ins ⟨(.p (.fieldAddr (nat_lit 1))), [.tmp (nat_lit 11)], (some (nat_lit 12)), (some ((nat_lit 9), false))⟩,
  .ins ⟨(.r (.load false (nat_lit 1))), [.tmp (nat_lit 12)], (some (nat_lit 13)), (some ((nat_lit 9), false))⟩,
  .ins ⟨(.p (.bini .neq)), [.tmp (nat_lit 13), .const (.int .i64 (.ofNat (nat_lit 2)))], (some (nat_lit 14)), (some ((nat_lit 9), false))⟩,
  .ins ⟨(.p .pick), [.tmp (nat_lit 9), .const (.bool true), .tmp (nat_lit 14)], (some (nat_lit 15)), none⟩,
  .ins ⟨(.p .mv), [.tmp (nat_lit 15)], (some (nat_lit 16)), none⟩,
  .ins ⟨(.p .mv), [.tmp (nat_lit 2)], (some (nat_lit 17)), (some ((nat_lit 16), false))⟩,
  .ins ⟨(.p (.bini .gtr)), [.tmp (nat_lit 17), .const (.int .i64 (.ofNat (nat_lit 0)))], (some (nat_lit 18)), (some ((nat_lit 16), false))⟩,
  .ins ⟨(.p .pick), [.tmp (nat_lit 16), .const (.bool true), .tmp (nat_lit 18)], (some (nat_lit 19)), none⟩])
 (.cond (.tmp (nat_lit 19)) (.seq (.region [
  .ins ⟨(.p .mv), [.const (.slice none (nat_lit 0) (nat_lit 0) (nat_lit 0))], (some (nat_lit 6)), none⟩])
 .ret)
 .skip))
 (.seq (.region [
  .ins ⟨(.p .mv), [.tmp (nat_lit 0)], (some (nat_lit 20)), none⟩,
  .ins ⟨(.p .nilck), [.tmp (nat_lit 20)], (some (nat_lit 21)), none⟩,
  .ins ⟨(.p (.fieldAddr (nat_lit 1))), [.tmp (nat_lit 21)], (some (nat_lit 22)), none⟩,
  .ins ⟨(.l (.store (nat_lit 1))), [.tmp (nat_lit 22), .const (.int .i64 (.ofNat (nat_lit 3)))], none, none⟩])
 (.seq (.region [
  .ins ⟨(.p (.build [(.int .i64 (.ofNat (nat_lit 0))), (.int .i64 (.ofNat (nat_lit 0)))] [((nat_lit 0), (nat_lit 1))])), [.const (.int .i64 (.ofNat (nat_lit 3)))], (some (nat_lit 23)), none⟩,
  .ins ⟨(.a (.buildSlice [(.int .i64 (.ofNat (nat_lit 0))), (.int .i64 (.ofNat (nat_lit 0)))] (nat_lit 1) [((nat_lit 0), (nat_lit 2))])), [.tmp (nat_lit 23)], (some (nat_lit 24)), none⟩,
  .ins ⟨(.p .mv), [.tmp (nat_lit 24)], (some (nat_lit 6)), none⟩])
 .ret))))⟩

def c99 : Code' := .fn ⟨(nat_lit 34), [],
 (.seq (.seq (.region [
  .ins ⟨(.r (.load false (nat_lit 1))), [.tmp (nat_lit 1)], (some (nat_lit 8)), none⟩,
  .ins ⟨(.p (.eqnil .ptr false)), [.tmp (nat_lit 8), .const (.ptr none)], (some (nat_lit 9)), none⟩])
 (.cond (.tmp (nat_lit 9)) .ret
 .skip))
 (.seq (.region [
  .ins ⟨(.a (.alloc [(.bool false), (.bool false), (.bool false), (.bool false), (.bool false), (.bool false)])), [], (some (nat_lit 4)), none⟩])
 (.block (nat_lit 0) (.loop (.block (nat_lit 1) (.seq (.region [
  .ins ⟨(.r (.load false (nat_lit 1))), [.tmp (nat_lit 1)], (some (nat_lit 11)), none⟩,
  .ins ⟨(.r (.load true (nat_lit 6))), [.tmp (nat_lit 4)], (some (nat_lit 12)), none⟩,
  .ins ⟨(.c .value), [.const (.func (.func (nat_lit 100)) [] []), .tmp (nat_lit 11), .tmp (nat_lit 12)], (some (nat_lit 13)), none⟩,
  .ins ⟨(.p .mv), [.tmp (nat_lit 13)], (some (nat_lit 10)), none⟩,
  .ins ⟨(.p (.extract (nat_lit 0))), [.tmp (nat_lit 10)], (some (nat_lit 14)), none⟩,
  .ins ⟨(.p (.extract (nat_lit 1))), [.tmp (nat_lit 10)], (some (nat_lit 15)), none⟩,
  .ins ⟨(.p (.extract (nat_lit 2))), [.tmp (nat_lit 10)], (some (nat_lit 16)), none⟩,
  .ins ⟨(.p .mv), [.tmp (nat_lit 14)], (some (nat_lit 5)), none⟩,
  .ins ⟨(.p .mv), [.tmp (nat_lit 15)], (some (nat_lit 6)), none⟩,
  .ins ⟨(.p .mv), [.tmp (nat_lit 16)], (some (nat_lit 7)), none⟩])
 (.seq (.seq (.region [
  .ins ⟨(.p .mv), [.tmp (nat_lit 7)], (some (nat_lit 17)), none⟩,
  .ins ⟨(.p (.un .not)), [.tmp (nat_lit 17)], (some (nat_lit 18)), none⟩,
  .ins ⟨(.p .mv), [.tmp (nat_lit 18)], (some (nat_lit 19)), none⟩,
  .ins ⟨(.p .mv), [.tmp (nat_lit 6)], (some (nat_lit 20)), (some ((nat_lit 19), false))⟩,
  .ins ⟨(.r (.load false (nat_lit 1))), [.tmp (nat_lit 2)], (some (nat_lit 21)), (some ((nat_lit 19), false))⟩,
  .ins ⟨(.p (.bini .gtr)), [.tmp (nat_lit 20), .tmp (nat_lit 21)], (some (nat_lit 22)), (some ((nat_lit 19), false))⟩,
  .ins ⟨(.p .pick), [.tmp (nat_lit 19), .const (.bool true), .tmp (nat_lit 22)], (some (nat_lit 23)), none⟩])
 (.cond (.tmp (nat_lit 23)) .ret
 .skip))
 (.seq (.region [
  .ins ⟨(.p .mv), [.tmp (nat_lit 5)], (some (nat_lit 24)), none⟩,
  .ins ⟨(.p (.indexAddrArr (nat_lit 6) (nat_lit 1))), [.tmp (nat_lit 4), .tmp (nat_lit 24)], (some (nat_lit 25)), none⟩,
  .ins ⟨(.l (.store (nat_lit 1))), [.tmp (nat_lit 25), .const (.bool true)], none, none⟩])
 (.seq (.region [
  .ins ⟨(.r (.load false (nat_lit 1))), [.tmp (nat_lit 1)], (some (nat_lit 26)), none⟩,
  .ins ⟨(.p .mv), [.tmp (nat_lit 5)], (some (nat_lit 27)), none⟩,
  .ins ⟨(.c .value), [.const (.func (.func (nat_lit 91)) [] []), .tmp (nat_lit 26), .tmp (nat_lit 27)], (some (nat_lit 28)), none⟩])
 (.seq (.region [
  .ins ⟨(.p .mv), [.tmp (nat_lit 0)], (some (nat_lit 29)), none⟩,
  .ins ⟨(.p .mv), [.tmp (nat_lit 5)], (some (nat_lit 30)), none⟩,
  .ins ⟨(.p .mv), [.tmp (nat_lit 6)], (some (nat_lit 31)), none⟩,
  .ins ⟨(.c .value), [.tmp (nat_lit 29), .tmp (nat_lit 30), .tmp (nat_lit 31)], (some (nat_lit 32)), none⟩,
  .ins ⟨(.p (.un .not)), [.tmp (nat_lit 32)], (some (nat_lit 33)), none⟩])
 (.cond (.tmp (nat_lit 33)) .ret
 .skip)))))))))))⟩

end Go.Proofs.YtjjdminaacibeaaGreatDoor.Ev.PairLong
