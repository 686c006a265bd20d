/- The code of the functions that the run calls, part 1. -/
import Derived.Test.YtjjdminaacibeaaGreatDoorEv1
namespace Go.Proofs.YtjjdminaacibeaaGreatDoor.Ev.EndNone
set_option maxRecDepth 100000
def bs (l : List Nat) : List UInt8 := l.map UInt8.ofNat
def c3 : Code' := .fn ⟨(nat_lit 132), [.tmp (nat_lit 0)],
 (.seq (.region [
  .ins ⟨(.p .mv), [.const (.bool false)], (some (nat_lit 0)), none⟩])
 (.seq (.region [
  .ins ⟨(.p .mv), [.const (.ptr none)], (some (nat_lit 1)), none⟩])
 (.seq (.region [
  .ins ⟨(.p .mv), [.tmp (nat_lit 1)], (some (nat_lit 17)), none⟩,
  .ins ⟨(.a (.buildSlice [(.int .u8 (.ofNat (nat_lit 0)))] (nat_lit 1) [((nat_lit 0), (nat_lit 1))])), [.const (.int .u8 (.ofNat (nat_lit 1)))], (some (nat_lit 18)), none⟩,
  .ins ⟨(.c .value), [.const (.func (.func (nat_lit 6)) [] []), .tmp (nat_lit 17), .tmp (nat_lit 18)], (some (nat_lit 19)), none⟩,
  .ins ⟨(.p .mv), [.tmp (nat_lit 19)], (some (nat_lit 2)), none⟩])
 (.seq (.region [
  .ins ⟨(.p .mv), [.tmp (nat_lit 1)], (some (nat_lit 20)), none⟩,
  .ins ⟨(.c .value), [.const (.func (.func (nat_lit 7)) [] []), .tmp (nat_lit 20)], (some (nat_lit 21)), none⟩,
  .ins ⟨(.p .mv), [.tmp (nat_lit 21)], (some (nat_lit 3)), none⟩])
 (.seq (.region [
  .ins ⟨(.p .mv), [.tmp (nat_lit 1)], (some (nat_lit 22)), none⟩,
  .ins ⟨(.c .value), [.const (.func (.func (nat_lit 8)) [] []), .tmp (nat_lit 22), .const (.int .i64 (.ofNat (nat_lit 5)))], (some (nat_lit 23)), none⟩,
  .ins ⟨(.p .mv), [.tmp (nat_lit 23)], (some (nat_lit 4)), none⟩])
 (.seq (.region [
  .ins ⟨(.p .mv), [.tmp (nat_lit 1)], (some (nat_lit 24)), none⟩,
  .ins ⟨(.c .value), [.const (.func (.func (nat_lit 9)) [] []), .tmp (nat_lit 24), .const (.int .i64 (.ofNat (nat_lit 5)))], (some (nat_lit 25)), none⟩,
  .ins ⟨(.p .mv), [.tmp (nat_lit 25)], (some (nat_lit 5)), none⟩])
 (.seq (.region [
  .ins ⟨(.p .mv), [.tmp (nat_lit 1)], (some (nat_lit 27)), none⟩,
  .ins ⟨(.c .value), [.const (.func (.func (nat_lit 10)) [] []), .tmp (nat_lit 27), .const (.slice none (nat_lit 0) (nat_lit 0) (nat_lit 0)), .const (.bool true)], (some (nat_lit 28)), none⟩,
  .ins ⟨(.p .mv), [.tmp (nat_lit 28)], (some (nat_lit 26)), none⟩,
  .ins ⟨(.p (.extract (nat_lit 0))), [.tmp (nat_lit 26)], (some (nat_lit 29)), none⟩,
  .ins ⟨(.p (.extract (nat_lit 1))), [.tmp (nat_lit 26)], (some (nat_lit 30)), none⟩,
  .ins ⟨(.p .mv), [.tmp (nat_lit 29)], (some (nat_lit 6)), none⟩,
  .ins ⟨(.p .mv), [.tmp (nat_lit 30)], (some (nat_lit 7)), none⟩])
 (.seq (.region [
  .ins ⟨(.p .mv), [.tmp (nat_lit 1)], (some (nat_lit 31)), none⟩,
  .ins ⟨(.c .value), [.const (.func (.func (nat_lit 11)) [] []), .tmp (nat_lit 31), .const (.int .i64 (.ofNat (nat_lit 1))), .const (.slice none (nat_lit 0) (nat_lit 0) (nat_lit 0)), .const (.bool true)], (some (nat_lit 32)), none⟩,
  .ins ⟨(.p .mv), [.tmp (nat_lit 32)], (some (nat_lit 8)), none⟩])
 (.seq (.region [
  .ins ⟨(.p .mv), [.tmp (nat_lit 1)], (some (nat_lit 34)), none⟩,
  .ins ⟨(.c .value), [.const (.func (.func (nat_lit 12)) [] []), .tmp (nat_lit 34), .const (.int .i64 (.ofNat (nat_lit 1))), .const (.slice none (nat_lit 0) (nat_lit 0) (nat_lit 0)), .const (.bool true)], (some (nat_lit 35)), none⟩,
  .ins ⟨(.p .mv), [.tmp (nat_lit 35)], (some (nat_lit 33)), none⟩,
  .ins ⟨(.p (.extract (nat_lit 0))), [.tmp (nat_lit 33)], (some (nat_lit 36)), none⟩,
  .ins ⟨(.p (.extract (nat_lit 1))), [.tmp (nat_lit 33)], (some (nat_lit 37)), none⟩,
  .ins ⟨(.p .mv), [.tmp (nat_lit 36)], (some (nat_lit 9)), none⟩,
  .ins ⟨(.p .mv), [.tmp (nat_lit 37)], (some (nat_lit 10)), none⟩])
 (.seq (.region [
  .ins ⟨(.p .mv), [.tmp (nat_lit 1)], (some (nat_lit 39)), none⟩,
  .ins ⟨(.c .value), [.const (.func (.func (nat_lit 13)) [] []), .tmp (nat_lit 39), .const (.int .i64 (.ofNat (nat_lit 1)))], (some (nat_lit 40)), none⟩,
  .ins ⟨(.p .mv), [.tmp (nat_lit 40)], (some (nat_lit 38)), none⟩,
  .ins ⟨(.p (.extract (nat_lit 0))), [.tmp (nat_lit 38)], (some (nat_lit 41)), none⟩,
  .ins ⟨(.p (.extract (nat_lit 1))), [.tmp (nat_lit 38)], (some (nat_lit 42)), none⟩,
  .ins ⟨(.p .mv), [.tmp (nat_lit 41)], (some (nat_lit 11)), none⟩,
  .ins ⟨(.p .mv), [.tmp (nat_lit 42)], (some (nat_lit 12)), none⟩])
 (.seq (.region [
  .ins ⟨(.p .mv), [.tmp (nat_lit 1)], (some (nat_lit 43)), none⟩,
  .ins ⟨(.c .value), [.const (.func (.func (nat_lit 15)) [] [])], (some (nat_lit 44)), none⟩,
  .ins ⟨(.c .value), [.const (.func (.func (nat_lit 14)) [] []), .tmp (nat_lit 43), .tmp (nat_lit 44)], (some (nat_lit 45)), none⟩,
  .ins ⟨(.p .mv), [.tmp (nat_lit 45)], (some (nat_lit 13)), none⟩])
 (.seq (.region [
  .ins ⟨(.p .mv), [.tmp (nat_lit 1)], (some (nat_lit 46)), none⟩,
  .ins ⟨(.c .value), [.const (.func (.func (nat_lit 16)) [] []), .tmp (nat_lit 46)], (some (nat_lit 47)), none⟩,
  .ins ⟨(.p .mv), [.tmp (nat_lit 47)], (some (nat_lit 14)), none⟩])
 (.seq (.region [
  .ins ⟨(.a (.alloc [(.int .i64 (.ofNat (nat_lit 0)))])), [], (some (nat_lit 15)), none⟩,
  .ins ⟨(.l (.store (nat_lit 1))), [.tmp (nat_lit 15), .const (.int .i64 (.ofNat (nat_lit 0)))], none, none⟩])
 (.seq (.region [
  .ins ⟨(.p .mv), [.tmp (nat_lit 1)], (some (nat_lit 48)), none⟩,
  .ins ⟨(.c .value), [.const (.func (.func (nat_lit 17)) [] []), .tmp (nat_lit 48)], (some (nat_lit 49)), none⟩,
  .ins ⟨(.p .mv), [.tmp (nat_lit 49)], (some (nat_lit 16)), none⟩])
 (.seq (.seq (.region [
  .ins ⟨(.p .mv), [.tmp (nat_lit 16)], (some (nat_lit 50)), none⟩,
  .ins ⟨(.p (.eqnil .fn false)), [.tmp (nat_lit 50), .const .nilFunc], (some (nat_lit 51)), none⟩])
 (.cond (.tmp (nat_lit 51)) (.seq (.region [
  .ins ⟨(.p .mv), [.const (.bool false)], (some (nat_lit 0)), none⟩])
 .ret)
 .skip))
 (.seq (.seq (.region [
  .ins ⟨(.p .mv), [.tmp (nat_lit 16)], (some (nat_lit 52)), none⟩])
 (.block (nat_lit 0) (.rangeFunc (.tmp (nat_lit 52)) [(nat_lit 53), (nat_lit 54)] .skip
 (.block (nat_lit 1) (.region [
  .ins ⟨(.r (.load false (nat_lit 1))), [.tmp (nat_lit 15)], (some (nat_lit 55)), none⟩,
  .ins ⟨(.p (.bini .add)), [.tmp (nat_lit 55), .const (.int .i64 (.ofNat (nat_lit 1)))], (some (nat_lit 56)), none⟩,
  .ins ⟨(.l (.store (nat_lit 1))), [.tmp (nat_lit 15), .tmp (nat_lit 56)], none, none⟩])))))
 (.seq (.region [
  .ins ⟨(.c .value), [.const (.func (.func (nat_lit 18)) [] [])], (some (nat_lit 57)), none⟩,
  .ins ⟨(.p .mv), [.tmp (nat_lit 57)], (some (nat_lit 58)), none⟩,
  .ins ⟨(.p .mv), [.tmp (nat_lit 2)], (some (nat_lit 59)), (some ((nat_lit 58), true))⟩,
  .ins ⟨(.p .lenSl), [.tmp (nat_lit 59)], (some (nat_lit 60)), (some ((nat_lit 58), true))⟩,
  .ins ⟨(.p (.bini .eql)), [.tmp (nat_lit 60), .const (.int .i64 (.ofNat (nat_lit 0)))], (some (nat_lit 61)), (some ((nat_lit 58), true))⟩,
  .ins ⟨(.p .pick), [.tmp (nat_lit 58), .tmp (nat_lit 61), .const (.bool false)], (some (nat_lit 62)), none⟩,
  .ins ⟨(.p .mv), [.tmp (nat_lit 62)], (some (nat_lit 63)), none⟩,
  .ins ⟨(.p .mv), [.tmp (nat_lit 3)], (some (nat_lit 64)), (some ((nat_lit 63), true))⟩,
  .ins ⟨(.p .lenSl), [.tmp (nat_lit 64)], (some (nat_lit 65)), (some ((nat_lit 63), true))⟩,
  .ins ⟨(.p (.bini .eql)), [.tmp (nat_lit 65), .const (.int .i64 (.ofNat (nat_lit 0)))], (some (nat_lit 66)), (some ((nat_lit 63), true))⟩,
  .ins ⟨(.p .pick), [.tmp (nat_lit 63), .tmp (nat_lit 66), .const (.bool false)], (some (nat_lit 67)), none⟩,
  .ins ⟨(.p .mv), [.tmp (nat_lit 67)], (some (nat_lit 68)), none⟩,
  .ins ⟨(.p .mv), [.tmp (nat_lit 4)], (some (nat_lit 69)), (some ((nat_lit 68), true))⟩,
  .ins ⟨(.p .lenSl), [.tmp (nat_lit 69)], (some (nat_lit 70)), (some ((nat_lit 68), true))⟩,
  .ins ⟨(.p (.bini .eql)), [.tmp (nat_lit 70), .const (.int .i64 (.ofNat (nat_lit 0)))], (some (nat_lit 71)), (some ((nat_lit 68), true))⟩,
  .ins ⟨(.p .pick), [.tmp (nat_lit 68), .tmp (nat_lit 71), .const (.bool false)], (some (nat_lit 72)), none⟩,
  .ins ⟨(.p .mv), [.tmp (nat_lit 72)], (some (nat_lit 73)), none⟩,
  .ins ⟨(.p .mv), [.tmp (nat_lit 5)], (some (nat_lit 74)), (some ((nat_lit 73), true))⟩,
  .ins ⟨(.p .lenSl), [.tmp (nat_lit 74)], (some (nat_lit 75)), (some ((nat_lit 73), true))⟩,
  .ins ⟨(.p (.bini .eql)), [.tmp (nat_lit 75), .const (.int .i64 (.ofNat (nat_lit 0)))], (some (nat_lit 76)), (some ((nat_lit 73), true))⟩,
  .ins ⟨(.p .pick), [.tmp (nat_lit 73), .tmp (nat_lit 76), .const (.bool false)], (some (nat_lit 77)), none⟩,
  .ins ⟨(.p .mv), [.tmp (nat_lit 77)], (some (nat_lit 78)), none⟩,
  .ins ⟨(.p .mv), [.tmp (nat_lit 7)], (some (nat_lit 79)), (some ((nat_lit 78), true))⟩,
  .ins ⟨(.p (.bini .eql)), [.tmp (nat_lit 79), .const (.int .i64 (.ofNat (nat_lit 1)))], (some (nat_lit 80)), (some ((nat_lit 78), true))⟩,
  .ins ⟨(.p .pick), [.tmp (nat_lit 78), .tmp (nat_lit 80), .const (.bool false)], (some (nat_lit 81)), none⟩,
  .ins ⟨(.p .mv), [.tmp (nat_lit 81)], (some (nat_lit 82)), none⟩,
  .ins ⟨(.p .mv), [.tmp (nat_lit 8)], (some (nat_lit 83)), (some ((nat_lit 82), true))⟩,
  .ins ⟨(.p (.bini .eql)), [.tmp (nat_lit 83), .const (.int .i64 (.ofNat (nat_lit 1)))], (some (nat_lit 84)), (some ((nat_lit 82), true))⟩,
  .ins ⟨(.p .pick), [.tmp (nat_lit 82), .tmp (nat_lit 84), .const (.bool false)], (some (nat_lit 85)), none⟩,
  .ins ⟨(.p .mv), [.tmp (nat_lit 85)], (some (nat_lit 86)), none⟩,
  .ins ⟨(.p .mv), [.tmp (nat_lit 10)], (some (nat_lit 87)), (some ((nat_lit 86), true))⟩,
  .ins ⟨(.p (.bini .eql)), [.tmp (nat_lit 87), .const (.int .i64 (.ofNat (nat_lit 1)))], (some (nat_lit 88)), (some ((nat_lit 86), true))⟩,
  .ins ⟨(.p .pick), [.tmp (nat_lit 86), .tmp (nat_lit 88), .const (.bool false)], (some (nat_lit 89)), none⟩,
  .ins ⟨(.p .mv), [.tmp (nat_lit 89)], (some (nat_lit 90)), none⟩,
  .ins ⟨(.p .mv), [.tmp (nat_lit 12)], (some (nat_lit 91)), (some ((nat_lit 90), true))⟩,
  .ins ⟨(.p (.bini .eql)), [.tmp (nat_lit 91), .const (.int .i64 (.ofNat (nat_lit 1)))], (some (nat_lit 92)), (some ((nat_lit 90), true))⟩,
  .ins ⟨(.p .pick), [.tmp (nat_lit 90), .tmp (nat_lit 92), .const (.bool false)], (some (nat_lit 93)), none⟩,
  .ins ⟨(.p .mv), [.tmp (nat_lit 93)], (some (nat_lit 94)), none⟩,
  .ins ⟨(.p .mv), [.tmp (nat_lit 13)], (some (nat_lit 95)), (some ((nat_lit 94), true))⟩,
  .ins ⟨(.p (.bini .eql)), [.tmp (nat_lit 95), .const (.int .i64 (.ofNat (nat_lit 1)))], (some (nat_lit 96)), (some ((nat_lit 94), true))⟩,
  .ins ⟨(.p .pick), [.tmp (nat_lit 94), .tmp (nat_lit 96), .const (.bool false)], (some (nat_lit 97)), none⟩,
  .ins ⟨(.p .mv), [.tmp (nat_lit 97)], (some (nat_lit 98)), none⟩,
  .ins ⟨(.p .mv), [.tmp (nat_lit 14)], (some (nat_lit 99)), (some ((nat_lit 98), true))⟩,
  .ins ⟨(.p .lenSl), [.tmp (nat_lit 99)], (some (nat_lit 100)), (some ((nat_lit 98), true))⟩,
  .ins ⟨(.p (.bini .eql)), [.tmp (nat_lit 100), .const (.int .i64 (.ofNat (nat_lit 0)))], (some (nat_lit 101)), (some ((nat_lit 98), true))⟩,
  .ins ⟨(.p .pick), [.tmp (nat_lit 98), .tmp (nat_lit 101), .const (.bool false)], (some (nat_lit 102)), none⟩,
  .ins ⟨(.p .mv), [.tmp (nat_lit 102)], (some (nat_lit 103)), none⟩,
  .ins ⟨(.r (.load false (nat_lit 1))), [.tmp (nat_lit 15)], (some (nat_lit 104)), (some ((nat_lit 103), true))⟩,
  .ins ⟨(.p (.bini .eql)), [.tmp (nat_lit 104), .const (.int .i64 (.ofNat (nat_lit 0)))], (some (nat_lit 105)), (some ((nat_lit 103), true))⟩,
  .ins ⟨(.p .pick), [.tmp (nat_lit 103), .tmp (nat_lit 105), .const (.bool false)], (some (nat_lit 106)), none⟩,
  .ins ⟨(.p .mv), [.tmp (nat_lit 106)], (some (nat_lit 107)), none⟩,
  .ins ⟨(.p .mv), [.tmp (nat_lit 1)], (some (nat_lit 108)), (some ((nat_lit 107), true))⟩,
  .ins ⟨(.c .value), [.const (.func (.func (nat_lit 19)) [] []), .tmp (nat_lit 108)], (some (nat_lit 109)), (some ((nat_lit 107), true))⟩,
  .ins ⟨(.p (.bini .eql)), [.tmp (nat_lit 109), .const (.int .i64 (.ofNat (nat_lit 6)))], (some (nat_lit 110)), (some ((nat_lit 107), true))⟩,
  .ins ⟨(.p .pick), [.tmp (nat_lit 107), .tmp (nat_lit 110), .const (.bool false)], (some (nat_lit 111)), none⟩,
  .ins ⟨(.p .mv), [.tmp (nat_lit 111)], (some (nat_lit 112)), none⟩,
  .ins ⟨(.p .mv), [.tmp (nat_lit 1)], (some (nat_lit 113)), (some ((nat_lit 112), true))⟩,
  .ins ⟨(.c .value), [.const (.func (.func (nat_lit 20)) [] []), .tmp (nat_lit 113)], (some (nat_lit 114)), (some ((nat_lit 112), true))⟩,
  .ins ⟨(.p (.bini .eql)), [.tmp (nat_lit 114), .const (.int .i64 (.ofNat (nat_lit 0)))], (some (nat_lit 115)), (some ((nat_lit 112), true))⟩,
  .ins ⟨(.p .pick), [.tmp (nat_lit 112), .tmp (nat_lit 115), .const (.bool false)], (some (nat_lit 116)), none⟩,
  .ins ⟨(.p .mv), [.tmp (nat_lit 116)], (some (nat_lit 117)), none⟩,
  .ins ⟨(.p .mv), [.tmp (nat_lit 1)], (some (nat_lit 118)), (some ((nat_lit 117), true))⟩,
  .ins ⟨(.c .value), [.const (.func (.func (nat_lit 21)) [] []), .tmp (nat_lit 118), .const (.int .i64 (.ofNat (nat_lit 1)))], (some (nat_lit 119)), (some ((nat_lit 117), true))⟩,
  .ins ⟨(.p (.bini .eql)), [.tmp (nat_lit 119), .const (.int .i64 (.ofNat (nat_lit 0)))], (some (nat_lit 120)), (some ((nat_lit 117), true))⟩,
  .ins ⟨(.p .pick), [.tmp (nat_lit 117), .tmp (nat_lit 120), .const (.bool false)], (some (nat_lit 121)), none⟩,
  .ins ⟨(.p .mv), [.tmp (nat_lit 121)], (some (nat_lit 122)), none⟩,
  .ins ⟨(.p .mv), [.tmp (nat_lit 1)], (some (nat_lit 123)), (some ((nat_lit 122), true))⟩,
  .ins ⟨(.c .value), [.const (.func (.func (nat_lit 22)) [] []), .tmp (nat_lit 123)], (some (nat_lit 124)), (some ((nat_lit 122), true))⟩,
  .ins ⟨(.p (.bini .eql)), [.tmp (nat_lit 124), .const (.int .i64 (.ofNat (nat_lit 0)))], (some (nat_lit 125)), (some ((nat_lit 122), true))⟩,
  .ins ⟨(.p .pick), [.tmp (nat_lit 122), .tmp (nat_lit 125), .const (.bool false)], (some (nat_lit 126)), none⟩,
  .ins ⟨(.p .mv), [.tmp (nat_lit 126)], (some (nat_lit 127)), none⟩,
  .ins ⟨(.p .mv), [.tmp (nat_lit 1)], (some (nat_lit 128)), (some ((nat_lit 127), true))⟩,
  .ins ⟨(.c .value), [.const (.func (.func (nat_lit 23)) [] []), .tmp (nat_lit 128)], (some (nat_lit 129)), (some ((nat_lit 127), true))⟩,
  .ins ⟨(.p (.un .not)), [.tmp (nat_lit 129)], (some (nat_lit 130)), (some ((nat_lit 127), true))⟩,
  .ins ⟨(.p .pick), [.tmp (nat_lit 127), .tmp (nat_lit 130), .const (.bool false)], (some (nat_lit 131)), none⟩,
  .ins ⟨(.p .mv), [.tmp (nat_lit 131)], (some (nat_lit 0)), none⟩])
 .ret)))))))))))))))))⟩

def c6 : Code' := .fn ⟨(nat_lit 62), [.tmp (nat_lit 4)],
 (.seq (.region [
  .ins ⟨(.p .mv), [.const (.slice none (nat_lit 0) (nat_lit 0) (nat_lit 0))], (some (nat_lit 4)), none⟩])
 (.seq (.seq (.region [
  .ins ⟨(.p .mv), [.tmp (nat_lit 0)], (some (nat_lit 9)), none⟩,
  .ins ⟨(.p (.eqnil .ptr false)), [.tmp (nat_lit 9), .const (.ptr none)], (some (nat_lit 10)), none⟩,
  .ins ⟨(.p .mv), [.tmp (nat_lit 10)], (some (nat_lit 11)), none⟩,
  .ins ⟨(.p .mv), [.tmp (nat_lit 0)], (some (nat_lit 12)), (some ((nat_lit 11), false))⟩,
  .ins ⟨(.p .nilck), [.tmp (nat_lit 12)], (some (nat_lit 13)), (some ((nat_lit 11), false))⟩,
  .ins ⟨(.p (.fieldAddr (nat_lit 17))), [.tmp (nat_lit 13)], (some (nat_lit 14)), (some ((nat_lit 11), false))⟩,
  .ins ⟨(.r (.load false (nat_lit 1))), [.tmp (nat_lit 14)], (some (nat_lit 15)), (some ((nat_lit 11), false))⟩,
  .ins ⟨(.p (.bini .neq)), [.tmp (nat_lit 15), .const (.int .i64 (.ofNat (nat_lit 0)))], (some (nat_lit 16)), (some ((nat_lit 11), false))⟩,
  .ins ⟨(.p .pick), [.tmp (nat_lit 11), .const (.bool true), .tmp (nat_lit 16)], (some (nat_lit 17)), none⟩,
  .ins ⟨(.p .mv), [.tmp (nat_lit 17)], (some (nat_lit 18)), none⟩,
  .ins ⟨(.p .mv), [.tmp (nat_lit 1)], (some (nat_lit 19)), (some ((nat_lit 18), false))⟩,
  .ins ⟨(.p .lenSl), [.tmp (nat_lit 19)], (some (nat_lit 20)), (some ((nat_lit 18), false))⟩,
  .ins ⟨(.p (.bini .eql)), [.tmp (nat_lit 20), .const (.int .i64 (.ofNat (nat_lit 0)))], (some (nat_lit 21)), (some ((nat_lit 18), false))⟩,
  .ins ⟨(.p .pick), [.tmp (nat_lit 18), .const (.bool true), .tmp (nat_lit 21)], (some (nat_lit 22)), none⟩])
 (.cond (.tmp (nat_lit 22)) (.seq (.region [
  .ins ⟨(.p .mv), [.const (.slice none (nat_lit 0) (nat_lit 0) (nat_lit 0))], (some (nat_lit 4)), none⟩])
 .ret)
 .skip))
 (.seq (.region [
  .ins ⟨(.p .mv), [.const (.slice none (nat_lit 0) (nat_lit 0) (nat_lit 0))], (some (nat_lit 5)), none⟩])
 (.seq (.seq (.region [
  .ins ⟨(.p .mv), [.tmp (nat_lit 0)], (some (nat_lit 23)), none⟩,
  .ins ⟨(.p .nilck), [.tmp (nat_lit 23)], (some (nat_lit 24)), none⟩,
  .ins ⟨(.p (.fieldAddr (nat_lit 16))), [.tmp (nat_lit 24)], (some (nat_lit 25)), none⟩,
  .ins ⟨(.r (.load false (nat_lit 1))), [.tmp (nat_lit 25)], (some (nat_lit 26)), none⟩,
  .ins ⟨(.p (.un .not)), [.tmp (nat_lit 26)], (some (nat_lit 27)), none⟩])
 (.cond (.tmp (nat_lit 27)) (.seq (.region [
  .ins ⟨(.p .mv), [.const (.bool false)], (some (nat_lit 6)), none⟩])
 (.seq (.region [
  .ins ⟨(.p .mv), [.tmp (nat_lit 0)], (some (nat_lit 29)), none⟩,
  .ins ⟨(.p .mv), [.tmp (nat_lit 1)], (some (nat_lit 30)), none⟩,
  .ins ⟨(.c .value), [.const (.func (.func (nat_lit 37)) [] []), .tmp (nat_lit 29), .tmp (nat_lit 30)], (some (nat_lit 31)), none⟩,
  .ins ⟨(.p .mv), [.tmp (nat_lit 31)], (some (nat_lit 28)), none⟩,
  .ins ⟨(.p (.extract (nat_lit 0))), [.tmp (nat_lit 28)], (some (nat_lit 32)), none⟩,
  .ins ⟨(.p (.extract (nat_lit 1))), [.tmp (nat_lit 28)], (some (nat_lit 33)), none⟩,
  .ins ⟨(.p (.extract (nat_lit 2))), [.tmp (nat_lit 28)], (some (nat_lit 34)), none⟩,
  .ins ⟨(.p .mv), [.tmp (nat_lit 32)], (some (nat_lit 5)), none⟩,
  .ins ⟨(.p .mv), [.tmp (nat_lit 33)], (some (nat_lit 1)), none⟩,
  .ins ⟨(.p .mv), [.tmp (nat_lit 34)], (some (nat_lit 6)), none⟩])
 (.seq (.region [
  .ins ⟨(.p .mv), [.tmp (nat_lit 6)], (some (nat_lit 35)), none⟩,
  .ins ⟨(.p (.un .not)), [.tmp (nat_lit 35)], (some (nat_lit 36)), none⟩])
 (.cond (.tmp (nat_lit 36)) (.seq (.region [
  .ins ⟨(.p .mv), [.tmp (nat_lit 0)], (some (nat_lit 37)), none⟩,
  .ins ⟨(.c .value), [.const (.func (.func (nat_lit 38)) [] []), .tmp (nat_lit 37)], (some (nat_lit 38)), none⟩,
  .ins ⟨(.p .mv), [.tmp (nat_lit 38)], (some (nat_lit 4)), none⟩])
 .ret)
 .skip))))
 .skip))
 (.seq (.region [
  .ins ⟨(.p .mv), [.tmp (nat_lit 5)], (some (nat_lit 39)), none⟩,
  .ins ⟨(.p .mv), [.tmp (nat_lit 0)], (some (nat_lit 40)), none⟩,
  .ins ⟨(.p .nilck), [.tmp (nat_lit 40)], (some (nat_lit 41)), none⟩,
  .ins ⟨(.p (.fieldAddr (nat_lit 13))), [.tmp (nat_lit 41)], (some (nat_lit 42)), none⟩,
  .ins ⟨(.r (.load false (nat_lit 1))), [.tmp (nat_lit 42)], (some (nat_lit 43)), none⟩,
  .ins ⟨(.p .mv), [.tmp (nat_lit 1)], (some (nat_lit 44)), none⟩,
  .ins ⟨(.c .value), [.const (.func (.func (nat_lit 39)) [] []), .tmp (nat_lit 43), .tmp (nat_lit 44)], (some (nat_lit 45)), none⟩,
  .ins ⟨(.l (.append [(.int .i64 (.ofNat (nat_lit 0))), (.int .i64 (.ofNat (nat_lit 0))), (.slice none (nat_lit 0) (nat_lit 0) (nat_lit 0)), (.slice none (nat_lit 0) (nat_lit 0) (nat_lit 0)), (.bool false), (.int .i64 (.ofNat (nat_lit 0))), (.int .i64 (.ofNat (nat_lit 0)))] (nat_lit 7) (nat_lit 88))), [.tmp (nat_lit 39), .tmp (nat_lit 45)], (some (nat_lit 46)), none⟩,
  .ins ⟨(.p .mv), [.tmp (nat_lit 46)], (some (nat_lit 5)), none⟩])
 (.seq (.seq (.region [
  .ins ⟨(.p .mv), [.tmp (nat_lit 5)], (some (nat_lit 47)), none⟩,
  .ins ⟨(.p .lenSl), [.tmp (nat_lit 47)], (some (nat_lit 48)), none⟩,
  .ins ⟨(.p .mv), [.const (.int .i64 (.ofNat (nat_lit 0)))], (some (nat_lit 49)), none⟩])
 (.block (nat_lit 0) (.loop (.seq (.region [
  .ins ⟨(.p (.bini .lss)), [.tmp (nat_lit 49), .tmp (nat_lit 48)], (some (nat_lit 50)), none⟩])
 (.seq (.cond (.tmp (nat_lit 50)) .skip
 (.exit (nat_lit 0)))
 (.seq (.block (nat_lit 1) (.seq (.region [
  .ins ⟨(.p (.indexAddr (nat_lit 7))), [.tmp (nat_lit 47), .tmp (nat_lit 49)], (some (nat_lit 51)), none⟩,
  .ins ⟨(.r (.load true (nat_lit 7))), [.tmp (nat_lit 51)], (some (nat_lit 52)), none⟩,
  .ins ⟨(.a (.alloc [(.int .i64 (.ofNat (nat_lit 0))), (.int .i64 (.ofNat (nat_lit 0))), (.slice none (nat_lit 0) (nat_lit 0) (nat_lit 0)), (.slice none (nat_lit 0) (nat_lit 0) (nat_lit 0)), (.bool false), (.int .i64 (.ofNat (nat_lit 0))), (.int .i64 (.ofNat (nat_lit 0)))])), [], (some (nat_lit 8)), none⟩,
  .ins ⟨(.l (.store (nat_lit 7))), [.tmp (nat_lit 8), .tmp (nat_lit 52)], none, none⟩])
 (.region [
  .ins ⟨(.p .mv), [.tmp (nat_lit 0)], (some (nat_lit 53)), none⟩,
  .ins ⟨(.r (.load true (nat_lit 7))), [.tmp (nat_lit 8)], (some (nat_lit 54)), none⟩,
  .ins ⟨(.c .value), [.const (.func (.func (nat_lit 40)) [] []), .tmp (nat_lit 53), .tmp (nat_lit 54)], (some (nat_lit 55)), none⟩])))
 (.region [
  .ins ⟨(.p (.bini .add)), [.tmp (nat_lit 49), .const (.int .i64 (.ofNat (nat_lit 1)))], (some (nat_lit 56)), none⟩,
  .ins ⟨(.p .mv), [.tmp (nat_lit 56)], (some (nat_lit 49)), none⟩])))))))
 (.seq (.region [
  .ins ⟨(.p .mv), [.tmp (nat_lit 0)], (some (nat_lit 57)), none⟩,
  .ins ⟨(.p .mv), [.tmp (nat_lit 5)], (some (nat_lit 58)), none⟩,
  .ins ⟨(.c .value), [.const (.func (.func (nat_lit 41)) [] []), .tmp (nat_lit 57), .tmp (nat_lit 58)], (some (nat_lit 59)), none⟩])
 (.seq (.region [
  .ins ⟨(.p .mv), [.tmp (nat_lit 0)], (some (nat_lit 60)), none⟩,
  .ins ⟨(.c .value), [.const (.func (.func (nat_lit 38)) [] []), .tmp (nat_lit 60)], (some (nat_lit 61)), none⟩,
  .ins ⟨(.p .mv), [.tmp (nat_lit 61)], (some (nat_lit 4)), none⟩])
 .ret))))))))⟩

def c7 : Code' := .fn ⟨(nat_lit 9), [.tmp (nat_lit 2)],
 (.seq (.region [
  .ins ⟨(.p .mv), [.const (.slice none (nat_lit 0) (nat_lit 0) (nat_lit 0))], (some (nat_lit 2)), none⟩])
 (.seq (.seq (.region [
  .ins ⟨(.p .mv), [.tmp (nat_lit 0)], (some (nat_lit 3)), none⟩,
  .ins ⟨(.p (.eqnil .ptr false)), [.tmp (nat_lit 3), .const (.ptr none)], (some (nat_lit 4)), none⟩])
 (.cond (.tmp (nat_lit 4)) (.seq (.region [
  .ins ⟨(.p .mv), [.const (.slice none (nat_lit 0) (nat_lit 0) (nat_lit 0))], (some (nat_lit 2)), none⟩])
 .ret)
 .skip))
 (.seq (.region [
  .ins ⟨(.p .mv), [.tmp (nat_lit 0)], (some (nat_lit 5)), none⟩,
  .ins ⟨(.c .value), [.const (.func (.func (nat_lit 42)) [] []), .tmp (nat_lit 5), .const (.int .i64 (.ofNat (nat_lit 3)))], (some (nat_lit 6)), none⟩])
 (.seq (.region [
  .ins ⟨(.p .mv), [.tmp (nat_lit 0)], (some (nat_lit 7)), none⟩,
  .ins ⟨(.c .value), [.const (.func (.func (nat_lit 38)) [] []), .tmp (nat_lit 7)], (some (nat_lit 8)), none⟩,
  .ins ⟨(.p .mv), [.tmp (nat_lit 8)], (some (nat_lit 2)), none⟩])
 .ret))))⟩

def c8 : Code' := .fn ⟨(nat_lit 49), [.tmp (nat_lit 4)],
 (.seq (.region [
  .ins ⟨(.a .box), [.tmp (nat_lit 0)], (some (nat_lit 2)), none⟩,
  .ins ⟨(.p .mv), [.const (.slice none (nat_lit 0) (nat_lit 0) (nat_lit 0))], (some (nat_lit 4)), none⟩])
 (.scope (.seq (.seq (.region [
  .ins ⟨(.r (.load false (nat_lit 1))), [.tmp (nat_lit 2)], (some (nat_lit 6)), none⟩,
  .ins ⟨(.p (.eqnil .ptr false)), [.tmp (nat_lit 6), .const (.ptr none)], (some (nat_lit 7)), none⟩,
  .ins ⟨(.p .mv), [.tmp (nat_lit 7)], (some (nat_lit 8)), none⟩,
  .ins ⟨(.r (.load false (nat_lit 1))), [.tmp (nat_lit 2)], (some (nat_lit 9)), (some ((nat_lit 8), false))⟩,
  .ins ⟨(.p .nilck), [.tmp (nat_lit 9)], (some (nat_lit 10)), (some ((nat_lit 8), false))⟩,
  .ins ⟨(.p (.fieldAddr (nat_lit 17))), [.tmp (nat_lit 10)], (some (nat_lit 11)), (some ((nat_lit 8), false))⟩,
  .ins ⟨(.r (.load false (nat_lit 1))), [.tmp (nat_lit 11)], (some (nat_lit 12)), (some ((nat_lit 8), false))⟩,
  .ins ⟨(.p (.bini .neq)), [.tmp (nat_lit 12), .const (.int .i64 (.ofNat (nat_lit 0)))], (some (nat_lit 13)), (some ((nat_lit 8), false))⟩,
  .ins ⟨(.p .pick), [.tmp (nat_lit 8), .const (.bool true), .tmp (nat_lit 13)], (some (nat_lit 14)), none⟩,
  .ins ⟨(.p .mv), [.tmp (nat_lit 14)], (some (nat_lit 15)), none⟩,
  .ins ⟨(.p .mv), [.tmp (nat_lit 1)], (some (nat_lit 16)), (some ((nat_lit 15), false))⟩,
  .ins ⟨(.r (.load false (nat_lit 1))), [.tmp (nat_lit 2)], (some (nat_lit 17)), (some ((nat_lit 15), false))⟩,
  .ins ⟨(.p .nilck), [.tmp (nat_lit 17)], (some (nat_lit 18)), (some ((nat_lit 15), false))⟩,
  .ins ⟨(.p (.fieldAddr (nat_lit 12))), [.tmp (nat_lit 18)], (some (nat_lit 19)), (some ((nat_lit 15), false))⟩,
  .ins ⟨(.r (.load false (nat_lit 1))), [.tmp (nat_lit 19)], (some (nat_lit 20)), (some ((nat_lit 15), false))⟩,
  .ins ⟨(.p (.bini .lss)), [.tmp (nat_lit 16), .tmp (nat_lit 20)], (some (nat_lit 21)), (some ((nat_lit 15), false))⟩,
  .ins ⟨(.p .pick), [.tmp (nat_lit 15), .const (.bool true), .tmp (nat_lit 21)], (some (nat_lit 22)), none⟩,
  .ins ⟨(.p .mv), [.tmp (nat_lit 22)], (some (nat_lit 23)), none⟩,
  .ins ⟨(.p .mv), [.tmp (nat_lit 1)], (some (nat_lit 24)), (some ((nat_lit 23), false))⟩,
  .ins ⟨(.p (.bini .gtr)), [.tmp (nat_lit 24), .const (.int .i64 (.ofNat (nat_lit 1099511627776)))], (some (nat_lit 25)), (some ((nat_lit 23), false))⟩,
  .ins ⟨(.p .pick), [.tmp (nat_lit 23), .const (.bool true), .tmp (nat_lit 25)], (some (nat_lit 26)), none⟩])
 (.cond (.tmp (nat_lit 26)) (.seq (.region [
  .ins ⟨(.p .mv), [.const (.slice none (nat_lit 0) (nat_lit 0) (nat_lit 0))], (some (nat_lit 4)), none⟩])
 .ret)
 .skip))
 (.seq (.region [
  .ins ⟨(.r (.load false (nat_lit 1))), [.tmp (nat_lit 2)], (some (nat_lit 27)), none⟩,
  .ins ⟨(.p .mv), [.tmp (nat_lit 1)], (some (nat_lit 28)), none⟩,
  .ins ⟨(.p .nilck), [.tmp (nat_lit 27)], (some (nat_lit 29)), none⟩,
  .ins ⟨(.p (.fieldAddr (nat_lit 12))), [.tmp (nat_lit 29)], (some (nat_lit 30)), none⟩,
  .ins ⟨(.l (.store (nat_lit 1))), [.tmp (nat_lit 30), .tmp (nat_lit 28)], none, none⟩])
 (.seq .skip
 (.seq (.seq (.region [
  .ins ⟨(.r (.load false (nat_lit 1))), [.tmp (nat_lit 2)], (some (nat_lit 31)), none⟩,
  .ins ⟨(.p .nilck), [.tmp (nat_lit 31)], (some (nat_lit 32)), none⟩,
  .ins ⟨(.p (.fieldAddr (nat_lit 15))), [.tmp (nat_lit 32)], (some (nat_lit 33)), none⟩,
  .ins ⟨(.r (.load false (nat_lit 1))), [.tmp (nat_lit 33)], (some (nat_lit 34)), none⟩,
  .ins ⟨(.p .mv), [.tmp (nat_lit 1)], (some (nat_lit 35)), none⟩,
  .ins ⟨(.c .value), [.const (.func (.func (nat_lit 43)) [] []), .tmp (nat_lit 34), .tmp (nat_lit 35)], (some (nat_lit 36)), none⟩])
 (.block (nat_lit 0) (.rangeFunc (.tmp (nat_lit 36)) [(nat_lit 37), (nat_lit 38)] (.region [
  .ins ⟨(.p .mv), [.tmp (nat_lit 37)], (some (nat_lit 5)), none⟩])
 (.block (nat_lit 1) (.seq (.region [
  .ins ⟨(.r (.load false (nat_lit 1))), [.tmp (nat_lit 2)], (some (nat_lit 39)), none⟩,
  .ins ⟨(.p .mv), [.tmp (nat_lit 5)], (some (nat_lit 40)), none⟩,
  .ins ⟨(.c .value), [.const (.func (.func (nat_lit 44)) [] []), .tmp (nat_lit 39), .tmp (nat_lit 40)], (some (nat_lit 41)), none⟩])
 (.seq (.region [
  .ins ⟨(.r (.load false (nat_lit 1))), [.tmp (nat_lit 2)], (some (nat_lit 42)), none⟩,
  .ins ⟨(.p .nilck), [.tmp (nat_lit 42)], (some (nat_lit 43)), none⟩,
  .ins ⟨(.p (.fieldAddr (nat_lit 17))), [.tmp (nat_lit 43)], (some (nat_lit 44)), none⟩,
  .ins ⟨(.r (.load false (nat_lit 1))), [.tmp (nat_lit 44)], (some (nat_lit 45)), none⟩,
  .ins ⟨(.p (.bini .neq)), [.tmp (nat_lit 45), .const (.int .i64 (.ofNat (nat_lit 0)))], (some (nat_lit 46)), none⟩])
 (.cond (.tmp (nat_lit 46)) (.exit (nat_lit 0))
 .skip)))))))
 (.seq (.region [
  .ins ⟨(.r (.load false (nat_lit 1))), [.tmp (nat_lit 2)], (some (nat_lit 47)), none⟩,
  .ins ⟨(.c .value), [.const (.func (.func (nat_lit 38)) [] []), .tmp (nat_lit 47)], (some (nat_lit 48)), none⟩,
  .ins ⟨(.p .mv), [.tmp (nat_lit 48)], (some (nat_lit 4)), none⟩])
 .ret)))))))⟩

def c9 : Code' := .fn ⟨(nat_lit 51), [.tmp (nat_lit 4)],
 (.seq (.region [
  .ins ⟨(.p .mv), [.const (.slice none (nat_lit 0) (nat_lit 0) (nat_lit 0))], (some (nat_lit 4)), none⟩])
 (.seq (.seq (.region [
  .ins ⟨(.p .mv), [.tmp (nat_lit 0)], (some (nat_lit 7)), none⟩,
  .ins ⟨(.p (.eqnil .ptr false)), [.tmp (nat_lit 7), .const (.ptr none)], (some (nat_lit 8)), none⟩,
  .ins ⟨(.p .mv), [.tmp (nat_lit 8)], (some (nat_lit 9)), none⟩,
  .ins ⟨(.p .mv), [.tmp (nat_lit 1)], (some (nat_lit 10)), (some ((nat_lit 9), false))⟩,
  .ins ⟨(.p (.bini .lss)), [.tmp (nat_lit 10), .const (.int .i64 (.ofNat (nat_lit 1)))], (some (nat_lit 11)), (some ((nat_lit 9), false))⟩,
  .ins ⟨(.p .pick), [.tmp (nat_lit 9), .const (.bool true), .tmp (nat_lit 11)], (some (nat_lit 12)), none⟩])
 (.cond (.tmp (nat_lit 12)) (.seq (.region [
  .ins ⟨(.p .mv), [.const (.slice none (nat_lit 0) (nat_lit 0) (nat_lit 0))], (some (nat_lit 4)), none⟩])
 .ret)
 .skip))
 (.seq (.region [
  .ins ⟨(.p .mv), [.tmp (nat_lit 1)], (some (nat_lit 13)), none⟩,
  .ins ⟨(.p .mv), [.tmp (nat_lit 0)], (some (nat_lit 14)), none⟩,
  .ins ⟨(.p .nilck), [.tmp (nat_lit 14)], (some (nat_lit 15)), none⟩,
  .ins ⟨(.p (.fieldAddr (nat_lit 19))), [.tmp (nat_lit 15)], (some (nat_lit 16)), none⟩,
  .ins ⟨(.r (.load false (nat_lit 1))), [.tmp (nat_lit 16)], (some (nat_lit 17)), none⟩,
  .ins ⟨(.p .lenSl), [.tmp (nat_lit 17)], (some (nat_lit 18)), none⟩,
  .ins ⟨(.p .min), [.tmp (nat_lit 13), .tmp (nat_lit 18)], (some (nat_lit 19)), none⟩,
  .ins ⟨(.p .mv), [.tmp (nat_lit 19)], (some (nat_lit 5)), none⟩])
 (.seq (.region [
  .ins ⟨(.p .mv), [.tmp (nat_lit 0)], (some (nat_lit 20)), none⟩,
  .ins ⟨(.p .nilck), [.tmp (nat_lit 20)], (some (nat_lit 21)), none⟩,
  .ins ⟨(.p (.fieldAddr (nat_lit 19))), [.tmp (nat_lit 21)], (some (nat_lit 22)), none⟩,
  .ins ⟨(.r (.load false (nat_lit 1))), [.tmp (nat_lit 22)], (some (nat_lit 23)), none⟩,
  .ins ⟨(.p .mv), [.tmp (nat_lit 5)], (some (nat_lit 24)), none⟩,
  .ins ⟨(.p (.slice (nat_lit 1) false true)), [.tmp (nat_lit 23), .tmp (nat_lit 24)], (some (nat_lit 25)), none⟩,
  .ins ⟨(.c .value), [.const (.func (.func (nat_lit 45)) [] []), .tmp (nat_lit 25)], (some (nat_lit 26)), none⟩,
  .ins ⟨(.p .mv), [.tmp (nat_lit 26)], (some (nat_lit 6)), none⟩])
 (.seq (.region [
  .ins ⟨(.p .mv), [.tmp (nat_lit 0)], (some (nat_lit 27)), none⟩,
  .ins ⟨(.p .mv), [.tmp (nat_lit 0)], (some (nat_lit 28)), none⟩,
  .ins ⟨(.p .nilck), [.tmp (nat_lit 28)], (some (nat_lit 29)), none⟩,
  .ins ⟨(.p (.fieldAddr (nat_lit 19))), [.tmp (nat_lit 29)], (some (nat_lit 30)), none⟩,
  .ins ⟨(.r (.load false (nat_lit 1))), [.tmp (nat_lit 30)], (some (nat_lit 31)), none⟩,
  .ins ⟨(.p .mv), [.tmp (nat_lit 5)], (some (nat_lit 32)), none⟩,
  .ins ⟨(.p (.slice (nat_lit 1) true false)), [.tmp (nat_lit 31), .tmp (nat_lit 32)], (some (nat_lit 33)), none⟩,
  .ins ⟨(.p .nilck), [.tmp (nat_lit 27)], (some (nat_lit 34)), none⟩,
  .ins ⟨(.p (.fieldAddr (nat_lit 19))), [.tmp (nat_lit 34)], (some (nat_lit 35)), none⟩,
  .ins ⟨(.l (.store (nat_lit 1))), [.tmp (nat_lit 35), .tmp (nat_lit 33)], none, none⟩])
 (.seq (.seq (.region [
  .ins ⟨(.p .mv), [.tmp (nat_lit 0)], (some (nat_lit 36)), none⟩,
  .ins ⟨(.p .nilck), [.tmp (nat_lit 36)], (some (nat_lit 37)), none⟩,
  .ins ⟨(.p (.fieldAddr (nat_lit 16))), [.tmp (nat_lit 37)], (some (nat_lit 38)), none⟩,
  .ins ⟨(.r (.load false (nat_lit 1))), [.tmp (nat_lit 38)], (some (nat_lit 39)), none⟩])
 (.cond (.tmp (nat_lit 39)) (.region [
  .ins ⟨(.p .mv), [.tmp (nat_lit 6)], (some (nat_lit 40)), none⟩,
  .ins ⟨(.p .mv), [.tmp (nat_lit 0)], (some (nat_lit 41)), none⟩,
  .ins ⟨(.p .nilck), [.tmp (nat_lit 41)], (some (nat_lit 42)), none⟩,
  .ins ⟨(.p (.fieldAddr (nat_lit 13))), [.tmp (nat_lit 42)], (some (nat_lit 43)), none⟩,
  .ins ⟨(.r (.load false (nat_lit 1))), [.tmp (nat_lit 43)], (some (nat_lit 44)), none⟩,
  .ins ⟨(.p .mv), [.tmp (nat_lit 1)], (some (nat_lit 45)), none⟩,
  .ins ⟨(.p .mv), [.tmp (nat_lit 5)], (some (nat_lit 46)), none⟩,
  .ins ⟨(.p (.bini .sub)), [.tmp (nat_lit 45), .tmp (nat_lit 46)], (some (nat_lit 47)), none⟩,
  .ins ⟨(.c .value), [.const (.func (.func (nat_lit 46)) [] []), .tmp (nat_lit 44), .tmp (nat_lit 47)], (some (nat_lit 48)), none⟩,
  .ins ⟨(.l (.append [(.int .u8 (.ofNat (nat_lit 0)))] (nat_lit 1) (nat_lit 1))), [.tmp (nat_lit 40), .tmp (nat_lit 48)], (some (nat_lit 49)), none⟩,
  .ins ⟨(.p .mv), [.tmp (nat_lit 49)], (some (nat_lit 6)), none⟩])
 .skip))
 (.seq (.region [
  .ins ⟨(.p .mv), [.tmp (nat_lit 6)], (some (nat_lit 50)), none⟩,
  .ins ⟨(.p .mv), [.tmp (nat_lit 50)], (some (nat_lit 4)), none⟩])
 .ret)))))))⟩

def c10 : Code' := .fn ⟨(nat_lit 54), [.tmp (nat_lit 6), .tmp (nat_lit 7)],
 (.seq (.region [
  .ins ⟨(.p .mv), [.const (.int .i64 (.ofNat (nat_lit 0)))], (some (nat_lit 6)), none⟩,
  .ins ⟨(.p .mv), [.const (.int .i64 (.ofNat (nat_lit 0)))], (some (nat_lit 7)), none⟩])
 (.seq (.seq (.region [
  .ins ⟨(.p .mv), [.tmp (nat_lit 0)], (some (nat_lit 11)), none⟩,
  .ins ⟨(.c .value), [.const (.func (.func (nat_lit 47)) [] []), .tmp (nat_lit 11)], (some (nat_lit 12)), none⟩,
  .ins ⟨(.p .mv), [.tmp (nat_lit 12)], (some (nat_lit 8)), none⟩])
 (.seq (.region [
  .ins ⟨(.p .mv), [.tmp (nat_lit 8)], (some (nat_lit 13)), none⟩,
  .ins ⟨(.p (.bini .neq)), [.tmp (nat_lit 13), .const (.int .i64 (.ofNat (nat_lit 0)))], (some (nat_lit 14)), none⟩])
 (.cond (.tmp (nat_lit 14)) (.seq (.region [
  .ins ⟨(.p .mv), [.tmp (nat_lit 8)], (some (nat_lit 15)), none⟩,
  .ins ⟨(.p .mv), [.const (.int .i64 (.ofNat (nat_lit 0)))], (some (nat_lit 6)), none⟩,
  .ins ⟨(.p .mv), [.tmp (nat_lit 15)], (some (nat_lit 7)), none⟩])
 .ret)
 .skip)))
 (.seq (.region [
  .ins ⟨(.p .mv), [.const (.int .i64 (.ofNat (nat_lit 0)))], (some (nat_lit 9)), none⟩,
  .ins ⟨(.p .mv), [.const (.int .i64 (.ofNat (nat_lit 0)))], (some (nat_lit 10)), none⟩])
 (.seq (.seq (.region [
  .ins ⟨(.p .mv), [.tmp (nat_lit 0)], (some (nat_lit 16)), none⟩,
  .ins ⟨(.p .nilck), [.tmp (nat_lit 16)], (some (nat_lit 17)), none⟩,
  .ins ⟨(.p (.fieldAddr (nat_lit 16))), [.tmp (nat_lit 17)], (some (nat_lit 18)), none⟩,
  .ins ⟨(.r (.load false (nat_lit 1))), [.tmp (nat_lit 18)], (some (nat_lit 19)), none⟩])
 (.cond (.tmp (nat_lit 19)) (.region [
  .ins ⟨(.p .mv), [.tmp (nat_lit 0)], (some (nat_lit 21)), none⟩,
  .ins ⟨(.p .nilck), [.tmp (nat_lit 21)], (some (nat_lit 22)), none⟩,
  .ins ⟨(.p (.fieldAddr (nat_lit 13))), [.tmp (nat_lit 22)], (some (nat_lit 23)), none⟩,
  .ins ⟨(.r (.load false (nat_lit 1))), [.tmp (nat_lit 23)], (some (nat_lit 24)), none⟩,
  .ins ⟨(.p .mv), [.tmp (nat_lit 1)], (some (nat_lit 25)), none⟩,
  .ins ⟨(.p .mv), [.tmp (nat_lit 2)], (some (nat_lit 26)), none⟩,
  .ins ⟨(.c .value), [.const (.func (.func (nat_lit 48)) [] []), .tmp (nat_lit 24), .tmp (nat_lit 25), .tmp (nat_lit 26)], (some (nat_lit 27)), none⟩,
  .ins ⟨(.p .mv), [.tmp (nat_lit 27)], (some (nat_lit 20)), none⟩,
  .ins ⟨(.p (.extract (nat_lit 0))), [.tmp (nat_lit 20)], (some (nat_lit 28)), none⟩,
  .ins ⟨(.p (.extract (nat_lit 1))), [.tmp (nat_lit 20)], (some (nat_lit 29)), none⟩,
  .ins ⟨(.p .mv), [.tmp (nat_lit 28)], (some (nat_lit 9)), none⟩,
  .ins ⟨(.p .mv), [.tmp (nat_lit 29)], (some (nat_lit 10)), none⟩])
 (.region [
  .ins ⟨(.p .mv), [.tmp (nat_lit 0)], (some (nat_lit 31)), none⟩,
  .ins ⟨(.p .mv), [.tmp (nat_lit 1)], (some (nat_lit 32)), none⟩,
  .ins ⟨(.p .mv), [.tmp (nat_lit 2)], (some (nat_lit 33)), none⟩,
  .ins ⟨(.c .value), [.const (.func (.func (nat_lit 49)) [] []), .tmp (nat_lit 31), .tmp (nat_lit 32), .tmp (nat_lit 33)], (some (nat_lit 34)), none⟩,
  .ins ⟨(.p .mv), [.tmp (nat_lit 34)], (some (nat_lit 30)), none⟩,
  .ins ⟨(.p (.extract (nat_lit 0))), [.tmp (nat_lit 30)], (some (nat_lit 35)), none⟩,
  .ins ⟨(.p (.extract (nat_lit 1))), [.tmp (nat_lit 30)], (some (nat_lit 36)), none⟩,
  .ins ⟨(.p .mv), [.tmp (nat_lit 35)], (some (nat_lit 9)), none⟩,
  .ins ⟨(.p .mv), [.tmp (nat_lit 36)], (some (nat_lit 10)), none⟩])))
 (.seq (.seq (.region [
  .ins ⟨(.p .mv), [.tmp (nat_lit 10)], (some (nat_lit 37)), none⟩,
  .ins ⟨(.p (.bini .neq)), [.tmp (nat_lit 37), .const (.int .i64 (.ofNat (nat_lit 0)))], (some (nat_lit 38)), none⟩])
 (.cond (.tmp (nat_lit 38)) (.seq (.region [
  .ins ⟨(.p .mv), [.tmp (nat_lit 10)], (some (nat_lit 39)), none⟩,
  .ins ⟨(.p .mv), [.const (.int .i64 (.ofNat (nat_lit 0)))], (some (nat_lit 6)), none⟩,
  .ins ⟨(.p .mv), [.tmp (nat_lit 39)], (some (nat_lit 7)), none⟩])
 .ret)
 .skip))
 (.seq (.region [
  .ins ⟨(.p .mv), [.tmp (nat_lit 0)], (some (nat_lit 40)), none⟩,
  .ins ⟨(.p .mv), [.tmp (nat_lit 0)], (some (nat_lit 41)), none⟩,
  .ins ⟨(.p .nilck), [.tmp (nat_lit 41)], (some (nat_lit 42)), none⟩,
  .ins ⟨(.p (.fieldAddr (nat_lit 21))), [.tmp (nat_lit 42)], (some (nat_lit 43)), none⟩,
  .ins ⟨(.r (.load false (nat_lit 1))), [.tmp (nat_lit 43)], (some (nat_lit 44)), none⟩,
  .ins ⟨(.p .mv), [.tmp (nat_lit 9)], (some (nat_lit 45)), none⟩,
  .ins ⟨(.p (.build [(.int .i64 (.ofNat (nat_lit 0))), (.int .i64 (.ofNat (nat_lit 0)))] [((nat_lit 0), (nat_lit 1)), ((nat_lit 1), (nat_lit 1))])), [.tmp (nat_lit 45), .const (.int .i64 (.ofNat (nat_lit 1)))], (some (nat_lit 46)), none⟩,
  .ins ⟨(.a (.buildSlice [(.int .i64 (.ofNat (nat_lit 0))), (.int .i64 (.ofNat (nat_lit 0)))] (nat_lit 1) [((nat_lit 0), (nat_lit 2))])), [.tmp (nat_lit 46)], (some (nat_lit 47)), none⟩,
  .ins ⟨(.l (.append [(.int .i64 (.ofNat (nat_lit 0))), (.int .i64 (.ofNat (nat_lit 0)))] (nat_lit 2) (nat_lit 16))), [.tmp (nat_lit 44), .tmp (nat_lit 47)], (some (nat_lit 48)), none⟩,
  .ins ⟨(.p .nilck), [.tmp (nat_lit 40)], (some (nat_lit 49)), none⟩,
  .ins ⟨(.p (.fieldAddr (nat_lit 21))), [.tmp (nat_lit 49)], (some (nat_lit 50)), none⟩,
  .ins ⟨(.l (.store (nat_lit 1))), [.tmp (nat_lit 50), .tmp (nat_lit 48)], none, none⟩])
 (.seq (.region [
  .ins ⟨(.p .mv), [.tmp (nat_lit 0)], (some (nat_lit 51)), none⟩,
  .ins ⟨(.c .value), [.const (.func (.func (nat_lit 50)) [] []), .tmp (nat_lit 51)], (some (nat_lit 52)), none⟩])
 (.seq (.region [
  .ins ⟨(.p .mv), [.tmp (nat_lit 9)], (some (nat_lit 53)), none⟩,
  .ins ⟨(.p .mv), [.tmp (nat_lit 53)], (some (nat_lit 6)), none⟩,
  .ins ⟨(.p .mv), [.const (.int .i64 (.ofNat (nat_lit 0)))], (some (nat_lit 7)), none⟩])
 .ret))))))))⟩

def c11 : Code' := .fn ⟨(nat_lit 23), [.tmp (nat_lit 8)],
 (.seq (.region [
  .ins ⟨(.p .mv), [.const (.int .i64 (.ofNat (nat_lit 0)))], (some (nat_lit 8)), none⟩])
 (.seq (.seq (.region [
  .ins ⟨(.p .mv), [.tmp (nat_lit 0)], (some (nat_lit 10)), none⟩,
  .ins ⟨(.c .value), [.const (.func (.func (nat_lit 51)) [] []), .tmp (nat_lit 10)], (some (nat_lit 11)), none⟩,
  .ins ⟨(.p .mv), [.tmp (nat_lit 11)], (some (nat_lit 9)), none⟩])
 (.seq (.region [
  .ins ⟨(.p .mv), [.tmp (nat_lit 9)], (some (nat_lit 12)), none⟩,
  .ins ⟨(.p (.bini .neq)), [.tmp (nat_lit 12), .const (.int .i64 (.ofNat (nat_lit 0)))], (some (nat_lit 13)), none⟩])
 (.cond (.tmp (nat_lit 13)) (.seq (.region [
  .ins ⟨(.p .mv), [.tmp (nat_lit 9)], (some (nat_lit 14)), none⟩,
  .ins ⟨(.p .mv), [.tmp (nat_lit 14)], (some (nat_lit 8)), none⟩])
 .ret)
 .skip)))
 (.seq (.region [
  .ins ⟨(.p .mv), [.tmp (nat_lit 0)], (some (nat_lit 15)), none⟩,
  .ins ⟨(.p .nilck), [.tmp (nat_lit 15)], (some (nat_lit 16)), none⟩,
  .ins ⟨(.p (.fieldAddr (nat_lit 13))), [.tmp (nat_lit 16)], (some (nat_lit 17)), none⟩,
  .ins ⟨(.r (.load false (nat_lit 1))), [.tmp (nat_lit 17)], (some (nat_lit 18)), none⟩,
  .ins ⟨(.p .mv), [.tmp (nat_lit 1)], (some (nat_lit 19)), none⟩,
  .ins ⟨(.p .mv), [.tmp (nat_lit 2)], (some (nat_lit 20)), none⟩,
  .ins ⟨(.p .mv), [.tmp (nat_lit 3)], (some (nat_lit 21)), none⟩,
  .ins ⟨(.c .value), [.const (.func (.func (nat_lit 52)) [] []), .tmp (nat_lit 18), .tmp (nat_lit 19), .tmp (nat_lit 20), .tmp (nat_lit 21)], (some (nat_lit 22)), none⟩,
  .ins ⟨(.p .mv), [.tmp (nat_lit 22)], (some (nat_lit 8)), none⟩])
 .ret)))⟩

def c12 : Code' := .fn ⟨(nat_lit 32), [.tmp (nat_lit 8), .tmp (nat_lit 9)],
 (.seq (.region [
  .ins ⟨(.p .mv), [.const (.slice none (nat_lit 0) (nat_lit 0) (nat_lit 0))], (some (nat_lit 8)), none⟩,
  .ins ⟨(.p .mv), [.const (.int .i64 (.ofNat (nat_lit 0)))], (some (nat_lit 9)), none⟩])
 (.seq (.seq (.region [
  .ins ⟨(.p .mv), [.tmp (nat_lit 0)], (some (nat_lit 12)), none⟩,
  .ins ⟨(.c .value), [.const (.func (.func (nat_lit 51)) [] []), .tmp (nat_lit 12)], (some (nat_lit 13)), none⟩,
  .ins ⟨(.p .mv), [.tmp (nat_lit 13)], (some (nat_lit 10)), none⟩])
 (.seq (.region [
  .ins ⟨(.p .mv), [.tmp (nat_lit 10)], (some (nat_lit 14)), none⟩,
  .ins ⟨(.p (.bini .neq)), [.tmp (nat_lit 14), .const (.int .i64 (.ofNat (nat_lit 0)))], (some (nat_lit 15)), none⟩])
 (.cond (.tmp (nat_lit 15)) (.seq (.region [
  .ins ⟨(.p .mv), [.tmp (nat_lit 10)], (some (nat_lit 16)), none⟩,
  .ins ⟨(.p .mv), [.const (.slice none (nat_lit 0) (nat_lit 0) (nat_lit 0))], (some (nat_lit 8)), none⟩,
  .ins ⟨(.p .mv), [.tmp (nat_lit 16)], (some (nat_lit 9)), none⟩])
 .ret)
 .skip)))
 (.seq (.seq (.region [
  .ins ⟨(.p .mv), [.tmp (nat_lit 0)], (some (nat_lit 17)), none⟩,
  .ins ⟨(.p .nilck), [.tmp (nat_lit 17)], (some (nat_lit 18)), none⟩,
  .ins ⟨(.p (.fieldAddr (nat_lit 13))), [.tmp (nat_lit 18)], (some (nat_lit 19)), none⟩,
  .ins ⟨(.r (.load false (nat_lit 1))), [.tmp (nat_lit 19)], (some (nat_lit 20)), none⟩,
  .ins ⟨(.p .mv), [.tmp (nat_lit 1)], (some (nat_lit 21)), none⟩,
  .ins ⟨(.p .mv), [.tmp (nat_lit 2)], (some (nat_lit 22)), none⟩,
  .ins ⟨(.p .mv), [.tmp (nat_lit 3)], (some (nat_lit 23)), none⟩,
  .ins ⟨(.c .value), [.const (.func (.func (nat_lit 53)) [] []), .tmp (nat_lit 20), .tmp (nat_lit 21), .tmp (nat_lit 22), .tmp (nat_lit 23)], (some (nat_lit 24)), none⟩,
  .ins ⟨(.p .mv), [.tmp (nat_lit 24)], (some (nat_lit 11)), none⟩])
 (.seq (.region [
  .ins ⟨(.p .mv), [.tmp (nat_lit 11)], (some (nat_lit 25)), none⟩,
  .ins ⟨(.p (.bini .neq)), [.tmp (nat_lit 25), .const (.int .i64 (.ofNat (nat_lit 0)))], (some (nat_lit 26)), none⟩])
 (.cond (.tmp (nat_lit 26)) (.seq (.region [
  .ins ⟨(.p .mv), [.tmp (nat_lit 11)], (some (nat_lit 27)), none⟩,
  .ins ⟨(.p .mv), [.const (.slice none (nat_lit 0) (nat_lit 0) (nat_lit 0))], (some (nat_lit 8)), none⟩,
  .ins ⟨(.p .mv), [.tmp (nat_lit 27)], (some (nat_lit 9)), none⟩])
 .ret)
 .skip)))
 (.seq (.region [
  .ins ⟨(.p .mv), [.tmp (nat_lit 0)], (some (nat_lit 28)), none⟩,
  .ins ⟨(.c .value), [.const (.func (.func (nat_lit 54)) [] []), .tmp (nat_lit 28)], (some (nat_lit 29)), none⟩])
 (.seq (.region [
  .ins ⟨(.p .mv), [.tmp (nat_lit 0)], (some (nat_lit 30)), none⟩,
  .ins ⟨(.c .value), [.const (.func (.func (nat_lit 38)) [] []), .tmp (nat_lit 30)], (some (nat_lit 31)), none⟩,
  .ins ⟨(.p .mv), [.tmp (nat_lit 31)], (some (nat_lit 8)), none⟩,
  .ins ⟨(.p .mv), [.const (.int .i64 (.ofNat (nat_lit 0)))], (some (nat_lit 9)), none⟩])
 .ret)))))⟩

def c13 : Code' := .fn ⟨(nat_lit 35), [.tmp (nat_lit 4), .tmp (nat_lit 5)],
 (.seq (.region [
  .ins ⟨(.p .mv), [.const (.slice none (nat_lit 0) (nat_lit 0) (nat_lit 0))], (some (nat_lit 4)), none⟩,
  .ins ⟨(.p .mv), [.const (.int .i64 (.ofNat (nat_lit 0)))], (some (nat_lit 5)), none⟩])
 (.seq (.seq (.region [
  .ins ⟨(.p .mv), [.tmp (nat_lit 0)], (some (nat_lit 9)), none⟩,
  .ins ⟨(.c .value), [.const (.func (.func (nat_lit 51)) [] []), .tmp (nat_lit 9)], (some (nat_lit 10)), none⟩,
  .ins ⟨(.p .mv), [.tmp (nat_lit 10)], (some (nat_lit 6)), none⟩])
 (.seq (.region [
  .ins ⟨(.p .mv), [.tmp (nat_lit 6)], (some (nat_lit 11)), none⟩,
  .ins ⟨(.p (.bini .neq)), [.tmp (nat_lit 11), .const (.int .i64 (.ofNat (nat_lit 0)))], (some (nat_lit 12)), none⟩])
 (.cond (.tmp (nat_lit 12)) (.seq (.region [
  .ins ⟨(.p .mv), [.tmp (nat_lit 6)], (some (nat_lit 13)), none⟩,
  .ins ⟨(.p .mv), [.const (.slice none (nat_lit 0) (nat_lit 0) (nat_lit 0))], (some (nat_lit 4)), none⟩,
  .ins ⟨(.p .mv), [.tmp (nat_lit 13)], (some (nat_lit 5)), none⟩])
 .ret)
 .skip)))
 (.seq (.seq (.region [
  .ins ⟨(.p .mv), [.tmp (nat_lit 0)], (some (nat_lit 14)), none⟩,
  .ins ⟨(.p .nilck), [.tmp (nat_lit 14)], (some (nat_lit 15)), none⟩,
  .ins ⟨(.p (.fieldAddr (nat_lit 13))), [.tmp (nat_lit 15)], (some (nat_lit 16)), none⟩,
  .ins ⟨(.r (.load false (nat_lit 1))), [.tmp (nat_lit 16)], (some (nat_lit 17)), none⟩,
  .ins ⟨(.p .mv), [.tmp (nat_lit 1)], (some (nat_lit 18)), none⟩,
  .ins ⟨(.c .value), [.const (.func (.func (nat_lit 55)) [] []), .tmp (nat_lit 17), .tmp (nat_lit 18), .const (.int .i64 (.ofNat (nat_lit 8)))], (some (nat_lit 19)), none⟩,
  .ins ⟨(.p .mv), [.tmp (nat_lit 19)], (some (nat_lit 7)), none⟩])
 (.seq (.region [
  .ins ⟨(.p .mv), [.tmp (nat_lit 7)], (some (nat_lit 20)), none⟩,
  .ins ⟨(.p (.bini .neq)), [.tmp (nat_lit 20), .const (.int .i64 (.ofNat (nat_lit 0)))], (some (nat_lit 21)), none⟩])
 (.cond (.tmp (nat_lit 21)) (.seq (.region [
  .ins ⟨(.p .mv), [.tmp (nat_lit 7)], (some (nat_lit 22)), none⟩,
  .ins ⟨(.p .mv), [.const (.slice none (nat_lit 0) (nat_lit 0) (nat_lit 0))], (some (nat_lit 4)), none⟩,
  .ins ⟨(.p .mv), [.tmp (nat_lit 22)], (some (nat_lit 5)), none⟩])
 .ret)
 .skip)))
 (.seq (.seq (.region [
  .ins ⟨(.p .mv), [.tmp (nat_lit 0)], (some (nat_lit 23)), none⟩,
  .ins ⟨(.p .mv), [.tmp (nat_lit 1)], (some (nat_lit 24)), none⟩,
  .ins ⟨(.c .value), [.const (.func (.func (nat_lit 56)) [] []), .tmp (nat_lit 23), .tmp (nat_lit 24)], (some (nat_lit 25)), none⟩,
  .ins ⟨(.p .mv), [.tmp (nat_lit 25)], (some (nat_lit 8)), none⟩])
 (.seq (.region [
  .ins ⟨(.p .mv), [.tmp (nat_lit 8)], (some (nat_lit 26)), none⟩,
  .ins ⟨(.p (.eqnil .ptr true)), [.tmp (nat_lit 26), .const (.ptr none)], (some (nat_lit 27)), none⟩])
 (.cond (.tmp (nat_lit 27)) (.region [
  .ins ⟨(.p .mv), [.tmp (nat_lit 0)], (some (nat_lit 28)), none⟩,
  .ins ⟨(.p .mv), [.tmp (nat_lit 8)], (some (nat_lit 29)), none⟩,
  .ins ⟨(.c .value), [.const (.func (.func (nat_lit 57)) [] []), .tmp (nat_lit 28), .tmp (nat_lit 29), .const (.int .i64 (.ofNat (nat_lit 4)))], (some (nat_lit 30)), none⟩])
 .skip)))
 (.seq (.region [
  .ins ⟨(.p .mv), [.tmp (nat_lit 0)], (some (nat_lit 31)), none⟩,
  .ins ⟨(.c .value), [.const (.func (.func (nat_lit 54)) [] []), .tmp (nat_lit 31)], (some (nat_lit 32)), none⟩])
 (.seq (.region [
  .ins ⟨(.p .mv), [.tmp (nat_lit 0)], (some (nat_lit 33)), none⟩,
  .ins ⟨(.c .value), [.const (.func (.func (nat_lit 38)) [] []), .tmp (nat_lit 33)], (some (nat_lit 34)), none⟩,
  .ins ⟨(.p .mv), [.tmp (nat_lit 34)], (some (nat_lit 4)), none⟩,
  .ins ⟨(.p .mv), [.const (.int .i64 (.ofNat (nat_lit 0)))], (some (nat_lit 5)), none⟩])
 .ret))))))⟩

def c14 : Code' := .fn ⟨(nat_lit 35), [.tmp (nat_lit 4)],
 (.seq (.region [
  .ins ⟨(.a .box), [.tmp (nat_lit 1)], (some (nat_lit 3)), none⟩,
  .ins ⟨(.p .mv), [.const (.int .i64 (.ofNat (nat_lit 0)))], (some (nat_lit 4)), none⟩])
 (.seq (.seq (.region [
  .ins ⟨(.p .mv), [.tmp (nat_lit 0)], (some (nat_lit 9)), none⟩,
  .ins ⟨(.c .value), [.const (.func (.func (nat_lit 51)) [] []), .tmp (nat_lit 9)], (some (nat_lit 10)), none⟩,
  .ins ⟨(.p .mv), [.tmp (nat_lit 10)], (some (nat_lit 5)), none⟩])
 (.seq (.region [
  .ins ⟨(.p .mv), [.tmp (nat_lit 5)], (some (nat_lit 11)), none⟩,
  .ins ⟨(.p (.bini .neq)), [.tmp (nat_lit 11), .const (.int .i64 (.ofNat (nat_lit 0)))], (some (nat_lit 12)), none⟩])
 (.cond (.tmp (nat_lit 12)) (.seq (.region [
  .ins ⟨(.p .mv), [.tmp (nat_lit 5)], (some (nat_lit 13)), none⟩,
  .ins ⟨(.p .mv), [.tmp (nat_lit 13)], (some (nat_lit 4)), none⟩])
 .ret)
 .skip)))
 (.seq (.seq (.region [
  .ins ⟨(.p .mv), [.tmp (nat_lit 0)], (some (nat_lit 14)), none⟩,
  .ins ⟨(.p .nilck), [.tmp (nat_lit 14)], (some (nat_lit 15)), none⟩,
  .ins ⟨(.p (.fieldAddr (nat_lit 13))), [.tmp (nat_lit 15)], (some (nat_lit 16)), none⟩,
  .ins ⟨(.r (.load false (nat_lit 1))), [.tmp (nat_lit 16)], (some (nat_lit 17)), none⟩,
  .ins ⟨(.r (.load true (nat_lit 5))), [.tmp (nat_lit 3)], (some (nat_lit 18)), none⟩,
  .ins ⟨(.c .value), [.const (.func (.func (nat_lit 58)) [] []), .tmp (nat_lit 17), .tmp (nat_lit 18)], (some (nat_lit 19)), none⟩,
  .ins ⟨(.p .mv), [.tmp (nat_lit 19)], (some (nat_lit 6)), none⟩])
 (.seq (.region [
  .ins ⟨(.p .mv), [.tmp (nat_lit 6)], (some (nat_lit 20)), none⟩,
  .ins ⟨(.p (.bini .neq)), [.tmp (nat_lit 20), .const (.int .i64 (.ofNat (nat_lit 0)))], (some (nat_lit 21)), none⟩])
 (.cond (.tmp (nat_lit 21)) (.seq (.region [
  .ins ⟨(.p .mv), [.tmp (nat_lit 6)], (some (nat_lit 22)), none⟩,
  .ins ⟨(.p .mv), [.tmp (nat_lit 22)], (some (nat_lit 4)), none⟩])
 .ret)
 .skip)))
 (.seq (.seq (.region [
  .ins ⟨(.p .mv), [.tmp (nat_lit 0)], (some (nat_lit 24)), none⟩,
  .ins ⟨(.p .nilck), [.tmp (nat_lit 24)], (some (nat_lit 25)), none⟩,
  .ins ⟨(.p (.fieldAddr (nat_lit 15))), [.tmp (nat_lit 25)], (some (nat_lit 26)), none⟩,
  .ins ⟨(.r (.load false (nat_lit 1))), [.tmp (nat_lit 26)], (some (nat_lit 27)), none⟩,
  .ins ⟨(.c .value), [.const (.func (.func (nat_lit 59)) [] []), .tmp (nat_lit 27), .const (.int .i64 (.ofNat (nat_lit 1)))], (some (nat_lit 28)), none⟩,
  .ins ⟨(.p .mv), [.tmp (nat_lit 28)], (some (nat_lit 23)), none⟩,
  .ins ⟨(.p (.extract (nat_lit 0))), [.tmp (nat_lit 23)], (some (nat_lit 29)), none⟩,
  .ins ⟨(.p (.extract (nat_lit 1))), [.tmp (nat_lit 23)], (some (nat_lit 30)), none⟩,
  .ins ⟨(.p .mv), [.tmp (nat_lit 29)], (some (nat_lit 7)), none⟩,
  .ins ⟨(.p .mv), [.tmp (nat_lit 30)], (some (nat_lit 8)), none⟩])
 (.seq (.region [
  .ins ⟨(.p .mv), [.tmp (nat_lit 8)], (some (nat_lit 31)), none⟩,
  .ins ⟨(.p (.un .not)), [.tmp (nat_lit 31)], (some (nat_lit 32)), none⟩])
 (.cond (.tmp (nat_lit 32)) (.region [
  .ins ⟨(.p .mv), [.tmp (nat_lit 0)], (some (nat_lit 33)), none⟩,
  .ins ⟨(.c .value), [.const (.func (.func (nat_lit 60)) [] []), .tmp (nat_lit 33), .const (.int .i64 (.ofNat (nat_lit 1)))], (some (nat_lit 34)), none⟩])
 .skip)))
 (.seq (.region [
  .ins ⟨(.p .mv), [.const (.int .i64 (.ofNat (nat_lit 0)))], (some (nat_lit 4)), none⟩])
 .ret)))))⟩

def c15 : Code' := .fn ⟨(nat_lit 2), [.cell (nat_lit 0) true (nat_lit 5)],
 (.seq (.region [
  .ins ⟨(.a (.alloc [(.int .i64 (.ofNat (nat_lit 0))), (.int .i64 (.ofNat (nat_lit 0))), (.int .i64 (.ofNat (nat_lit 0))), (.int .i64 (.ofNat (nat_lit 0))), (.int .i64 (.ofNat (nat_lit 0)))])), [], (some (nat_lit 0)), none⟩])
 (.seq (.region [
  .ins ⟨(.p (.build [(.int .i64 (.ofNat (nat_lit 0))), (.int .i64 (.ofNat (nat_lit 0))), (.int .i64 (.ofNat (nat_lit 0))), (.int .i64 (.ofNat (nat_lit 0))), (.int .i64 (.ofNat (nat_lit 0)))] [((nat_lit 0), (nat_lit 1)), ((nat_lit 1), (nat_lit 1)), ((nat_lit 2), (nat_lit 1)), ((nat_lit 3), (nat_lit 1)), ((nat_lit 4), (nat_lit 1))])), [.const (.int .i64 (.ofNat (nat_lit 4096))), .const (.int .i64 (.ofNat (nat_lit 4294967295))), .const (.int .i64 (.ofNat (nat_lit 65535))), .const (.int .i64 (.ofNat (nat_lit 16384))), .const (.int .i64 (.ofNat (nat_lit 4294967295)))], (some (nat_lit 1)), none⟩,
  .ins ⟨(.l (.store (nat_lit 5))), [.tmp (nat_lit 0), .tmp (nat_lit 1)], none, none⟩])
 .ret))⟩

def c16 : Code' := .fn ⟨(nat_lit 48), [.tmp (nat_lit 2)],
 (.seq (.region [
  .ins ⟨(.p .mv), [.const (.slice none (nat_lit 0) (nat_lit 0) (nat_lit 0))], (some (nat_lit 2)), none⟩])
 (.seq (.seq (.region [
  .ins ⟨(.p .mv), [.tmp (nat_lit 0)], (some (nat_lit 3)), none⟩,
  .ins ⟨(.p (.eqnil .ptr false)), [.tmp (nat_lit 3), .const (.ptr none)], (some (nat_lit 4)), none⟩,
  .ins ⟨(.p .mv), [.tmp (nat_lit 4)], (some (nat_lit 5)), none⟩,
  .ins ⟨(.p .mv), [.tmp (nat_lit 0)], (some (nat_lit 6)), (some ((nat_lit 5), false))⟩,
  .ins ⟨(.p .nilck), [.tmp (nat_lit 6)], (some (nat_lit 7)), (some ((nat_lit 5), false))⟩,
  .ins ⟨(.p (.fieldAddr (nat_lit 17))), [.tmp (nat_lit 7)], (some (nat_lit 8)), (some ((nat_lit 5), false))⟩,
  .ins ⟨(.r (.load false (nat_lit 1))), [.tmp (nat_lit 8)], (some (nat_lit 9)), (some ((nat_lit 5), false))⟩,
  .ins ⟨(.p (.bini .neq)), [.tmp (nat_lit 9), .const (.int .i64 (.ofNat (nat_lit 0)))], (some (nat_lit 10)), (some ((nat_lit 5), false))⟩,
  .ins ⟨(.p .pick), [.tmp (nat_lit 5), .const (.bool true), .tmp (nat_lit 10)], (some (nat_lit 11)), none⟩])
 (.cond (.tmp (nat_lit 11)) (.seq (.region [
  .ins ⟨(.p .mv), [.const (.slice none (nat_lit 0) (nat_lit 0) (nat_lit 0))], (some (nat_lit 2)), none⟩])
 .ret)
 .skip))
 (.seq (.seq (.region [
  .ins ⟨(.p .mv), [.tmp (nat_lit 0)], (some (nat_lit 12)), none⟩,
  .ins ⟨(.p .nilck), [.tmp (nat_lit 12)], (some (nat_lit 13)), none⟩,
  .ins ⟨(.p (.fieldAddr (nat_lit 16))), [.tmp (nat_lit 13)], (some (nat_lit 14)), none⟩,
  .ins ⟨(.r (.load false (nat_lit 1))), [.tmp (nat_lit 14)], (some (nat_lit 15)), none⟩,
  .ins ⟨(.p (.un .not)), [.tmp (nat_lit 15)], (some (nat_lit 16)), none⟩])
 (.cond (.tmp (nat_lit 16)) (.seq (.region [
  .ins ⟨(.p .mv), [.tmp (nat_lit 0)], (some (nat_lit 17)), none⟩,
  .ins ⟨(.c .value), [.const (.func (.func (nat_lit 42)) [] []), .tmp (nat_lit 17), .const (.int .i64 (.ofNat (nat_lit 1)))], (some (nat_lit 18)), none⟩])
 (.seq (.region [
  .ins ⟨(.p .mv), [.tmp (nat_lit 0)], (some (nat_lit 19)), none⟩,
  .ins ⟨(.c .value), [.const (.func (.func (nat_lit 38)) [] []), .tmp (nat_lit 19)], (some (nat_lit 20)), none⟩,
  .ins ⟨(.p .mv), [.tmp (nat_lit 20)], (some (nat_lit 2)), none⟩])
 .ret))
 .skip))
 (.seq (.seq (.region [
  .ins ⟨(.p .mv), [.tmp (nat_lit 0)], (some (nat_lit 21)), none⟩,
  .ins ⟨(.p .nilck), [.tmp (nat_lit 21)], (some (nat_lit 22)), none⟩,
  .ins ⟨(.p (.fieldAddr (nat_lit 14))), [.tmp (nat_lit 22)], (some (nat_lit 23)), none⟩,
  .ins ⟨(.r (.load false (nat_lit 1))), [.tmp (nat_lit 23)], (some (nat_lit 24)), none⟩,
  .ins ⟨(.c .value), [.const (.func (.func (nat_lit 61)) [] []), .tmp (nat_lit 24)], (some (nat_lit 25)), none⟩,
  .ins ⟨(.p (.bini .eql)), [.tmp (nat_lit 25), .const (.int .i64 (.ofNat (nat_lit 0)))], (some (nat_lit 26)), none⟩])
 (.cond (.tmp (nat_lit 26)) (.region [
  .ins ⟨(.p .mv), [.tmp (nat_lit 0)], (some (nat_lit 27)), none⟩,
  .ins ⟨(.c .value), [.const (.func (.func (nat_lit 60)) [] []), .tmp (nat_lit 27), .const (.int .i64 (.ofNat (nat_lit 5)))], (some (nat_lit 28)), none⟩])
 .skip))
 (.seq (.region [
  .ins ⟨(.p .mv), [.tmp (nat_lit 0)], (some (nat_lit 29)), none⟩,
  .ins ⟨(.p .mv), [.tmp (nat_lit 0)], (some (nat_lit 30)), none⟩,
  .ins ⟨(.p .nilck), [.tmp (nat_lit 30)], (some (nat_lit 31)), none⟩,
  .ins ⟨(.p (.fieldAddr (nat_lit 14))), [.tmp (nat_lit 31)], (some (nat_lit 32)), none⟩,
  .ins ⟨(.r (.load false (nat_lit 1))), [.tmp (nat_lit 32)], (some (nat_lit 33)), none⟩,
  .ins ⟨(.p .mv), [.tmp (nat_lit 0)], (some (nat_lit 34)), none⟩,
  .ins ⟨(.p .nilck), [.tmp (nat_lit 34)], (some (nat_lit 35)), none⟩,
  .ins ⟨(.p (.fieldAddr (nat_lit 13))), [.tmp (nat_lit 35)], (some (nat_lit 36)), none⟩,
  .ins ⟨(.r (.load false (nat_lit 1))), [.tmp (nat_lit 36)], (some (nat_lit 37)), none⟩,
  .ins ⟨(.p .mv), [.tmp (nat_lit 0)], (some (nat_lit 39)), none⟩,
  .ins ⟨(.p .nilck), [.tmp (nat_lit 39)], (some (nat_lit 40)), none⟩,
  .ins ⟨(.p (.fieldAddr (nat_lit 13))), [.tmp (nat_lit 40)], (some (nat_lit 41)), none⟩,
  .ins ⟨(.r (.load false (nat_lit 1))), [.tmp (nat_lit 41)], (some (nat_lit 42)), none⟩,
  .ins ⟨(.c .value), [.const (.func (.func (nat_lit 64)) [] []), .tmp (nat_lit 37)], (some (nat_lit 38)), none⟩,
  .again ⟨(.r (.load false (nat_lit 1))), [.tmp (nat_lit 32)], (some (nat_lit 33)), none⟩,
  .again ⟨(.r (.load false (nat_lit 1))), [.tmp (nat_lit 41)], (some (nat_lit 42)), none⟩,
  .ins ⟨(.c .value), [.const (.func (.func (nat_lit 65)) [] []), .tmp (nat_lit 42)], (some (nat_lit 43)), none⟩,
  .again ⟨(.r (.load false (nat_lit 1))), [.tmp (nat_lit 32)], (some (nat_lit 33)), none⟩,
  .ins ⟨(.c .value), [.const (.func (.func (nat_lit 63)) [] []), .tmp (nat_lit 33), .tmp (nat_lit 38), .tmp (nat_lit 43)], (some (nat_lit 44)), none⟩,
  .ins ⟨(.c .value), [.const (.func (.func (nat_lit 62)) [] []), .tmp (nat_lit 29), .tmp (nat_lit 44)], (some (nat_lit 45)), none⟩])
 (.seq (.region [
  .ins ⟨(.p .mv), [.tmp (nat_lit 0)], (some (nat_lit 46)), none⟩,
  .ins ⟨(.c .value), [.const (.func (.func (nat_lit 38)) [] []), .tmp (nat_lit 46)], (some (nat_lit 47)), none⟩,
  .ins ⟨(.p .mv), [.tmp (nat_lit 47)], (some (nat_lit 2)), none⟩])
 .ret))))))⟩

def c17 : Code' := .fn ⟨(nat_lit 4), [.tmp (nat_lit 2)],
 (.seq (.region [
  .ins ⟨(.a .box), [.tmp (nat_lit 0)], (some (nat_lit 1)), none⟩,
  .ins ⟨(.p .mv), [.const .nilFunc], (some (nat_lit 2)), none⟩])
 (.seq (.region [
  .ins ⟨(.p (.mkfunc (.func (nat_lit 66)) (nat_lit 0))), [.tmp (nat_lit 1)], (some (nat_lit 3)), none⟩,
  .ins ⟨(.p .mv), [.tmp (nat_lit 3)], (some (nat_lit 2)), none⟩])
 .ret))⟩

def c18 : Code' := .fn ⟨(nat_lit 94), [.tmp (nat_lit 0)],
 (.seq (.region [
  .ins ⟨(.p .mv), [.const (.bool false)], (some (nat_lit 0)), none⟩])
 (.seq (.region [
  .ins ⟨(.c .value), [.const (.func (.func (nat_lit 15)) [] [])], (some (nat_lit 13)), none⟩,
  .ins ⟨(.a (.alloc [(.int .i64 (.ofNat (nat_lit 0))), (.int .i64 (.ofNat (nat_lit 0))), (.int .i64 (.ofNat (nat_lit 0))), (.int .i64 (.ofNat (nat_lit 0))), (.int .i64 (.ofNat (nat_lit 0)))])), [], (some (nat_lit 1)), none⟩,
  .ins ⟨(.l (.store (nat_lit 5))), [.tmp (nat_lit 1), .tmp (nat_lit 13)], none, none⟩])
 (.seq (.region [
  .ins ⟨(.p (.fieldAddr (nat_lit 1))), [.tmp (nat_lit 1)], (some (nat_lit 14)), none⟩,
  .ins ⟨(.l (.store (nat_lit 1))), [.tmp (nat_lit 14), .const (.int .i64 (.ofNat (nat_lit 10)))], none, none⟩])
 (.seq (.region [
  .ins ⟨(.p (.fieldAddr (nat_lit 4))), [.tmp (nat_lit 1)], (some (nat_lit 15)), none⟩,
  .ins ⟨(.l (.store (nat_lit 1))), [.tmp (nat_lit 15), .const (.int .i64 (.ofNat (nat_lit 1000)))], none, none⟩])
 (.seq (.region [
  .ins ⟨(.r (.load true (nat_lit 5))), [.tmp (nat_lit 1)], (some (nat_lit 17)), none⟩,
  .ins ⟨(.p (.build [(.int .i64 (.ofNat (nat_lit 0))), (.int .i64 (.ofNat (nat_lit 0))), (.int .i64 (.ofNat (nat_lit 0))), (.int .i64 (.ofNat (nat_lit 0))), (.int .i64 (.ofNat (nat_lit 0)))] [((nat_lit 1), (nat_lit 1))])), [.const (.int .i64 (.ofNat (nat_lit 5)))], (some (nat_lit 18)), none⟩,
  .ins ⟨(.c .value), [.const (.func (.func (nat_lit 67)) [] []), .const (.int .i64 (.ofNat (nat_lit 1))), .const (.int .i64 (.ofNat (nat_lit 0))), .tmp (nat_lit 17), .tmp (nat_lit 18), .const (.int .i64 (.ofNat (nat_lit 0)))], (some (nat_lit 19)), none⟩,
  .ins ⟨(.p .mv), [.tmp (nat_lit 19)], (some (nat_lit 16)), none⟩,
  .ins ⟨(.p (.extract (nat_lit 0))), [.tmp (nat_lit 16)], (some (nat_lit 20)), none⟩,
  .ins ⟨(.p (.extract (nat_lit 1))), [.tmp (nat_lit 16)], (some (nat_lit 21)), none⟩,
  .ins ⟨(.p .mv), [.tmp (nat_lit 20)], (some (nat_lit 2)), none⟩,
  .ins ⟨(.p .mv), [.tmp (nat_lit 21)], (some (nat_lit 3)), none⟩])
 (.seq (.seq (.region [
  .ins ⟨(.p .mv), [.tmp (nat_lit 3)], (some (nat_lit 22)), none⟩,
  .ins ⟨(.p (.bini .neq)), [.tmp (nat_lit 22), .const (.int .i64 (.ofNat (nat_lit 0)))], (some (nat_lit 23)), none⟩,
  .ins ⟨(.p .mv), [.tmp (nat_lit 23)], (some (nat_lit 24)), none⟩,
  .ins ⟨(.p .mv), [.tmp (nat_lit 2)], (some (nat_lit 25)), (some ((nat_lit 24), false))⟩,
  .ins ⟨(.p (.eqnil .ptr false)), [.tmp (nat_lit 25), .const (.ptr none)], (some (nat_lit 26)), (some ((nat_lit 24), false))⟩,
  .ins ⟨(.p .pick), [.tmp (nat_lit 24), .const (.bool true), .tmp (nat_lit 26)], (some (nat_lit 27)), none⟩])
 (.cond (.tmp (nat_lit 27)) (.seq (.region [
  .ins ⟨(.p .mv), [.const (.bool false)], (some (nat_lit 0)), none⟩])
 .ret)
 .skip))
 (.seq (.region [
  .ins ⟨(.p .mv), [.tmp (nat_lit 2)], (some (nat_lit 29)), none⟩,
  .ins ⟨(.c .value), [.const (.func (.func (nat_lit 68)) [] [])], (some (nat_lit 30)), none⟩,
  .ins ⟨(.c .value), [.const (.func (.func (nat_lit 10)) [] []), .tmp (nat_lit 29), .tmp (nat_lit 30), .const (.bool true)], (some (nat_lit 31)), none⟩,
  .ins ⟨(.p .mv), [.tmp (nat_lit 31)], (some (nat_lit 28)), none⟩,
  .ins ⟨(.p (.extract (nat_lit 0))), [.tmp (nat_lit 28)], (some (nat_lit 32)), none⟩,
  .ins ⟨(.p (.extract (nat_lit 1))), [.tmp (nat_lit 28)], (some (nat_lit 33)), none⟩,
  .ins ⟨(.p .mv), [.tmp (nat_lit 32)], (some (nat_lit 4)), none⟩,
  .ins ⟨(.p .mv), [.tmp (nat_lit 33)], (some (nat_lit 5)), none⟩])
 (.seq (.region [
  .ins ⟨(.p .mv), [.tmp (nat_lit 2)], (some (nat_lit 34)), none⟩,
  .ins ⟨(.c .value), [.const (.func (.func (nat_lit 21)) [] []), .tmp (nat_lit 34), .const (.int .i64 (.ofNat (nat_lit 1)))], (some (nat_lit 35)), none⟩,
  .ins ⟨(.p .mv), [.tmp (nat_lit 35)], (some (nat_lit 6)), none⟩])
 (.seq (.region [
  .ins ⟨(.p .mv), [.tmp (nat_lit 2)], (some (nat_lit 37)), none⟩,
  .ins ⟨(.c .value), [.const (.func (.func (nat_lit 13)) [] []), .tmp (nat_lit 37), .const (.int .i64 (.ofNat (nat_lit 1)))], (some (nat_lit 38)), none⟩,
  .ins ⟨(.p .mv), [.tmp (nat_lit 38)], (some (nat_lit 36)), none⟩,
  .ins ⟨(.p (.extract (nat_lit 0))), [.tmp (nat_lit 36)], (some (nat_lit 39)), none⟩,
  .ins ⟨(.p (.extract (nat_lit 1))), [.tmp (nat_lit 36)], (some (nat_lit 40)), none⟩,
  .ins ⟨(.p .mv), [.tmp (nat_lit 39)], (some (nat_lit 7)), none⟩,
  .ins ⟨(.p .mv), [.tmp (nat_lit 40)], (some (nat_lit 8)), none⟩])
 (.seq (.region [
  .ins ⟨(.a (.alloc [(.int .i64 (.ofNat (nat_lit 0)))])), [], (some (nat_lit 9)), none⟩,
  .ins ⟨(.l (.store (nat_lit 1))), [.tmp (nat_lit 9), .const (.int .i64 (.ofNat (nat_lit 0)))], none, none⟩])
 (.seq (.region [
  .ins ⟨(.p .mv), [.tmp (nat_lit 2)], (some (nat_lit 41)), none⟩,
  .ins ⟨(.c .value), [.const (.func (.func (nat_lit 17)) [] []), .tmp (nat_lit 41)], (some (nat_lit 42)), none⟩,
  .ins ⟨(.p .mv), [.tmp (nat_lit 42)], (some (nat_lit 10)), none⟩])
 (.seq (.seq (.region [
  .ins ⟨(.p .mv), [.tmp (nat_lit 10)], (some (nat_lit 43)), none⟩,
  .ins ⟨(.p (.eqnil .fn false)), [.tmp (nat_lit 43), .const .nilFunc], (some (nat_lit 44)), none⟩])
 (.cond (.tmp (nat_lit 44)) (.seq (.region [
  .ins ⟨(.p .mv), [.const (.bool false)], (some (nat_lit 0)), none⟩])
 .ret)
 .skip))
 (.seq (.seq (.region [
  .ins ⟨(.p .mv), [.tmp (nat_lit 10)], (some (nat_lit 45)), none⟩])
 (.block (nat_lit 0) (.rangeFunc (.tmp (nat_lit 45)) [(nat_lit 46), (nat_lit 47)] .skip
 (.block (nat_lit 1) (.region [
  .ins ⟨(.r (.load false (nat_lit 1))), [.tmp (nat_lit 9)], (some (nat_lit 48)), none⟩,
  .ins ⟨(.p (.bini .add)), [.tmp (nat_lit 48), .const (.int .i64 (.ofNat (nat_lit 1)))], (some (nat_lit 49)), none⟩,
  .ins ⟨(.l (.store (nat_lit 1))), [.tmp (nat_lit 9), .tmp (nat_lit 49)], none, none⟩])))))
 (.seq (.region [
  .ins ⟨(.p .mv), [.tmp (nat_lit 2)], (some (nat_lit 50)), none⟩,
  .ins ⟨(.c .value), [.const (.func (.func (nat_lit 9)) [] []), .tmp (nat_lit 50), .const (.int .i64 (.ofNat (nat_lit 1000)))], (some (nat_lit 51)), none⟩,
  .ins ⟨(.p .mv), [.tmp (nat_lit 51)], (some (nat_lit 11)), none⟩])
 (.seq (.region [
  .ins ⟨(.p .mv), [.tmp (nat_lit 2)], (some (nat_lit 52)), none⟩,
  .ins ⟨(.c .value), [.const (.func (.func (nat_lit 8)) [] []), .tmp (nat_lit 52), .const (.int .i64 (.ofNat (nat_lit 4)))], (some (nat_lit 53)), none⟩])
 (.seq (.region [
  .ins ⟨(.p .mv), [.tmp (nat_lit 2)], (some (nat_lit 54)), none⟩,
  .ins ⟨(.c .value), [.const (.func (.func (nat_lit 8)) [] []), .tmp (nat_lit 54), .const (.int .i64 (.ofNat (nat_lit 5)))], (some (nat_lit 55)), none⟩,
  .ins ⟨(.p .mv), [.tmp (nat_lit 55)], (some (nat_lit 12)), none⟩])
 (.seq (.region [
  .ins ⟨(.p .mv), [.tmp (nat_lit 5)], (some (nat_lit 56)), none⟩,
  .ins ⟨(.p (.bini .eql)), [.tmp (nat_lit 56), .const (.int .i64 (.ofNat (nat_lit 0)))], (some (nat_lit 57)), none⟩,
  .ins ⟨(.p .mv), [.tmp (nat_lit 57)], (some (nat_lit 58)), none⟩,
  .ins ⟨(.p .mv), [.tmp (nat_lit 4)], (some (nat_lit 59)), (some ((nat_lit 58), true))⟩,
  .ins ⟨(.p (.bini .eql)), [.tmp (nat_lit 59), .const (.int .i64 (.ofNat (nat_lit 1)))], (some (nat_lit 60)), (some ((nat_lit 58), true))⟩,
  .ins ⟨(.p .pick), [.tmp (nat_lit 58), .tmp (nat_lit 60), .const (.bool false)], (some (nat_lit 61)), none⟩,
  .ins ⟨(.p .mv), [.tmp (nat_lit 61)], (some (nat_lit 62)), none⟩,
  .ins ⟨(.p .mv), [.tmp (nat_lit 6)], (some (nat_lit 63)), (some ((nat_lit 62), true))⟩,
  .ins ⟨(.p (.bini .eql)), [.tmp (nat_lit 63), .const (.int .i64 (.ofNat (nat_lit 1)))], (some (nat_lit 64)), (some ((nat_lit 62), true))⟩,
  .ins ⟨(.p .pick), [.tmp (nat_lit 62), .tmp (nat_lit 64), .const (.bool false)], (some (nat_lit 65)), none⟩,
  .ins ⟨(.p .mv), [.tmp (nat_lit 65)], (some (nat_lit 66)), none⟩,
  .ins ⟨(.p .mv), [.tmp (nat_lit 8)], (some (nat_lit 67)), (some ((nat_lit 66), true))⟩,
  .ins ⟨(.p (.bini .eql)), [.tmp (nat_lit 67), .const (.int .i64 (.ofNat (nat_lit 0)))], (some (nat_lit 68)), (some ((nat_lit 66), true))⟩,
  .ins ⟨(.p .pick), [.tmp (nat_lit 66), .tmp (nat_lit 68), .const (.bool false)], (some (nat_lit 69)), none⟩,
  .ins ⟨(.p .mv), [.tmp (nat_lit 69)], (some (nat_lit 70)), none⟩,
  .ins ⟨(.p .mv), [.tmp (nat_lit 7)], (some (nat_lit 71)), (some ((nat_lit 70), true))⟩,
  .ins ⟨(.p .lenSl), [.tmp (nat_lit 71)], (some (nat_lit 72)), (some ((nat_lit 70), true))⟩,
  .ins ⟨(.p (.bini .eql)), [.tmp (nat_lit 72), .const (.int .i64 (.ofNat (nat_lit 1)))], (some (nat_lit 73)), (some ((nat_lit 70), true))⟩,
  .ins ⟨(.p .pick), [.tmp (nat_lit 70), .tmp (nat_lit 73), .const (.bool false)], (some (nat_lit 74)), none⟩,
  .ins ⟨(.p .mv), [.tmp (nat_lit 74)], (some (nat_lit 75)), none⟩,
  .ins ⟨(.r (.load false (nat_lit 1))), [.tmp (nat_lit 9)], (some (nat_lit 76)), (some ((nat_lit 75), true))⟩,
  .ins ⟨(.p (.bini .eql)), [.tmp (nat_lit 76), .const (.int .i64 (.ofNat (nat_lit 1)))], (some (nat_lit 77)), (some ((nat_lit 75), true))⟩,
  .ins ⟨(.p .pick), [.tmp (nat_lit 75), .tmp (nat_lit 77), .const (.bool false)], (some (nat_lit 78)), none⟩,
  .ins ⟨(.p .mv), [.tmp (nat_lit 78)], (some (nat_lit 79)), none⟩,
  .ins ⟨(.p .mv), [.tmp (nat_lit 11)], (some (nat_lit 80)), (some ((nat_lit 79), true))⟩,
  .ins ⟨(.p .lenSl), [.tmp (nat_lit 80)], (some (nat_lit 81)), (some ((nat_lit 79), true))⟩,
  .ins ⟨(.p (.bini .eql)), [.tmp (nat_lit 81), .const (.int .i64 (.ofNat (nat_lit 94)))], (some (nat_lit 82)), (some ((nat_lit 79), true))⟩,
  .ins ⟨(.p .pick), [.tmp (nat_lit 79), .tmp (nat_lit 82), .const (.bool false)], (some (nat_lit 83)), none⟩,
  .ins ⟨(.p .mv), [.tmp (nat_lit 83)], (some (nat_lit 84)), none⟩,
  .ins ⟨(.p .mv), [.tmp (nat_lit 12)], (some (nat_lit 85)), (some ((nat_lit 84), true))⟩,
  .ins ⟨(.p .lenSl), [.tmp (nat_lit 85)], (some (nat_lit 86)), (some ((nat_lit 84), true))⟩,
  .ins ⟨(.p (.bini .eql)), [.tmp (nat_lit 86), .const (.int .i64 (.ofNat (nat_lit 1)))], (some (nat_lit 87)), (some ((nat_lit 84), true))⟩,
  .ins ⟨(.p .pick), [.tmp (nat_lit 84), .tmp (nat_lit 87), .const (.bool false)], (some (nat_lit 88)), none⟩,
  .ins ⟨(.p .mv), [.tmp (nat_lit 88)], (some (nat_lit 89)), none⟩,
  .ins ⟨(.p .mv), [.tmp (nat_lit 2)], (some (nat_lit 90)), (some ((nat_lit 89), true))⟩,
  .ins ⟨(.c .value), [.const (.func (.func (nat_lit 19)) [] []), .tmp (nat_lit 90)], (some (nat_lit 91)), (some ((nat_lit 89), true))⟩,
  .ins ⟨(.p (.bini .eql)), [.tmp (nat_lit 91), .const (.int .i64 (.ofNat (nat_lit 4)))], (some (nat_lit 92)), (some ((nat_lit 89), true))⟩,
  .ins ⟨(.p .pick), [.tmp (nat_lit 89), .tmp (nat_lit 92), .const (.bool false)], (some (nat_lit 93)), none⟩,
  .ins ⟨(.p .mv), [.tmp (nat_lit 93)], (some (nat_lit 0)), none⟩])
 .ret)))))))))))))))))⟩

def c19 : Code' := .fn ⟨(nat_lit 9), [.tmp (nat_lit 2)],
 (.seq (.region [
  .ins ⟨(.p .mv), [.const (.int .i64 (.ofNat (nat_lit 0)))], (some (nat_lit 2)), none⟩])
 (.seq (.seq (.region [
  .ins ⟨(.p .mv), [.tmp (nat_lit 0)], (some (nat_lit 3)), none⟩,
  .ins ⟨(.p (.eqnil .ptr false)), [.tmp (nat_lit 3), .const (.ptr none)], (some (nat_lit 4)), none⟩])
 (.cond (.tmp (nat_lit 4)) (.seq (.region [
  .ins ⟨(.p .mv), [.const (.int .i64 (.ofNat (nat_lit 6)))], (some (nat_lit 2)), none⟩])
 .ret)
 .skip))
 (.seq (.region [
  .ins ⟨(.p .mv), [.tmp (nat_lit 0)], (some (nat_lit 5)), none⟩,
  .ins ⟨(.p .nilck), [.tmp (nat_lit 5)], (some (nat_lit 6)), none⟩,
  .ins ⟨(.p (.fieldAddr (nat_lit 17))), [.tmp (nat_lit 6)], (some (nat_lit 7)), none⟩,
  .ins ⟨(.r (.load false (nat_lit 1))), [.tmp (nat_lit 7)], (some (nat_lit 8)), none⟩,
  .ins ⟨(.p .mv), [.tmp (nat_lit 8)], (some (nat_lit 2)), none⟩])
 .ret)))⟩

def c20 : Code' := .fn ⟨(nat_lit 27), [.tmp (nat_lit 2)],
 (.seq (.region [
  .ins ⟨(.p .mv), [.const (.int .i64 (.ofNat (nat_lit 0)))], (some (nat_lit 2)), none⟩])
 (.seq (.block (nat_lit 0) (.seq (.region [
  .ins ⟨(.p .mv), [.tmp (nat_lit 0)], (some (nat_lit 4)), none⟩,
  .ins ⟨(.p (.eqnil .ptr false)), [.tmp (nat_lit 4), .const (.ptr none)], (some (nat_lit 5)), none⟩,
  .ins ⟨(.p .mv), [.tmp (nat_lit 5)], (some (nat_lit 3)), none⟩])
 (.cond (.tmp (nat_lit 3)) (.seq (.region [
  .ins ⟨(.p .mv), [.const (.int .i64 (.ofNat (nat_lit 0)))], (some (nat_lit 2)), none⟩])
 .ret)
 (.seq (.region [
  .ins ⟨(.p .mv), [.tmp (nat_lit 0)], (some (nat_lit 7)), none⟩,
  .ins ⟨(.p .nilck), [.tmp (nat_lit 7)], (some (nat_lit 8)), none⟩,
  .ins ⟨(.p (.fieldAddr (nat_lit 16))), [.tmp (nat_lit 8)], (some (nat_lit 9)), none⟩,
  .ins ⟨(.r (.load false (nat_lit 1))), [.tmp (nat_lit 9)], (some (nat_lit 10)), none⟩,
  .ins ⟨(.p .mv), [.tmp (nat_lit 10)], (some (nat_lit 6)), none⟩])
 (.cond (.tmp (nat_lit 6)) (.seq (.region [
  .ins ⟨(.p .mv), [.tmp (nat_lit 0)], (some (nat_lit 11)), none⟩,
  .ins ⟨(.p .nilck), [.tmp (nat_lit 11)], (some (nat_lit 12)), none⟩,
  .ins ⟨(.p (.fieldAddr (nat_lit 19))), [.tmp (nat_lit 12)], (some (nat_lit 13)), none⟩,
  .ins ⟨(.r (.load false (nat_lit 1))), [.tmp (nat_lit 13)], (some (nat_lit 14)), none⟩,
  .ins ⟨(.p .lenSl), [.tmp (nat_lit 14)], (some (nat_lit 15)), none⟩,
  .ins ⟨(.p .mv), [.tmp (nat_lit 0)], (some (nat_lit 16)), none⟩,
  .ins ⟨(.p .nilck), [.tmp (nat_lit 16)], (some (nat_lit 17)), none⟩,
  .ins ⟨(.p (.fieldAddr (nat_lit 13))), [.tmp (nat_lit 17)], (some (nat_lit 18)), none⟩,
  .ins ⟨(.r (.load false (nat_lit 1))), [.tmp (nat_lit 18)], (some (nat_lit 19)), none⟩,
  .ins ⟨(.c .value), [.const (.func (.func (nat_lit 69)) [] []), .tmp (nat_lit 19)], (some (nat_lit 20)), none⟩,
  .ins ⟨(.p (.bini .add)), [.tmp (nat_lit 15), .tmp (nat_lit 20)], (some (nat_lit 21)), none⟩,
  .ins ⟨(.p .mv), [.tmp (nat_lit 21)], (some (nat_lit 2)), none⟩,
  .again ⟨(.r (.load false (nat_lit 1))), [.tmp (nat_lit 13)], (some (nat_lit 14)), none⟩])
 .ret)
 .skip)))))
 (.seq (.region [
  .ins ⟨(.p .mv), [.tmp (nat_lit 0)], (some (nat_lit 22)), none⟩,
  .ins ⟨(.p .nilck), [.tmp (nat_lit 22)], (some (nat_lit 23)), none⟩,
  .ins ⟨(.p (.fieldAddr (nat_lit 19))), [.tmp (nat_lit 23)], (some (nat_lit 24)), none⟩,
  .ins ⟨(.r (.load false (nat_lit 1))), [.tmp (nat_lit 24)], (some (nat_lit 25)), none⟩,
  .ins ⟨(.p .lenSl), [.tmp (nat_lit 25)], (some (nat_lit 26)), none⟩,
  .ins ⟨(.p .mv), [.tmp (nat_lit 26)], (some (nat_lit 2)), none⟩])
 .ret)))⟩

def c21 : Code' := .fn ⟨(nat_lit 15), [.cell (nat_lit 4) false (nat_lit 1)],
 (.seq (.region [
  .ins ⟨(.a .box), [.tmp (nat_lit 1)], (some (nat_lit 3)), none⟩,
  .ins ⟨(.a (.alloc [(.int .i64 (.ofNat (nat_lit 0)))])), [], (some (nat_lit 4)), none⟩])
 (.seq (.seq (.region [
  .ins ⟨(.p .mv), [.tmp (nat_lit 0)], (some (nat_lit 7)), none⟩,
  .ins ⟨(.c .value), [.const (.func (.func (nat_lit 17)) [] []), .tmp (nat_lit 7)], (some (nat_lit 8)), none⟩])
 (.block (nat_lit 0) (.rangeFunc (.tmp (nat_lit 8)) [(nat_lit 9), (nat_lit 10)] (.seq (.region [
  .ins ⟨(.p .mv), [.tmp (nat_lit 9)], (some (nat_lit 5)), none⟩])
 (.region [
  .ins ⟨(.p .mv), [.tmp (nat_lit 10)], (some (nat_lit 6)), none⟩]))
 (.block (nat_lit 1) (.seq (.region [
  .ins ⟨(.p .mv), [.tmp (nat_lit 5)], (some (nat_lit 11)), none⟩,
  .ins ⟨(.r (.load false (nat_lit 1))), [.tmp (nat_lit 3)], (some (nat_lit 12)), none⟩,
  .ins ⟨(.p (.bini .eql)), [.tmp (nat_lit 11), .tmp (nat_lit 12)], (some (nat_lit 13)), none⟩])
 (.cond (.tmp (nat_lit 13)) (.seq (.region [
  .ins ⟨(.p .mv), [.tmp (nat_lit 6)], (some (nat_lit 14)), none⟩,
  .ins ⟨(.l (.store (nat_lit 1))), [.tmp (nat_lit 4), .tmp (nat_lit 14)], none, none⟩])
 .ret)
 .skip))))))
 (.seq (.region [
  .ins ⟨(.l (.store (nat_lit 1))), [.tmp (nat_lit 4), .const (.int .i64 (.ofNat (nat_lit 0)))], none, none⟩])
 .ret)))⟩

def c22 : Code' := .fn ⟨(nat_lit 10), [.tmp (nat_lit 2)],
 (.seq (.region [
  .ins ⟨(.p .mv), [.const (.int .i64 (.ofNat (nat_lit 0)))], (some (nat_lit 2)), none⟩])
 (.seq (.seq (.region [
  .ins ⟨(.p .mv), [.tmp (nat_lit 0)], (some (nat_lit 3)), none⟩,
  .ins ⟨(.p (.eqnil .ptr false)), [.tmp (nat_lit 3), .const (.ptr none)], (some (nat_lit 4)), none⟩])
 (.cond (.tmp (nat_lit 4)) (.seq (.region [
  .ins ⟨(.p .mv), [.const (.int .i64 (.ofNat (nat_lit 0)))], (some (nat_lit 2)), none⟩])
 .ret)
 .skip))
 (.seq (.region [
  .ins ⟨(.p .mv), [.tmp (nat_lit 0)], (some (nat_lit 5)), none⟩,
  .ins ⟨(.p .nilck), [.tmp (nat_lit 5)], (some (nat_lit 6)), none⟩,
  .ins ⟨(.p (.fieldAddr (nat_lit 13))), [.tmp (nat_lit 6)], (some (nat_lit 7)), none⟩,
  .ins ⟨(.r (.load false (nat_lit 1))), [.tmp (nat_lit 7)], (some (nat_lit 8)), none⟩,
  .ins ⟨(.c .value), [.const (.func (.func (nat_lit 65)) [] []), .tmp (nat_lit 8)], (some (nat_lit 9)), none⟩,
  .ins ⟨(.p .mv), [.tmp (nat_lit 9)], (some (nat_lit 2)), none⟩])
 .ret)))⟩

def c23 : Code' := .fn ⟨(nat_lit 11), [.tmp (nat_lit 2)],
 (.seq (.region [
  .ins ⟨(.p .mv), [.const (.bool false)], (some (nat_lit 2)), none⟩])
 (.seq (.region [
  .ins ⟨(.p .mv), [.tmp (nat_lit 0)], (some (nat_lit 3)), none⟩,
  .ins ⟨(.p (.eqnil .ptr true)), [.tmp (nat_lit 3), .const (.ptr none)], (some (nat_lit 4)), none⟩,
  .ins ⟨(.p .mv), [.tmp (nat_lit 4)], (some (nat_lit 5)), none⟩,
  .ins ⟨(.p .mv), [.tmp (nat_lit 0)], (some (nat_lit 6)), (some ((nat_lit 5), true))⟩,
  .ins ⟨(.p .nilck), [.tmp (nat_lit 6)], (some (nat_lit 7)), (some ((nat_lit 5), true))⟩,
  .ins ⟨(.p (.fieldAddr (nat_lit 16))), [.tmp (nat_lit 7)], (some (nat_lit 8)), (some ((nat_lit 5), true))⟩,
  .ins ⟨(.r (.load false (nat_lit 1))), [.tmp (nat_lit 8)], (some (nat_lit 9)), (some ((nat_lit 5), true))⟩,
  .ins ⟨(.p .pick), [.tmp (nat_lit 5), .tmp (nat_lit 9), .const (.bool false)], (some (nat_lit 10)), none⟩,
  .ins ⟨(.p .mv), [.tmp (nat_lit 10)], (some (nat_lit 2)), none⟩])
 .ret))⟩

def c38 : Code' := .fn ⟨(nat_lit 12), [.tmp (nat_lit 2)],
 (.seq (.region [
  .ins ⟨(.p .mv), [.const (.slice none (nat_lit 0) (nat_lit 0) (nat_lit 0))], (some (nat_lit 2)), none⟩])
 (.seq (.region [
  .ins ⟨(.p .mv), [.tmp (nat_lit 0)], (some (nat_lit 4)), none⟩,
  .ins ⟨(.p .nilck), [.tmp (nat_lit 4)], (some (nat_lit 5)), none⟩,
  .ins ⟨(.p (.fieldAddr (nat_lit 22))), [.tmp (nat_lit 5)], (some (nat_lit 6)), none⟩,
  .ins ⟨(.r (.load false (nat_lit 1))), [.tmp (nat_lit 6)], (some (nat_lit 7)), none⟩,
  .ins ⟨(.p .mv), [.tmp (nat_lit 7)], (some (nat_lit 3)), none⟩])
 (.seq (.region [
  .ins ⟨(.p .mv), [.tmp (nat_lit 0)], (some (nat_lit 8)), none⟩,
  .ins ⟨(.p .nilck), [.tmp (nat_lit 8)], (some (nat_lit 9)), none⟩,
  .ins ⟨(.p (.fieldAddr (nat_lit 22))), [.tmp (nat_lit 9)], (some (nat_lit 10)), none⟩,
  .ins ⟨(.l (.store (nat_lit 1))), [.tmp (nat_lit 10), .const (.slice none (nat_lit 0) (nat_lit 0) (nat_lit 0))], none, none⟩])
 (.seq (.region [
  .ins ⟨(.p .mv), [.tmp (nat_lit 3)], (some (nat_lit 11)), none⟩,
  .ins ⟨(.p .mv), [.tmp (nat_lit 11)], (some (nat_lit 2)), none⟩])
 .ret))))⟩

def c42 : Code' := .fn ⟨(nat_lit 60), [],
 (.seq (.seq (.region [
  .ins ⟨(.p .mv), [.tmp (nat_lit 0)], (some (nat_lit 6)), none⟩,
  .ins ⟨(.p .nilck), [.tmp (nat_lit 6)], (some (nat_lit 7)), none⟩,
  .ins ⟨(.p (.fieldAddr (nat_lit 17))), [.tmp (nat_lit 7)], (some (nat_lit 8)), none⟩,
  .ins ⟨(.r (.load false (nat_lit 1))), [.tmp (nat_lit 8)], (some (nat_lit 9)), none⟩,
  .ins ⟨(.p (.bini .neq)), [.tmp (nat_lit 9), .const (.int .i64 (.ofNat (nat_lit 0)))], (some (nat_lit 10)), none⟩])
 (.cond (.tmp (nat_lit 10)) .ret
 .skip))
 (.seq (.region [
  .ins ⟨(.p .mv), [.tmp (nat_lit 0)], (some (nat_lit 11)), none⟩,
  .ins ⟨(.p .mv), [.tmp (nat_lit 1)], (some (nat_lit 12)), none⟩,
  .ins ⟨(.p .nilck), [.tmp (nat_lit 11)], (some (nat_lit 13)), none⟩,
  .ins ⟨(.p (.fieldAddr (nat_lit 17))), [.tmp (nat_lit 13)], (some (nat_lit 14)), none⟩,
  .ins ⟨(.l (.store (nat_lit 1))), [.tmp (nat_lit 14), .tmp (nat_lit 12)], none, none⟩])
 (.seq (.region [
  .ins ⟨(.p .mv), [.tmp (nat_lit 0)], (some (nat_lit 15)), none⟩,
  .ins ⟨(.p .nilck), [.tmp (nat_lit 15)], (some (nat_lit 16)), none⟩,
  .ins ⟨(.p (.fieldAddr (nat_lit 13))), [.tmp (nat_lit 16)], (some (nat_lit 17)), none⟩,
  .ins ⟨(.r (.load false (nat_lit 1))), [.tmp (nat_lit 17)], (some (nat_lit 18)), none⟩,
  .ins ⟨(.c .value), [.const (.func (.func (nat_lit 98)) [] []), .tmp (nat_lit 18)], (some (nat_lit 19)), none⟩])
 (.seq (.seq (.region [
  .ins ⟨(.p .mv), [.const (.int .i64 (.ofNat (nat_lit 1)))], (some (nat_lit 4)), none⟩])
 (.block (nat_lit 0) (.loop (.seq (.seq (.region [
  .ins ⟨(.p .mv), [.tmp (nat_lit 4)], (some (nat_lit 20)), none⟩,
  .ins ⟨(.p (.bini .leq)), [.tmp (nat_lit 20), .const (.int .i64 (.ofNat (nat_lit 5)))], (some (nat_lit 21)), none⟩])
 (.cond (.tmp (nat_lit 21)) .skip
 (.exit (nat_lit 0))))
 (.seq (.block (nat_lit 1) (.region [
  .ins ⟨(.p .mv), [.tmp (nat_lit 0)], (some (nat_lit 24)), none⟩,
  .ins ⟨(.p .nilck), [.tmp (nat_lit 24)], (some (nat_lit 25)), none⟩,
  .ins ⟨(.p (.fieldAddr (nat_lit 15))), [.tmp (nat_lit 25)], (some (nat_lit 26)), none⟩,
  .ins ⟨(.r (.load false (nat_lit 1))), [.tmp (nat_lit 26)], (some (nat_lit 27)), none⟩,
  .ins ⟨(.p .mv), [.tmp (nat_lit 4)], (some (nat_lit 28)), none⟩,
  .ins ⟨(.c .value), [.const (.func (.func (nat_lit 91)) [] []), .tmp (nat_lit 27), .tmp (nat_lit 28)], (some (nat_lit 29)), none⟩]))
 (.region [
  .ins ⟨(.p .mv), [.tmp (nat_lit 4)], (some (nat_lit 22)), none⟩,
  .ins ⟨(.p (.bini .add)), [.tmp (nat_lit 22), .const (.int .i64 (.ofNat (nat_lit 1)))], (some (nat_lit 23)), none⟩,
  .ins ⟨(.p .mv), [.tmp (nat_lit 23)], (some (nat_lit 4)), none⟩]))))))
 (.seq (.seq (.region [
  .ins ⟨(.p .mv), [.tmp (nat_lit 0)], (some (nat_lit 30)), none⟩,
  .ins ⟨(.p .nilck), [.tmp (nat_lit 30)], (some (nat_lit 31)), none⟩,
  .ins ⟨(.p (.fieldAddr (nat_lit 21))), [.tmp (nat_lit 31)], (some (nat_lit 32)), none⟩,
  .ins ⟨(.r (.load false (nat_lit 1))), [.tmp (nat_lit 32)], (some (nat_lit 33)), none⟩,
  .ins ⟨(.p .lenSl), [.tmp (nat_lit 33)], (some (nat_lit 34)), none⟩,
  .ins ⟨(.p .mv), [.const (.int .i64 (.ofNat (nat_lit 0)))], (some (nat_lit 35)), none⟩])
 (.block (nat_lit 2) (.loop (.seq (.region [
  .ins ⟨(.p (.bini .lss)), [.tmp (nat_lit 35), .tmp (nat_lit 34)], (some (nat_lit 36)), none⟩])
 (.seq (.cond (.tmp (nat_lit 36)) .skip
 (.exit (nat_lit 2)))
 (.seq (.block (nat_lit 3) (.seq (.region [
  .ins ⟨(.p .mv), [.tmp (nat_lit 35)], (some (nat_lit 37)), none⟩,
  .ins ⟨(.p .mv), [.tmp (nat_lit 37)], (some (nat_lit 5)), none⟩])
 (.seq (.region [
  .ins ⟨(.p .mv), [.tmp (nat_lit 0)], (some (nat_lit 38)), none⟩,
  .ins ⟨(.p .nilck), [.tmp (nat_lit 38)], (some (nat_lit 39)), none⟩,
  .ins ⟨(.p (.fieldAddr (nat_lit 21))), [.tmp (nat_lit 39)], (some (nat_lit 40)), none⟩,
  .ins ⟨(.r (.load false (nat_lit 1))), [.tmp (nat_lit 40)], (some (nat_lit 41)), none⟩,
  .ins ⟨(.p .mv), [.tmp (nat_lit 5)], (some (nat_lit 42)), none⟩,
  .ins ⟨(.p (.indexAddr (nat_lit 2))), [.tmp (nat_lit 41), .tmp (nat_lit 42)], (some (nat_lit 43)), none⟩,
  .ins ⟨(.p (.fieldAddr (nat_lit 1))), [.tmp (nat_lit 43)], (some (nat_lit 44)), none⟩,
  .ins ⟨(.r (.load false (nat_lit 1))), [.tmp (nat_lit 44)], (some (nat_lit 45)), none⟩,
  .ins ⟨(.p (.bini .eql)), [.tmp (nat_lit 45), .const (.int .i64 (.ofNat (nat_lit 1)))], (some (nat_lit 46)), none⟩])
 (.cond (.tmp (nat_lit 46)) (.region [
  .ins ⟨(.p .mv), [.tmp (nat_lit 0)], (some (nat_lit 47)), none⟩,
  .ins ⟨(.p .mv), [.tmp (nat_lit 0)], (some (nat_lit 48)), none⟩,
  .ins ⟨(.p .nilck), [.tmp (nat_lit 48)], (some (nat_lit 49)), none⟩,
  .ins ⟨(.p (.fieldAddr (nat_lit 21))), [.tmp (nat_lit 49)], (some (nat_lit 50)), none⟩,
  .ins ⟨(.r (.load false (nat_lit 1))), [.tmp (nat_lit 50)], (some (nat_lit 51)), none⟩,
  .ins ⟨(.p .mv), [.tmp (nat_lit 5)], (some (nat_lit 52)), none⟩,
  .ins ⟨(.p (.indexAddr (nat_lit 2))), [.tmp (nat_lit 51), .tmp (nat_lit 52)], (some (nat_lit 53)), none⟩,
  .ins ⟨(.c .value), [.const (.func (.func (nat_lit 57)) [] []), .tmp (nat_lit 47), .tmp (nat_lit 53), .const (.int .i64 (.ofNat (nat_lit 6)))], (some (nat_lit 54)), none⟩])
 .skip))))
 (.region [
  .ins ⟨(.p (.bini .add)), [.tmp (nat_lit 35), .const (.int .i64 (.ofNat (nat_lit 1)))], (some (nat_lit 55)), none⟩,
  .ins ⟨(.p .mv), [.tmp (nat_lit 55)], (some (nat_lit 35)), none⟩])))))))
 (.region [
  .ins ⟨(.p .mv), [.tmp (nat_lit 0)], (some (nat_lit 56)), none⟩,
  .ins ⟨(.p .mv), [.tmp (nat_lit 1)], (some (nat_lit 57)), none⟩,
  .ins ⟨(.p (.build [(.int .i64 (.ofNat (nat_lit 0))), (.int .i64 (.ofNat (nat_lit 0))), (.slice none (nat_lit 0) (nat_lit 0) (nat_lit 0)), (.slice none (nat_lit 0) (nat_lit 0) (nat_lit 0)), (.bool false), (.int .i64 (.ofNat (nat_lit 0))), (.int .i64 (.ofNat (nat_lit 0)))] [((nat_lit 0), (nat_lit 1)), ((nat_lit 5), (nat_lit 1))])), [.const (.int .i64 (.ofNat (nat_lit 14))), .tmp (nat_lit 57)], (some (nat_lit 58)), none⟩,
  .ins ⟨(.c .value), [.const (.func (.func (nat_lit 93)) [] []), .tmp (nat_lit 56), .tmp (nat_lit 58)], (some (nat_lit 59)), none⟩]))))))⟩

def c43 : Code' := .fn ⟨(nat_lit 6), [.tmp (nat_lit 4)],
 (.seq (.region [
  .ins ⟨(.a .box), [.tmp (nat_lit 0)], (some (nat_lit 2)), none⟩,
  .ins ⟨(.a .box), [.tmp (nat_lit 1)], (some (nat_lit 3)), none⟩,
  .ins ⟨(.p .mv), [.const .nilFunc], (some (nat_lit 4)), none⟩])
 (.seq (.region [
  .ins ⟨(.p (.mkfunc (.func (nat_lit 99)) (nat_lit 0))), [.tmp (nat_lit 2), .tmp (nat_lit 3)], (some (nat_lit 5)), none⟩,
  .ins ⟨(.p .mv), [.tmp (nat_lit 5)], (some (nat_lit 4)), none⟩])
 .ret))⟩

def c44 : Code' := .fn ⟨(nat_lit 64), [],
 (.seq (.region [
  .ins ⟨(.p .mv), [.tmp (nat_lit 1)], (some (nat_lit 4)), none⟩])
 (.block (nat_lit 0) (.seq (.region [
  .ins ⟨(.p (.bini .eql)), [.tmp (nat_lit 4), .const (.int .i64 (.ofNat (nat_lit 1)))], (some (nat_lit 6)), none⟩,
  .ins ⟨(.p .mv), [.tmp (nat_lit 6)], (some (nat_lit 5)), none⟩])
 (.cond (.tmp (nat_lit 5)) (.seq (.region [
  .ins ⟨(.p .mv), [.tmp (nat_lit 0)], (some (nat_lit 7)), none⟩,
  .ins ⟨(.p .nilck), [.tmp (nat_lit 7)], (some (nat_lit 8)), none⟩,
  .ins ⟨(.p (.fieldAddr (nat_lit 13))), [.tmp (nat_lit 8)], (some (nat_lit 9)), none⟩,
  .ins ⟨(.r (.load false (nat_lit 1))), [.tmp (nat_lit 9)], (some (nat_lit 10)), none⟩,
  .ins ⟨(.c .value), [.const (.func (.func (nat_lit 101)) [] []), .tmp (nat_lit 10), .const (.int .i64 (.ofNat (nat_lit 4)))], (some (nat_lit 11)), none⟩])
 (.seq (.region [
  .ins ⟨(.p .mv), [.tmp (nat_lit 0)], (some (nat_lit 12)), none⟩,
  .ins ⟨(.p (.build [(.int .i64 (.ofNat (nat_lit 0))), (.int .i64 (.ofNat (nat_lit 0))), (.slice none (nat_lit 0) (nat_lit 0) (nat_lit 0)), (.slice none (nat_lit 0) (nat_lit 0) (nat_lit 0)), (.bool false), (.int .i64 (.ofNat (nat_lit 0))), (.int .i64 (.ofNat (nat_lit 0)))] [((nat_lit 0), (nat_lit 1)), ((nat_lit 5), (nat_lit 1))])), [.const (.int .i64 (.ofNat (nat_lit 12))), .const (.int .i64 (.ofNat (nat_lit 4)))], (some (nat_lit 13)), none⟩,
  .ins ⟨(.c .value), [.const (.func (.func (nat_lit 93)) [] []), .tmp (nat_lit 12), .tmp (nat_lit 13)], (some (nat_lit 14)), none⟩])
 (.region [
  .ins ⟨(.p .mv), [.tmp (nat_lit 0)], (some (nat_lit 15)), none⟩,
  .ins ⟨(.c .value), [.const (.func (.func (nat_lit 42)) [] []), .tmp (nat_lit 15), .const (.int .i64 (.ofNat (nat_lit 2)))], (some (nat_lit 16)), none⟩])))
 (.seq (.region [
  .ins ⟨(.p (.bini .eql)), [.tmp (nat_lit 4), .const (.int .i64 (.ofNat (nat_lit 2)))], (some (nat_lit 18)), none⟩,
  .ins ⟨(.p .mv), [.tmp (nat_lit 18)], (some (nat_lit 17)), none⟩])
 (.cond (.tmp (nat_lit 17)) (.seq (.seq (.region [
  .ins ⟨(.p .mv), [.tmp (nat_lit 0)], (some (nat_lit 19)), none⟩,
  .ins ⟨(.p .nilck), [.tmp (nat_lit 19)], (some (nat_lit 20)), none⟩,
  .ins ⟨(.p (.fieldAddr (nat_lit 16))), [.tmp (nat_lit 20)], (some (nat_lit 21)), none⟩,
  .ins ⟨(.r (.load false (nat_lit 1))), [.tmp (nat_lit 21)], (some (nat_lit 22)), none⟩])
 (.cond (.tmp (nat_lit 22)) (.region [
  .ins ⟨(.p .mv), [.tmp (nat_lit 0)], (some (nat_lit 23)), none⟩,
  .ins ⟨(.p .nilck), [.tmp (nat_lit 23)], (some (nat_lit 24)), none⟩,
  .ins ⟨(.p (.fieldAddr (nat_lit 13))), [.tmp (nat_lit 24)], (some (nat_lit 25)), none⟩,
  .ins ⟨(.r (.load false (nat_lit 1))), [.tmp (nat_lit 25)], (some (nat_lit 26)), none⟩,
  .ins ⟨(.p .mv), [.tmp (nat_lit 0)], (some (nat_lit 27)), none⟩,
  .ins ⟨(.p .nilck), [.tmp (nat_lit 27)], (some (nat_lit 28)), none⟩,
  .ins ⟨(.p (.fieldAddr (nat_lit 13))), [.tmp (nat_lit 28)], (some (nat_lit 29)), none⟩,
  .ins ⟨(.r (.load false (nat_lit 1))), [.tmp (nat_lit 29)], (some (nat_lit 30)), none⟩,
  .ins ⟨(.c .value), [.const (.func (.func (nat_lit 64)) [] []), .tmp (nat_lit 30)], (some (nat_lit 31)), none⟩,
  .again ⟨(.r (.load false (nat_lit 1))), [.tmp (nat_lit 25)], (some (nat_lit 26)), none⟩,
  .ins ⟨(.c .value), [.const (.func (.func (nat_lit 102)) [] []), .tmp (nat_lit 26), .tmp (nat_lit 31), .const (.int .i64 (.ofNat (nat_lit 0)))], (some (nat_lit 32)), none⟩])
 .skip))
 (.region [
  .ins ⟨(.p .mv), [.tmp (nat_lit 0)], (some (nat_lit 33)), none⟩,
  .ins ⟨(.c .value), [.const (.func (.func (nat_lit 42)) [] []), .tmp (nat_lit 33), .const (.int .i64 (.ofNat (nat_lit 4)))], (some (nat_lit 34)), none⟩]))
 (.seq (.region [
  .ins ⟨(.p (.bini .eql)), [.tmp (nat_lit 4), .const (.int .i64 (.ofNat (nat_lit 3)))], (some (nat_lit 36)), none⟩,
  .ins ⟨(.p .mv), [.tmp (nat_lit 36)], (some (nat_lit 35)), none⟩])
 (.cond (.tmp (nat_lit 35)) (.seq (.region [
  .ins ⟨(.p .mv), [.tmp (nat_lit 0)], (some (nat_lit 37)), none⟩,
  .ins ⟨(.p .nilck), [.tmp (nat_lit 37)], (some (nat_lit 38)), none⟩,
  .ins ⟨(.p (.fieldAddr (nat_lit 13))), [.tmp (nat_lit 38)], (some (nat_lit 39)), none⟩,
  .ins ⟨(.r (.load false (nat_lit 1))), [.tmp (nat_lit 39)], (some (nat_lit 40)), none⟩,
  .ins ⟨(.a (.buildSlice [(.int .u8 (.ofNat (nat_lit 0))), (.int .u8 (.ofNat (nat_lit 0))), (.int .u8 (.ofNat (nat_lit 0))), (.int .u8 (.ofNat (nat_lit 0))), (.int .u8 (.ofNat (nat_lit 0))), (.int .u8 (.ofNat (nat_lit 0))), (.int .u8 (.ofNat (nat_lit 0))), (.int .u8 (.ofNat (nat_lit 0)))] (nat_lit 8) [((nat_lit 0), (nat_lit 1)), ((nat_lit 1), (nat_lit 1)), ((nat_lit 2), (nat_lit 1)), ((nat_lit 3), (nat_lit 1)), ((nat_lit 4), (nat_lit 1)), ((nat_lit 5), (nat_lit 1)), ((nat_lit 6), (nat_lit 1)), ((nat_lit 7), (nat_lit 1))])), [.const (.int .u8 (.ofNat (nat_lit 107))), .const (.int .u8 (.ofNat (nat_lit 101))), .const (.int .u8 (.ofNat (nat_lit 101))), .const (.int .u8 (.ofNat (nat_lit 112))), .const (.int .u8 (.ofNat (nat_lit 97))), .const (.int .u8 (.ofNat (nat_lit 108))), .const (.int .u8 (.ofNat (nat_lit 105))), .const (.int .u8 (.ofNat (nat_lit 118)))], (some (nat_lit 41)), none⟩,
  .ins ⟨(.l .mark), [.tmp (nat_lit 41)], (some (nat_lit 42)), none⟩,
  .ins ⟨(.c .value), [.const (.func (.func (nat_lit 103)) [] []), .tmp (nat_lit 40), .tmp (nat_lit 42)], (some (nat_lit 43)), none⟩])
 (.region [
  .ins ⟨(.p .mv), [.tmp (nat_lit 0)], (some (nat_lit 44)), none⟩,
  .ins ⟨(.c .value), [.const (.func (.func (nat_lit 60)) [] []), .tmp (nat_lit 44), .const (.int .i64 (.ofNat (nat_lit 4)))], (some (nat_lit 45)), none⟩]))
 (.seq (.region [
  .ins ⟨(.p (.bini .eql)), [.tmp (nat_lit 4), .const (.int .i64 (.ofNat (nat_lit 4)))], (some (nat_lit 47)), none⟩,
  .ins ⟨(.p .mv), [.tmp (nat_lit 47)], (some (nat_lit 46)), none⟩])
 (.cond (.tmp (nat_lit 46)) (.region [
  .ins ⟨(.p .mv), [.tmp (nat_lit 0)], (some (nat_lit 48)), none⟩,
  .ins ⟨(.c .value), [.const (.func (.func (nat_lit 42)) [] []), .tmp (nat_lit 48), .const (.int .i64 (.ofNat (nat_lit 5)))], (some (nat_lit 49)), none⟩])
 (.seq (.region [
  .ins ⟨(.p (.bini .eql)), [.tmp (nat_lit 4), .const (.int .i64 (.ofNat (nat_lit 5)))], (some (nat_lit 51)), none⟩,
  .ins ⟨(.p .mv), [.tmp (nat_lit 51)], (some (nat_lit 50)), none⟩])
 (.cond (.tmp (nat_lit 50)) (.region [
  .ins ⟨(.p .mv), [.tmp (nat_lit 0)], (some (nat_lit 52)), none⟩,
  .ins ⟨(.p .mv), [.tmp (nat_lit 0)], (some (nat_lit 53)), none⟩,
  .ins ⟨(.p .nilck), [.tmp (nat_lit 53)], (some (nat_lit 54)), none⟩,
  .ins ⟨(.p (.fieldAddr (nat_lit 14))), [.tmp (nat_lit 54)], (some (nat_lit 55)), none⟩,
  .ins ⟨(.r (.load false (nat_lit 1))), [.tmp (nat_lit 55)], (some (nat_lit 56)), none⟩,
  .ins ⟨(.p .mv), [.tmp (nat_lit 0)], (some (nat_lit 57)), none⟩,
  .ins ⟨(.p .nilck), [.tmp (nat_lit 57)], (some (nat_lit 58)), none⟩,
  .ins ⟨(.p (.fieldAddr (nat_lit 13))), [.tmp (nat_lit 58)], (some (nat_lit 59)), none⟩,
  .ins ⟨(.r (.load false (nat_lit 1))), [.tmp (nat_lit 59)], (some (nat_lit 60)), none⟩,
  .ins ⟨(.c .value), [.const (.func (.func (nat_lit 64)) [] []), .tmp (nat_lit 60)], (some (nat_lit 61)), none⟩,
  .again ⟨(.r (.load false (nat_lit 1))), [.tmp (nat_lit 55)], (some (nat_lit 56)), none⟩,
  .ins ⟨(.c .value), [.const (.func (.func (nat_lit 104)) [] []), .tmp (nat_lit 56), .tmp (nat_lit 61)], (some (nat_lit 62)), none⟩,
  .ins ⟨(.c .value), [.const (.func (.func (nat_lit 62)) [] []), .tmp (nat_lit 52), .tmp (nat_lit 62)], (some (nat_lit 63)), none⟩])
 .skip))))))))))))⟩

def c45 : Code' := .fn ⟨(nat_lit 8), [.tmp (nat_lit 2)],
 (.seq (.region [
  .ins ⟨(.p .mv), [.const (.slice none (nat_lit 0) (nat_lit 0) (nat_lit 0))], (some (nat_lit 2)), none⟩])
 (.seq (.seq (.region [
  .ins ⟨(.p .mv), [.tmp (nat_lit 0)], (some (nat_lit 3)), none⟩,
  .ins ⟨(.p (.eqnil .sl false)), [.tmp (nat_lit 3), .const (.slice none (nat_lit 0) (nat_lit 0) (nat_lit 0))], (some (nat_lit 4)), none⟩])
 (.cond (.tmp (nat_lit 4)) (.seq (.region [
  .ins ⟨(.p .mv), [.const (.slice none (nat_lit 0) (nat_lit 0) (nat_lit 0))], (some (nat_lit 2)), none⟩])
 .ret)
 .skip))
 (.seq (.region [
  .ins ⟨(.a (.buildSlice [] (nat_lit 0) [])), [], (some (nat_lit 5)), none⟩,
  .ins ⟨(.p .mv), [.tmp (nat_lit 0)], (some (nat_lit 6)), none⟩,
  .ins ⟨(.l (.append [(.int .u8 (.ofNat (nat_lit 0)))] (nat_lit 1) (nat_lit 1))), [.tmp (nat_lit 5), .tmp (nat_lit 6)], (some (nat_lit 7)), none⟩,
  .ins ⟨(.p .mv), [.tmp (nat_lit 7)], (some (nat_lit 2)), none⟩])
 .ret)))⟩

def c46 : Code' := .fn ⟨(nat_lit 36), [.tmp (nat_lit 4)],
 (.seq (.region [
  .ins ⟨(.p .mv), [.const (.slice none (nat_lit 0) (nat_lit 0) (nat_lit 0))], (some (nat_lit 4)), none⟩])
 (.seq (.seq (.region [
  .ins ⟨(.p .mv), [.tmp (nat_lit 0)], (some (nat_lit 6)), none⟩,
  .ins ⟨(.p (.eqnil .ptr false)), [.tmp (nat_lit 6), .const (.ptr none)], (some (nat_lit 7)), none⟩,
  .ins ⟨(.p .mv), [.tmp (nat_lit 7)], (some (nat_lit 8)), none⟩,
  .ins ⟨(.p .mv), [.tmp (nat_lit 1)], (some (nat_lit 9)), (some ((nat_lit 8), false))⟩,
  .ins ⟨(.p (.bini .lss)), [.tmp (nat_lit 9), .const (.int .i64 (.ofNat (nat_lit 1)))], (some (nat_lit 10)), (some ((nat_lit 8), false))⟩,
  .ins ⟨(.p .pick), [.tmp (nat_lit 8), .const (.bool true), .tmp (nat_lit 10)], (some (nat_lit 11)), none⟩])
 (.cond (.tmp (nat_lit 11)) (.seq (.region [
  .ins ⟨(.p .mv), [.const (.slice none (nat_lit 0) (nat_lit 0) (nat_lit 0))], (some (nat_lit 4)), none⟩])
 .ret)
 .skip))
 (.seq (.region [
  .ins ⟨(.p .mv), [.tmp (nat_lit 1)], (some (nat_lit 12)), none⟩,
  .ins ⟨(.p .mv), [.tmp (nat_lit 0)], (some (nat_lit 13)), none⟩,
  .ins ⟨(.p .nilck), [.tmp (nat_lit 13)], (some (nat_lit 14)), none⟩,
  .ins ⟨(.p (.fieldAddr (nat_lit 14))), [.tmp (nat_lit 14)], (some (nat_lit 15)), none⟩,
  .ins ⟨(.r (.load false (nat_lit 1))), [.tmp (nat_lit 15)], (some (nat_lit 16)), none⟩,
  .ins ⟨(.p .lenSl), [.tmp (nat_lit 16)], (some (nat_lit 17)), none⟩,
  .ins ⟨(.p .min), [.tmp (nat_lit 12), .tmp (nat_lit 17)], (some (nat_lit 18)), none⟩,
  .ins ⟨(.p .mv), [.tmp (nat_lit 18)], (some (nat_lit 1)), none⟩])
 (.seq (.region [
  .ins ⟨(.p .mv), [.tmp (nat_lit 0)], (some (nat_lit 19)), none⟩,
  .ins ⟨(.p .nilck), [.tmp (nat_lit 19)], (some (nat_lit 20)), none⟩,
  .ins ⟨(.p (.fieldAddr (nat_lit 14))), [.tmp (nat_lit 20)], (some (nat_lit 21)), none⟩,
  .ins ⟨(.r (.load false (nat_lit 1))), [.tmp (nat_lit 21)], (some (nat_lit 22)), none⟩,
  .ins ⟨(.p .mv), [.tmp (nat_lit 1)], (some (nat_lit 23)), none⟩,
  .ins ⟨(.p (.slice (nat_lit 1) false true)), [.tmp (nat_lit 22), .tmp (nat_lit 23)], (some (nat_lit 24)), none⟩,
  .ins ⟨(.c .value), [.const (.func (.func (nat_lit 45)) [] []), .tmp (nat_lit 24)], (some (nat_lit 25)), none⟩,
  .ins ⟨(.p .mv), [.tmp (nat_lit 25)], (some (nat_lit 5)), none⟩])
 (.seq (.region [
  .ins ⟨(.p .mv), [.tmp (nat_lit 0)], (some (nat_lit 26)), none⟩,
  .ins ⟨(.p .mv), [.tmp (nat_lit 0)], (some (nat_lit 27)), none⟩,
  .ins ⟨(.p .nilck), [.tmp (nat_lit 27)], (some (nat_lit 28)), none⟩,
  .ins ⟨(.p (.fieldAddr (nat_lit 14))), [.tmp (nat_lit 28)], (some (nat_lit 29)), none⟩,
  .ins ⟨(.r (.load false (nat_lit 1))), [.tmp (nat_lit 29)], (some (nat_lit 30)), none⟩,
  .ins ⟨(.p .mv), [.tmp (nat_lit 1)], (some (nat_lit 31)), none⟩,
  .ins ⟨(.c .value), [.const (.func (.func (nat_lit 105)) [] []), .tmp (nat_lit 30), .const (.int .i64 (.ofNat (nat_lit 0))), .tmp (nat_lit 31)], (some (nat_lit 32)), none⟩,
  .ins ⟨(.p .nilck), [.tmp (nat_lit 26)], (some (nat_lit 33)), none⟩,
  .ins ⟨(.p (.fieldAddr (nat_lit 14))), [.tmp (nat_lit 33)], (some (nat_lit 34)), none⟩,
  .ins ⟨(.l (.store (nat_lit 1))), [.tmp (nat_lit 34), .tmp (nat_lit 32)], none, none⟩])
 (.seq (.region [
  .ins ⟨(.p .mv), [.tmp (nat_lit 5)], (some (nat_lit 35)), none⟩,
  .ins ⟨(.p .mv), [.tmp (nat_lit 35)], (some (nat_lit 4)), none⟩])
 .ret))))))⟩

def c47 : Code' := .fn ⟨(nat_lit 12), [.tmp (nat_lit 2)],
 (.seq (.region [
  .ins ⟨(.p .mv), [.const (.int .i64 (.ofNat (nat_lit 0)))], (some (nat_lit 2)), none⟩])
 (.seq (.block (nat_lit 0) (.seq (.region [
  .ins ⟨(.p .mv), [.tmp (nat_lit 0)], (some (nat_lit 4)), none⟩,
  .ins ⟨(.p (.eqnil .ptr false)), [.tmp (nat_lit 4), .const (.ptr none)], (some (nat_lit 5)), none⟩,
  .ins ⟨(.p .mv), [.tmp (nat_lit 5)], (some (nat_lit 3)), none⟩])
 (.cond (.tmp (nat_lit 3)) (.seq (.region [
  .ins ⟨(.p .mv), [.const (.int .i64 (.ofNat (nat_lit 1)))], (some (nat_lit 2)), none⟩])
 .ret)
 (.seq (.region [
  .ins ⟨(.p .mv), [.tmp (nat_lit 0)], (some (nat_lit 7)), none⟩,
  .ins ⟨(.p .nilck), [.tmp (nat_lit 7)], (some (nat_lit 8)), none⟩,
  .ins ⟨(.p (.fieldAddr (nat_lit 17))), [.tmp (nat_lit 8)], (some (nat_lit 9)), none⟩,
  .ins ⟨(.r (.load false (nat_lit 1))), [.tmp (nat_lit 9)], (some (nat_lit 10)), none⟩,
  .ins ⟨(.p (.bini .neq)), [.tmp (nat_lit 10), .const (.int .i64 (.ofNat (nat_lit 0)))], (some (nat_lit 11)), none⟩,
  .ins ⟨(.p .mv), [.tmp (nat_lit 11)], (some (nat_lit 6)), none⟩])
 (.cond (.tmp (nat_lit 6)) (.seq (.region [
  .ins ⟨(.p .mv), [.const (.int .i64 (.ofNat (nat_lit 11)))], (some (nat_lit 2)), none⟩])
 .ret)
 .skip)))))
 (.seq (.region [
  .ins ⟨(.p .mv), [.const (.int .i64 (.ofNat (nat_lit 0)))], (some (nat_lit 2)), none⟩])
 .ret)))⟩

def c48 : Code' := .fn ⟨(nat_lit 86), [.tmp (nat_lit 6), .tmp (nat_lit 7)],
 (.seq (.region [
  .ins ⟨(.p .mv), [.const (.int .i64 (.ofNat (nat_lit 0)))], (some (nat_lit 6)), none⟩,
  .ins ⟨(.p .mv), [.const (.int .i64 (.ofNat (nat_lit 0)))], (some (nat_lit 7)), none⟩])
 (.seq (.seq (.region [
  .ins ⟨(.p .mv), [.tmp (nat_lit 0)], (some (nat_lit 13)), none⟩,
  .ins ⟨(.c .value), [.const (.func (.func (nat_lit 106)) [] []), .tmp (nat_lit 13)], (some (nat_lit 14)), none⟩,
  .ins ⟨(.p .mv), [.tmp (nat_lit 14)], (some (nat_lit 8)), none⟩])
 (.seq (.region [
  .ins ⟨(.p .mv), [.tmp (nat_lit 8)], (some (nat_lit 15)), none⟩,
  .ins ⟨(.p (.bini .neq)), [.tmp (nat_lit 15), .const (.int .i64 (.ofNat (nat_lit 0)))], (some (nat_lit 16)), none⟩])
 (.cond (.tmp (nat_lit 16)) (.seq (.region [
  .ins ⟨(.p .mv), [.tmp (nat_lit 8)], (some (nat_lit 17)), none⟩,
  .ins ⟨(.p .mv), [.const (.int .i64 (.ofNat (nat_lit 0)))], (some (nat_lit 6)), none⟩,
  .ins ⟨(.p .mv), [.tmp (nat_lit 17)], (some (nat_lit 7)), none⟩])
 .ret)
 .skip)))
 (.seq (.seq (.region [
  .ins ⟨(.p .mv), [.tmp (nat_lit 0)], (some (nat_lit 18)), none⟩,
  .ins ⟨(.p .nilck), [.tmp (nat_lit 18)], (some (nat_lit 19)), none⟩,
  .ins ⟨(.p (.fieldAddr (nat_lit 0))), [.tmp (nat_lit 19)], (some (nat_lit 20)), none⟩,
  .ins ⟨(.r (.load false (nat_lit 1))), [.tmp (nat_lit 20)], (some (nat_lit 21)), none⟩,
  .ins ⟨(.p (.bini .neq)), [.tmp (nat_lit 21), .const (.int .i64 (.ofNat (nat_lit 1)))], (some (nat_lit 22)), none⟩,
  .ins ⟨(.p .mv), [.tmp (nat_lit 22)], (some (nat_lit 23)), none⟩,
  .ins ⟨(.p .mv), [.tmp (nat_lit 0)], (some (nat_lit 24)), (some ((nat_lit 23), false))⟩,
  .ins ⟨(.p .nilck), [.tmp (nat_lit 24)], (some (nat_lit 25)), (some ((nat_lit 23), false))⟩,
  .ins ⟨(.p (.fieldAddr (nat_lit 21))), [.tmp (nat_lit 25)], (some (nat_lit 26)), (some ((nat_lit 23), false))⟩,
  .ins ⟨(.r (.load false (nat_lit 1))), [.tmp (nat_lit 26)], (some (nat_lit 27)), (some ((nat_lit 23), false))⟩,
  .ins ⟨(.p (.bini .geq)), [.tmp (nat_lit 27), .const (.int .i64 (.ofNat (nat_lit 0)))], (some (nat_lit 28)), (some ((nat_lit 23), false))⟩,
  .ins ⟨(.p .pick), [.tmp (nat_lit 23), .const (.bool true), .tmp (nat_lit 28)], (some (nat_lit 29)), none⟩,
  .ins ⟨(.p .mv), [.tmp (nat_lit 29)], (some (nat_lit 30)), none⟩,
  .ins ⟨(.p .mv), [.tmp (nat_lit 0)], (some (nat_lit 31)), (some ((nat_lit 30), false))⟩,
  .ins ⟨(.p .nilck), [.tmp (nat_lit 31)], (some (nat_lit 32)), (some ((nat_lit 30), false))⟩,
  .ins ⟨(.p (.fieldAddr (nat_lit 22))), [.tmp (nat_lit 32)], (some (nat_lit 33)), (some ((nat_lit 30), false))⟩,
  .ins ⟨(.r (.load false (nat_lit 1))), [.tmp (nat_lit 33)], (some (nat_lit 34)), (some ((nat_lit 30), false))⟩,
  .ins ⟨(.p (.bini .geq)), [.tmp (nat_lit 34), .const (.int .i64 (.ofNat (nat_lit 0)))], (some (nat_lit 35)), (some ((nat_lit 30), false))⟩,
  .ins ⟨(.p .pick), [.tmp (nat_lit 30), .const (.bool true), .tmp (nat_lit 35)], (some (nat_lit 36)), none⟩])
 (.cond (.tmp (nat_lit 36)) (.seq (.region [
  .ins ⟨(.p .mv), [.const (.int .i64 (.ofNat (nat_lit 0)))], (some (nat_lit 6)), none⟩,
  .ins ⟨(.p .mv), [.const (.int .i64 (.ofNat (nat_lit 8)))], (some (nat_lit 7)), none⟩])
 .ret)
 .skip))
 (.seq (.seq (.region [
  .ins ⟨(.p .mv), [.tmp (nat_lit 1)], (some (nat_lit 37)), none⟩,
  .ins ⟨(.c .value), [.const (.func (.func (nat_lit 107)) [] []), .tmp (nat_lit 37)], (some (nat_lit 38)), none⟩,
  .ins ⟨(.p .mv), [.tmp (nat_lit 38)], (some (nat_lit 9)), none⟩])
 (.seq (.region [
  .ins ⟨(.p .mv), [.tmp (nat_lit 9)], (some (nat_lit 39)), none⟩,
  .ins ⟨(.p (.bini .neq)), [.tmp (nat_lit 39), .const (.int .i64 (.ofNat (nat_lit 0)))], (some (nat_lit 40)), none⟩])
 (.cond (.tmp (nat_lit 40)) (.seq (.region [
  .ins ⟨(.p .mv), [.tmp (nat_lit 9)], (some (nat_lit 41)), none⟩,
  .ins ⟨(.p .mv), [.const (.int .i64 (.ofNat (nat_lit 0)))], (some (nat_lit 6)), none⟩,
  .ins ⟨(.p .mv), [.tmp (nat_lit 41)], (some (nat_lit 7)), none⟩])
 .ret)
 .skip)))
 (.seq (.seq (.region [
  .ins ⟨(.p .mv), [.tmp (nat_lit 0)], (some (nat_lit 42)), none⟩,
  .ins ⟨(.p .mv), [.tmp (nat_lit 1)], (some (nat_lit 43)), none⟩,
  .ins ⟨(.c .value), [.const (.func (.func (nat_lit 108)) [] []), .tmp (nat_lit 42), .tmp (nat_lit 43)], (some (nat_lit 44)), none⟩,
  .ins ⟨(.p .mv), [.tmp (nat_lit 44)], (some (nat_lit 10)), none⟩])
 (.seq (.region [
  .ins ⟨(.p .mv), [.tmp (nat_lit 10)], (some (nat_lit 45)), none⟩,
  .ins ⟨(.p (.bini .neq)), [.tmp (nat_lit 45), .const (.int .i64 (.ofNat (nat_lit 0)))], (some (nat_lit 46)), none⟩])
 (.cond (.tmp (nat_lit 46)) (.seq (.region [
  .ins ⟨(.p .mv), [.tmp (nat_lit 10)], (some (nat_lit 47)), none⟩,
  .ins ⟨(.p .mv), [.const (.int .i64 (.ofNat (nat_lit 0)))], (some (nat_lit 6)), none⟩,
  .ins ⟨(.p .mv), [.tmp (nat_lit 47)], (some (nat_lit 7)), none⟩])
 .ret)
 .skip)))
 (.seq (.seq (.region [
  .ins ⟨(.p .mv), [.tmp (nat_lit 0)], (some (nat_lit 48)), none⟩,
  .ins ⟨(.c .value), [.const (.func (.func (nat_lit 109)) [] []), .tmp (nat_lit 48)], (some (nat_lit 49)), none⟩])
 (.cond (.tmp (nat_lit 49)) (.seq (.region [
  .ins ⟨(.p .mv), [.const (.int .i64 (.ofNat (nat_lit 0)))], (some (nat_lit 6)), none⟩,
  .ins ⟨(.p .mv), [.const (.int .i64 (.ofNat (nat_lit 9)))], (some (nat_lit 7)), none⟩])
 .ret)
 .skip))
 (.seq (.seq (.region [
  .ins ⟨(.p .mv), [.tmp (nat_lit 0)], (some (nat_lit 50)), none⟩,
  .ins ⟨(.p .nilck), [.tmp (nat_lit 50)], (some (nat_lit 51)), none⟩,
  .ins ⟨(.p (.fieldAddr (nat_lit 19))), [.tmp (nat_lit 51)], (some (nat_lit 52)), none⟩,
  .ins ⟨(.r (.load false (nat_lit 1))), [.tmp (nat_lit 52)], (some (nat_lit 53)), none⟩,
  .ins ⟨(.p (.bini .gtr)), [.tmp (nat_lit 53), .const (.int .i64 (.ofNat (nat_lit 2147483647)))], (some (nat_lit 54)), none⟩])
 (.cond (.tmp (nat_lit 54)) (.seq (.region [
  .ins ⟨(.p .mv), [.const (.int .i64 (.ofNat (nat_lit 0)))], (some (nat_lit 6)), none⟩,
  .ins ⟨(.p .mv), [.const (.int .i64 (.ofNat (nat_lit 2)))], (some (nat_lit 7)), none⟩])
 .ret)
 .skip))
 (.seq (.region [
  .ins ⟨(.p .mv), [.tmp (nat_lit 0)], (some (nat_lit 55)), none⟩,
  .ins ⟨(.p .nilck), [.tmp (nat_lit 55)], (some (nat_lit 56)), none⟩,
  .ins ⟨(.p (.fieldAddr (nat_lit 19))), [.tmp (nat_lit 56)], (some (nat_lit 57)), none⟩,
  .ins ⟨(.r (.load false (nat_lit 1))), [.tmp (nat_lit 57)], (some (nat_lit 58)), none⟩,
  .ins ⟨(.p .mv), [.tmp (nat_lit 0)], (some (nat_lit 59)), none⟩,
  .ins ⟨(.c .value), [.const (.func (.func (nat_lit 110)) [] []), .tmp (nat_lit 59)], (some (nat_lit 60)), none⟩,
  .ins ⟨(.p .mv), [.tmp (nat_lit 58)], (some (nat_lit 11)), none⟩,
  .ins ⟨(.p .mv), [.tmp (nat_lit 60)], (some (nat_lit 12)), none⟩,
  .again ⟨(.r (.load false (nat_lit 1))), [.tmp (nat_lit 57)], (some (nat_lit 58)), none⟩])
 (.seq (.region [
  .ins ⟨(.p .mv), [.tmp (nat_lit 0)], (some (nat_lit 61)), none⟩,
  .ins ⟨(.p .nilck), [.tmp (nat_lit 61)], (some (nat_lit 62)), none⟩,
  .ins ⟨(.p (.fieldAddr (nat_lit 19))), [.tmp (nat_lit 62)], (some (nat_lit 63)), none⟩,
  .ins ⟨(.r (.load false (nat_lit 1))), [.tmp (nat_lit 63)], (some (nat_lit 64)), none⟩,
  .ins ⟨(.p (.bini .add)), [.tmp (nat_lit 64), .const (.int .i64 (.ofNat (nat_lit 2)))], (some (nat_lit 65)), none⟩,
  .ins ⟨(.p .nilck), [.tmp (nat_lit 61)], (some (nat_lit 66)), none⟩,
  .ins ⟨(.p (.fieldAddr (nat_lit 19))), [.tmp (nat_lit 66)], (some (nat_lit 67)), none⟩,
  .ins ⟨(.l (.store (nat_lit 1))), [.tmp (nat_lit 67), .tmp (nat_lit 65)], none, none⟩])
 (.seq (.region [
  .ins ⟨(.p .mv), [.tmp (nat_lit 12)], (some (nat_lit 68)), none⟩,
  .ins ⟨(.p .mv), [.tmp (nat_lit 2)], (some (nat_lit 69)), none⟩,
  .ins ⟨(.p .nilck), [.tmp (nat_lit 68)], (some (nat_lit 70)), none⟩,
  .ins ⟨(.p (.fieldAddr (nat_lit 6))), [.tmp (nat_lit 70)], (some (nat_lit 71)), none⟩,
  .ins ⟨(.l (.store (nat_lit 1))), [.tmp (nat_lit 71), .tmp (nat_lit 69)], none, none⟩])
 (.seq (.region [
  .ins ⟨(.p .mv), [.tmp (nat_lit 0)], (some (nat_lit 72)), none⟩,
  .ins ⟨(.p .nilck), [.tmp (nat_lit 72)], (some (nat_lit 73)), none⟩,
  .ins ⟨(.p (.fieldAddr (nat_lit 13))), [.tmp (nat_lit 73)], (some (nat_lit 74)), none⟩,
  .ins ⟨(.r (.load false (nat_lit 1))), [.tmp (nat_lit 74)], (some (nat_lit 75)), none⟩,
  .ins ⟨(.p .mv), [.tmp (nat_lit 11)], (some (nat_lit 76)), none⟩,
  .ins ⟨(.p .mv), [.tmp (nat_lit 12)], (some (nat_lit 77)), none⟩,
  .ins ⟨(.c .value), [.const (.func (.func (nat_lit 111)) [] []), .tmp (nat_lit 75), .tmp (nat_lit 76), .tmp (nat_lit 77)], (some (nat_lit 78)), none⟩])
 (.seq (.region [
  .ins ⟨(.p .mv), [.tmp (nat_lit 0)], (some (nat_lit 79)), none⟩,
  .ins ⟨(.p .mv), [.tmp (nat_lit 11)], (some (nat_lit 80)), none⟩,
  .ins ⟨(.p .mv), [.tmp (nat_lit 12)], (some (nat_lit 81)), none⟩,
  .ins ⟨(.p .mv), [.tmp (nat_lit 1)], (some (nat_lit 82)), none⟩,
  .ins ⟨(.p .mv), [.tmp (nat_lit 2)], (some (nat_lit 83)), none⟩,
  .ins ⟨(.c .value), [.const (.func (.func (nat_lit 112)) [] []), .tmp (nat_lit 79), .tmp (nat_lit 80), .tmp (nat_lit 81), .tmp (nat_lit 82), .tmp (nat_lit 83)], (some (nat_lit 84)), none⟩])
 (.seq (.region [
  .ins ⟨(.p .mv), [.tmp (nat_lit 11)], (some (nat_lit 85)), none⟩,
  .ins ⟨(.p .mv), [.tmp (nat_lit 85)], (some (nat_lit 6)), none⟩,
  .ins ⟨(.p .mv), [.const (.int .i64 (.ofNat (nat_lit 0)))], (some (nat_lit 7)), none⟩])
 .ret)))))))))))))⟩

def c50 : Code' := .fn ⟨(nat_lit 32), [],
 (.seq (.seq (.region [
  .ins ⟨(.p .mv), [.tmp (nat_lit 0)], (some (nat_lit 4)), none⟩,
  .ins ⟨(.p .nilck), [.tmp (nat_lit 4)], (some (nat_lit 5)), none⟩,
  .ins ⟨(.p (.fieldAddr (nat_lit 17))), [.tmp (nat_lit 5)], (some (nat_lit 6)), none⟩,
  .ins ⟨(.r (.load false (nat_lit 1))), [.tmp (nat_lit 6)], (some (nat_lit 7)), none⟩,
  .ins ⟨(.p (.bini .neq)), [.tmp (nat_lit 7), .const (.int .i64 (.ofNat (nat_lit 0)))], (some (nat_lit 8)), none⟩])
 (.cond (.tmp (nat_lit 8)) .ret
 .skip))
 (.seq (.region [
  .ins ⟨(.p .mv), [.tmp (nat_lit 0)], (some (nat_lit 9)), none⟩,
  .ins ⟨(.p .nilck), [.tmp (nat_lit 9)], (some (nat_lit 10)), none⟩,
  .ins ⟨(.p (.fieldAddr (nat_lit 13))), [.tmp (nat_lit 10)], (some (nat_lit 11)), none⟩,
  .ins ⟨(.r (.load false (nat_lit 1))), [.tmp (nat_lit 11)], (some (nat_lit 12)), none⟩,
  .ins ⟨(.c .value), [.const (.func (.func (nat_lit 65)) [] []), .tmp (nat_lit 12)], (some (nat_lit 13)), none⟩,
  .ins ⟨(.p (.bini .gtr)), [.tmp (nat_lit 13), .const (.int .i64 (.ofNat (nat_lit 0)))], (some (nat_lit 14)), none⟩])
 (.cond (.tmp (nat_lit 14)) (.region [
  .ins ⟨(.p .mv), [.tmp (nat_lit 0)], (some (nat_lit 15)), none⟩,
  .ins ⟨(.p .nilck), [.tmp (nat_lit 15)], (some (nat_lit 16)), none⟩,
  .ins ⟨(.p (.fieldAddr (nat_lit 15))), [.tmp (nat_lit 16)], (some (nat_lit 17)), none⟩,
  .ins ⟨(.r (.load false (nat_lit 1))), [.tmp (nat_lit 17)], (some (nat_lit 18)), none⟩,
  .ins ⟨(.c .value), [.const (.func (.func (nat_lit 91)) [] []), .tmp (nat_lit 18), .const (.int .i64 (.ofNat (nat_lit 2)))], (some (nat_lit 19)), none⟩])
 (.seq (.region [
  .ins ⟨(.p .mv), [.tmp (nat_lit 0)], (some (nat_lit 21)), none⟩,
  .ins ⟨(.p .nilck), [.tmp (nat_lit 21)], (some (nat_lit 22)), none⟩,
  .ins ⟨(.p (.fieldAddr (nat_lit 15))), [.tmp (nat_lit 22)], (some (nat_lit 23)), none⟩,
  .ins ⟨(.r (.load false (nat_lit 1))), [.tmp (nat_lit 23)], (some (nat_lit 24)), none⟩,
  .ins ⟨(.c .value), [.const (.func (.func (nat_lit 59)) [] []), .tmp (nat_lit 24), .const (.int .i64 (.ofNat (nat_lit 2)))], (some (nat_lit 25)), none⟩,
  .ins ⟨(.p .mv), [.tmp (nat_lit 25)], (some (nat_lit 20)), none⟩,
  .ins ⟨(.p (.extract (nat_lit 0))), [.tmp (nat_lit 20)], (some (nat_lit 26)), none⟩,
  .ins ⟨(.p (.extract (nat_lit 1))), [.tmp (nat_lit 20)], (some (nat_lit 27)), none⟩,
  .ins ⟨(.p .mv), [.tmp (nat_lit 26)], (some (nat_lit 2)), none⟩,
  .ins ⟨(.p .mv), [.tmp (nat_lit 27)], (some (nat_lit 3)), none⟩])
 (.seq (.region [
  .ins ⟨(.p .mv), [.tmp (nat_lit 3)], (some (nat_lit 28)), none⟩,
  .ins ⟨(.p (.un .not)), [.tmp (nat_lit 28)], (some (nat_lit 29)), none⟩])
 (.cond (.tmp (nat_lit 29)) (.region [
  .ins ⟨(.p .mv), [.tmp (nat_lit 0)], (some (nat_lit 30)), none⟩,
  .ins ⟨(.c .value), [.const (.func (.func (nat_lit 60)) [] []), .tmp (nat_lit 30), .const (.int .i64 (.ofNat (nat_lit 2)))], (some (nat_lit 31)), none⟩])
 .skip))))))⟩

def c51 : Code' := .fn ⟨(nat_lit 16), [.tmp (nat_lit 2)],
 (.seq (.region [
  .ins ⟨(.p .mv), [.const (.int .i64 (.ofNat (nat_lit 0)))], (some (nat_lit 2)), none⟩])
 (.seq (.region [
  .ins ⟨(.p .mv), [.tmp (nat_lit 0)], (some (nat_lit 4)), none⟩,
  .ins ⟨(.c .value), [.const (.func (.func (nat_lit 47)) [] []), .tmp (nat_lit 4)], (some (nat_lit 5)), none⟩,
  .ins ⟨(.p .mv), [.tmp (nat_lit 5)], (some (nat_lit 3)), none⟩])
 (.seq (.seq (.region [
  .ins ⟨(.p .mv), [.tmp (nat_lit 3)], (some (nat_lit 6)), none⟩,
  .ins ⟨(.p (.bini .eql)), [.tmp (nat_lit 6), .const (.int .i64 (.ofNat (nat_lit 0)))], (some (nat_lit 7)), none⟩,
  .ins ⟨(.p .mv), [.tmp (nat_lit 7)], (some (nat_lit 8)), none⟩,
  .ins ⟨(.p .mv), [.tmp (nat_lit 0)], (some (nat_lit 9)), (some ((nat_lit 8), true))⟩,
  .ins ⟨(.p .nilck), [.tmp (nat_lit 9)], (some (nat_lit 10)), (some ((nat_lit 8), true))⟩,
  .ins ⟨(.p (.fieldAddr (nat_lit 16))), [.tmp (nat_lit 10)], (some (nat_lit 11)), (some ((nat_lit 8), true))⟩,
  .ins ⟨(.r (.load false (nat_lit 1))), [.tmp (nat_lit 11)], (some (nat_lit 12)), (some ((nat_lit 8), true))⟩,
  .ins ⟨(.p (.un .not)), [.tmp (nat_lit 12)], (some (nat_lit 13)), (some ((nat_lit 8), true))⟩,
  .ins ⟨(.p .pick), [.tmp (nat_lit 8), .tmp (nat_lit 13), .const (.bool false)], (some (nat_lit 14)), none⟩])
 (.cond (.tmp (nat_lit 14)) (.region [
  .ins ⟨(.p .mv), [.const (.int .i64 (.ofNat (nat_lit 8)))], (some (nat_lit 3)), none⟩])
 .skip))
 (.seq (.region [
  .ins ⟨(.p .mv), [.tmp (nat_lit 3)], (some (nat_lit 15)), none⟩,
  .ins ⟨(.p .mv), [.tmp (nat_lit 15)], (some (nat_lit 2)), none⟩])
 .ret))))⟩

def c54 : Code' := .fn ⟨(nat_lit 21), [],
 (.seq (.region [
  .ins ⟨(.p .mv), [.tmp (nat_lit 0)], (some (nat_lit 2)), none⟩,
  .ins ⟨(.p .mv), [.tmp (nat_lit 0)], (some (nat_lit 3)), none⟩,
  .ins ⟨(.p .nilck), [.tmp (nat_lit 3)], (some (nat_lit 4)), none⟩,
  .ins ⟨(.p (.fieldAddr (nat_lit 14))), [.tmp (nat_lit 4)], (some (nat_lit 5)), none⟩,
  .ins ⟨(.r (.load false (nat_lit 1))), [.tmp (nat_lit 5)], (some (nat_lit 6)), none⟩,
  .ins ⟨(.p .mv), [.tmp (nat_lit 0)], (some (nat_lit 7)), none⟩,
  .ins ⟨(.p .nilck), [.tmp (nat_lit 7)], (some (nat_lit 8)), none⟩,
  .ins ⟨(.p (.fieldAddr (nat_lit 13))), [.tmp (nat_lit 8)], (some (nat_lit 9)), none⟩,
  .ins ⟨(.r (.load false (nat_lit 1))), [.tmp (nat_lit 9)], (some (nat_lit 10)), none⟩,
  .ins ⟨(.p .mv), [.tmp (nat_lit 0)], (some (nat_lit 12)), none⟩,
  .ins ⟨(.p .nilck), [.tmp (nat_lit 12)], (some (nat_lit 13)), none⟩,
  .ins ⟨(.p (.fieldAddr (nat_lit 13))), [.tmp (nat_lit 13)], (some (nat_lit 14)), none⟩,
  .ins ⟨(.r (.load false (nat_lit 1))), [.tmp (nat_lit 14)], (some (nat_lit 15)), none⟩,
  .ins ⟨(.c .value), [.const (.func (.func (nat_lit 64)) [] []), .tmp (nat_lit 10)], (some (nat_lit 11)), none⟩,
  .again ⟨(.r (.load false (nat_lit 1))), [.tmp (nat_lit 5)], (some (nat_lit 6)), none⟩,
  .again ⟨(.r (.load false (nat_lit 1))), [.tmp (nat_lit 14)], (some (nat_lit 15)), none⟩,
  .ins ⟨(.c .value), [.const (.func (.func (nat_lit 65)) [] []), .tmp (nat_lit 15)], (some (nat_lit 16)), none⟩,
  .again ⟨(.r (.load false (nat_lit 1))), [.tmp (nat_lit 5)], (some (nat_lit 6)), none⟩,
  .ins ⟨(.c .value), [.const (.func (.func (nat_lit 97)) [] []), .tmp (nat_lit 6), .tmp (nat_lit 11), .tmp (nat_lit 16)], (some (nat_lit 17)), none⟩,
  .ins ⟨(.c .value), [.const (.func (.func (nat_lit 62)) [] []), .tmp (nat_lit 2), .tmp (nat_lit 17)], (some (nat_lit 18)), none⟩])
 (.region [
  .ins ⟨(.p .mv), [.tmp (nat_lit 0)], (some (nat_lit 19)), none⟩,
  .ins ⟨(.c .value), [.const (.func (.func (nat_lit 50)) [] []), .tmp (nat_lit 19)], (some (nat_lit 20)), none⟩]))⟩

def c55 : Code' := .fn ⟨(nat_lit 32), [.tmp (nat_lit 6)],
 (.seq (.region [
  .ins ⟨(.p .mv), [.const (.int .i64 (.ofNat (nat_lit 0)))], (some (nat_lit 6)), none⟩])
 (.seq (.seq (.region [
  .ins ⟨(.p .mv), [.tmp (nat_lit 0)], (some (nat_lit 10)), none⟩,
  .ins ⟨(.p .mv), [.tmp (nat_lit 1)], (some (nat_lit 11)), none⟩,
  .ins ⟨(.c .value), [.const (.func (.func (nat_lit 115)) [] []), .tmp (nat_lit 10), .tmp (nat_lit 11)], (some (nat_lit 12)), none⟩,
  .ins ⟨(.p .mv), [.tmp (nat_lit 12)], (some (nat_lit 9)), none⟩,
  .ins ⟨(.p (.extract (nat_lit 0))), [.tmp (nat_lit 9)], (some (nat_lit 13)), none⟩,
  .ins ⟨(.p (.extract (nat_lit 1))), [.tmp (nat_lit 9)], (some (nat_lit 14)), none⟩,
  .ins ⟨(.p .mv), [.tmp (nat_lit 13)], (some (nat_lit 7)), none⟩,
  .ins ⟨(.p .mv), [.tmp (nat_lit 14)], (some (nat_lit 8)), none⟩])
 (.seq (.region [
  .ins ⟨(.p .mv), [.tmp (nat_lit 8)], (some (nat_lit 15)), none⟩,
  .ins ⟨(.p (.bini .neq)), [.tmp (nat_lit 15), .const (.int .i64 (.ofNat (nat_lit 0)))], (some (nat_lit 16)), none⟩])
 (.cond (.tmp (nat_lit 16)) (.seq (.region [
  .ins ⟨(.p .mv), [.tmp (nat_lit 8)], (some (nat_lit 17)), none⟩,
  .ins ⟨(.p .mv), [.tmp (nat_lit 17)], (some (nat_lit 6)), none⟩])
 .ret)
 .skip)))
 (.seq (.seq (.region [
  .ins ⟨(.p .mv), [.tmp (nat_lit 2)], (some (nat_lit 18)), none⟩,
  .ins ⟨(.c .value), [.const (.func (.func (nat_lit 117)) [] []), .tmp (nat_lit 18)], (some (nat_lit 19)), none⟩,
  .ins ⟨(.p (.un .not)), [.tmp (nat_lit 19)], (some (nat_lit 20)), none⟩])
 (.cond (.tmp (nat_lit 20)) (.seq (.region [
  .ins ⟨(.p .mv), [.const (.int .i64 (.ofNat (nat_lit 1)))], (some (nat_lit 6)), none⟩])
 .ret)
 .skip))
 (.seq (.region [
  .ins ⟨(.p .mv), [.tmp (nat_lit 0)], (some (nat_lit 21)), none⟩,
  .ins ⟨(.p .mv), [.tmp (nat_lit 1)], (some (nat_lit 22)), none⟩,
  .ins ⟨(.p .mv), [.tmp (nat_lit 2)], (some (nat_lit 23)), none⟩,
  .ins ⟨(.p (.build [(.slice none (nat_lit 0) (nat_lit 0) (nat_lit 0)), (.int .i64 (.ofNat (nat_lit 0))), (.bool false), (.bool false), (.int .i64 (.ofNat (nat_lit 0))), (.int .i64 (.ofNat (nat_lit 0))), (.int .i64 (.ofNat (nat_lit 0))), (.int .i64 (.ofNat (nat_lit 0))), (.int .i64 (.ofNat (nat_lit 0))), (.slice none (nat_lit 0) (nat_lit 0) (nat_lit 0)), (.int .i64 (.ofNat (nat_lit 0)))] [((nat_lit 6), (nat_lit 1))])), [.tmp (nat_lit 23)], (some (nat_lit 24)), none⟩,
  .ins ⟨(.c .value), [.const (.func (.func (nat_lit 118)) [] []), .tmp (nat_lit 21), .const (.int .i64 (.ofNat (nat_lit 3))), .const (.int .i64 (.ofNat (nat_lit 0))), .tmp (nat_lit 22), .tmp (nat_lit 24)], (some (nat_lit 25)), none⟩])
 (.seq (.region [
  .ins ⟨(.p .mv), [.tmp (nat_lit 0)], (some (nat_lit 26)), none⟩,
  .ins ⟨(.p .nilck), [.tmp (nat_lit 26)], (some (nat_lit 27)), none⟩,
  .ins ⟨(.p (.fieldAddr (nat_lit 13))), [.tmp (nat_lit 27)], (some (nat_lit 28)), none⟩,
  .ins ⟨(.r (.load false (nat_lit 1))), [.tmp (nat_lit 28)], (some (nat_lit 29)), none⟩,
  .ins ⟨(.p .mv), [.tmp (nat_lit 1)], (some (nat_lit 30)), none⟩,
  .ins ⟨(.c .value), [.const (.func (.func (nat_lit 119)) [] []), .tmp (nat_lit 29), .tmp (nat_lit 30), .const (.int .i64 (.ofNat (nat_lit 3)))], (some (nat_lit 31)), none⟩,
  .ins ⟨(.p .mv), [.tmp (nat_lit 31)], (some (nat_lit 6)), none⟩])
 .ret)))))⟩

def c56 : Code' := .fn ⟨(nat_lit 36), [.tmp (nat_lit 4)],
 (.seq (.region [
  .ins ⟨(.p .mv), [.const (.ptr none)], (some (nat_lit 4)), none⟩])
 (.seq (.seq (.region [
  .ins ⟨(.p .mv), [.tmp (nat_lit 0)], (some (nat_lit 7)), none⟩,
  .ins ⟨(.p .nilck), [.tmp (nat_lit 7)], (some (nat_lit 8)), none⟩,
  .ins ⟨(.p (.fieldAddr (nat_lit 21))), [.tmp (nat_lit 8)], (some (nat_lit 9)), none⟩,
  .ins ⟨(.r (.load false (nat_lit 1))), [.tmp (nat_lit 9)], (some (nat_lit 10)), none⟩,
  .ins ⟨(.p .lenSl), [.tmp (nat_lit 10)], (some (nat_lit 11)), none⟩,
  .ins ⟨(.p .mv), [.const (.int .i64 (.ofNat (nat_lit 0)))], (some (nat_lit 12)), none⟩])
 (.block (nat_lit 0) (.loop (.seq (.region [
  .ins ⟨(.p (.bini .lss)), [.tmp (nat_lit 12), .tmp (nat_lit 11)], (some (nat_lit 13)), none⟩])
 (.seq (.cond (.tmp (nat_lit 13)) .skip
 (.exit (nat_lit 0)))
 (.seq (.block (nat_lit 1) (.seq (.region [
  .ins ⟨(.p .mv), [.tmp (nat_lit 12)], (some (nat_lit 14)), none⟩,
  .ins ⟨(.p .mv), [.tmp (nat_lit 14)], (some (nat_lit 5)), none⟩])
 (.seq (.region [
  .ins ⟨(.p .mv), [.tmp (nat_lit 0)], (some (nat_lit 15)), none⟩,
  .ins ⟨(.p .nilck), [.tmp (nat_lit 15)], (some (nat_lit 16)), none⟩,
  .ins ⟨(.p (.fieldAddr (nat_lit 21))), [.tmp (nat_lit 16)], (some (nat_lit 17)), none⟩,
  .ins ⟨(.r (.load false (nat_lit 1))), [.tmp (nat_lit 17)], (some (nat_lit 18)), none⟩,
  .ins ⟨(.p .mv), [.tmp (nat_lit 5)], (some (nat_lit 19)), none⟩,
  .ins ⟨(.p (.indexAddr (nat_lit 2))), [.tmp (nat_lit 18), .tmp (nat_lit 19)], (some (nat_lit 20)), none⟩,
  .ins ⟨(.p .mv), [.tmp (nat_lit 20)], (some (nat_lit 6)), none⟩])
 (.seq (.region [
  .ins ⟨(.p .mv), [.tmp (nat_lit 6)], (some (nat_lit 21)), none⟩,
  .ins ⟨(.p .nilck), [.tmp (nat_lit 21)], (some (nat_lit 22)), none⟩,
  .ins ⟨(.p (.fieldAddr (nat_lit 0))), [.tmp (nat_lit 22)], (some (nat_lit 23)), none⟩,
  .ins ⟨(.r (.load false (nat_lit 1))), [.tmp (nat_lit 23)], (some (nat_lit 24)), none⟩,
  .ins ⟨(.p .mv), [.tmp (nat_lit 1)], (some (nat_lit 25)), none⟩,
  .ins ⟨(.p (.bini .eql)), [.tmp (nat_lit 24), .tmp (nat_lit 25)], (some (nat_lit 26)), none⟩,
  .ins ⟨(.p .mv), [.tmp (nat_lit 26)], (some (nat_lit 27)), none⟩,
  .ins ⟨(.p .mv), [.tmp (nat_lit 6)], (some (nat_lit 28)), (some ((nat_lit 27), true))⟩,
  .ins ⟨(.p .nilck), [.tmp (nat_lit 28)], (some (nat_lit 29)), (some ((nat_lit 27), true))⟩,
  .ins ⟨(.p (.fieldAddr (nat_lit 1))), [.tmp (nat_lit 29)], (some (nat_lit 30)), (some ((nat_lit 27), true))⟩,
  .ins ⟨(.r (.load false (nat_lit 1))), [.tmp (nat_lit 30)], (some (nat_lit 31)), (some ((nat_lit 27), true))⟩,
  .ins ⟨(.p (.bini .eql)), [.tmp (nat_lit 31), .const (.int .i64 (.ofNat (nat_lit 1)))], (some (nat_lit 32)), (some ((nat_lit 27), true))⟩,
  .ins ⟨(.p .pick), [.tmp (nat_lit 27), .tmp (nat_lit 32), .const (.bool false)], (some (nat_lit 33)), none⟩])
 (.cond (.tmp (nat_lit 33)) (.seq (.region [
  .ins ⟨(.p .mv), [.tmp (nat_lit 6)], (some (nat_lit 34)), none⟩,
  .ins ⟨(.p .mv), [.tmp (nat_lit 34)], (some (nat_lit 4)), none⟩])
 .ret)
 .skip)))))
 (.region [
  .ins ⟨(.p (.bini .add)), [.tmp (nat_lit 12), .const (.int .i64 (.ofNat (nat_lit 1)))], (some (nat_lit 35)), none⟩,
  .ins ⟨(.p .mv), [.tmp (nat_lit 35)], (some (nat_lit 12)), none⟩])))))))
 (.seq (.region [
  .ins ⟨(.p .mv), [.const (.ptr none)], (some (nat_lit 4)), none⟩])
 .ret)))⟩

def c57 : Code' := .fn ⟨(nat_lit 18), [],
 (.seq (.region [
  .ins ⟨(.p .mv), [.tmp (nat_lit 1)], (some (nat_lit 6)), none⟩,
  .ins ⟨(.p .mv), [.tmp (nat_lit 2)], (some (nat_lit 7)), none⟩,
  .ins ⟨(.p .nilck), [.tmp (nat_lit 6)], (some (nat_lit 8)), none⟩,
  .ins ⟨(.p (.fieldAddr (nat_lit 1))), [.tmp (nat_lit 8)], (some (nat_lit 9)), none⟩,
  .ins ⟨(.l (.store (nat_lit 1))), [.tmp (nat_lit 9), .tmp (nat_lit 7)], none, none⟩])
 (.region [
  .ins ⟨(.p .mv), [.tmp (nat_lit 0)], (some (nat_lit 10)), none⟩,
  .ins ⟨(.p .mv), [.tmp (nat_lit 1)], (some (nat_lit 11)), none⟩,
  .ins ⟨(.p .nilck), [.tmp (nat_lit 11)], (some (nat_lit 12)), none⟩,
  .ins ⟨(.p (.fieldAddr (nat_lit 0))), [.tmp (nat_lit 12)], (some (nat_lit 13)), none⟩,
  .ins ⟨(.r (.load false (nat_lit 1))), [.tmp (nat_lit 13)], (some (nat_lit 14)), none⟩,
  .ins ⟨(.p .mv), [.tmp (nat_lit 2)], (some (nat_lit 15)), none⟩,
  .ins ⟨(.p (.build [(.int .i64 (.ofNat (nat_lit 0))), (.int .i64 (.ofNat (nat_lit 0))), (.slice none (nat_lit 0) (nat_lit 0) (nat_lit 0)), (.slice none (nat_lit 0) (nat_lit 0) (nat_lit 0)), (.bool false), (.int .i64 (.ofNat (nat_lit 0))), (.int .i64 (.ofNat (nat_lit 0)))] [((nat_lit 0), (nat_lit 1)), ((nat_lit 1), (nat_lit 1)), ((nat_lit 5), (nat_lit 1))])), [.const (.int .i64 (.ofNat (nat_lit 13))), .tmp (nat_lit 14), .tmp (nat_lit 15)], (some (nat_lit 16)), none⟩,
  .ins ⟨(.c .value), [.const (.func (.func (nat_lit 93)) [] []), .tmp (nat_lit 10), .tmp (nat_lit 16)], (some (nat_lit 17)), none⟩]))⟩

def c59 : Code' := .fn ⟨(nat_lit 27), [.tmp (nat_lit 4), .tmp (nat_lit 5)],
 (.seq (.region [
  .ins ⟨(.p .mv), [.const (.int .i64 (.ofNat (nat_lit 0)))], (some (nat_lit 4)), none⟩,
  .ins ⟨(.p .mv), [.const (.bool false)], (some (nat_lit 5)), none⟩])
 (.seq (.seq (.region [
  .ins ⟨(.p .mv), [.tmp (nat_lit 0)], (some (nat_lit 6)), none⟩,
  .ins ⟨(.p (.eqnil .ptr false)), [.tmp (nat_lit 6), .const (.ptr none)], (some (nat_lit 7)), none⟩,
  .ins ⟨(.p .mv), [.tmp (nat_lit 7)], (some (nat_lit 8)), none⟩,
  .ins ⟨(.p .mv), [.tmp (nat_lit 1)], (some (nat_lit 9)), (some ((nat_lit 8), false))⟩,
  .ins ⟨(.c .value), [.const (.func (.func (nat_lit 121)) [] []), .tmp (nat_lit 9)], (some (nat_lit 10)), (some ((nat_lit 8), false))⟩,
  .ins ⟨(.p (.un .not)), [.tmp (nat_lit 10)], (some (nat_lit 11)), (some ((nat_lit 8), false))⟩,
  .ins ⟨(.p .pick), [.tmp (nat_lit 8), .const (.bool true), .tmp (nat_lit 11)], (some (nat_lit 12)), none⟩])
 (.cond (.tmp (nat_lit 12)) (.seq (.region [
  .ins ⟨(.p .mv), [.const (.int .i64 (.ofNat (nat_lit 0)))], (some (nat_lit 4)), none⟩,
  .ins ⟨(.p .mv), [.const (.bool false)], (some (nat_lit 5)), none⟩])
 .ret)
 .skip))
 (.seq (.region [
  .ins ⟨(.p .mv), [.tmp (nat_lit 0)], (some (nat_lit 13)), none⟩,
  .ins ⟨(.p .mv), [.tmp (nat_lit 1)], (some (nat_lit 14)), none⟩,
  .ins ⟨(.p .nilck), [.tmp (nat_lit 13)], (some (nat_lit 15)), none⟩,
  .ins ⟨(.p (.fieldAddr (nat_lit 0))), [.tmp (nat_lit 15)], (some (nat_lit 16)), none⟩,
  .ins ⟨(.p (.indexAddrArr (nat_lit 6) (nat_lit 2))), [.tmp (nat_lit 16), .tmp (nat_lit 14)], (some (nat_lit 17)), none⟩,
  .ins ⟨(.p (.fieldAddr (nat_lit 0))), [.tmp (nat_lit 17)], (some (nat_lit 18)), none⟩,
  .ins ⟨(.r (.load false (nat_lit 1))), [.tmp (nat_lit 18)], (some (nat_lit 19)), none⟩,
  .ins ⟨(.p .mv), [.tmp (nat_lit 0)], (some (nat_lit 20)), none⟩,
  .ins ⟨(.p .mv), [.tmp (nat_lit 1)], (some (nat_lit 21)), none⟩,
  .ins ⟨(.p .nilck), [.tmp (nat_lit 20)], (some (nat_lit 22)), none⟩,
  .ins ⟨(.p (.fieldAddr (nat_lit 0))), [.tmp (nat_lit 22)], (some (nat_lit 23)), none⟩,
  .ins ⟨(.p (.indexAddrArr (nat_lit 6) (nat_lit 2))), [.tmp (nat_lit 23), .tmp (nat_lit 21)], (some (nat_lit 24)), none⟩,
  .ins ⟨(.p (.fieldAddr (nat_lit 1))), [.tmp (nat_lit 24)], (some (nat_lit 25)), none⟩,
  .ins ⟨(.r (.load false (nat_lit 1))), [.tmp (nat_lit 25)], (some (nat_lit 26)), none⟩,
  .ins ⟨(.p .mv), [.tmp (nat_lit 19)], (some (nat_lit 4)), none⟩,
  .ins ⟨(.p .mv), [.tmp (nat_lit 26)], (some (nat_lit 5)), none⟩])
 .ret)))⟩

def c60 : Code' := .fn ⟨(nat_lit 48), [],
 (.seq (.region [
  .ins ⟨(.p .mv), [.tmp (nat_lit 0)], (some (nat_lit 5)), none⟩,
  .ins ⟨(.p .nilck), [.tmp (nat_lit 5)], (some (nat_lit 6)), none⟩,
  .ins ⟨(.p (.fieldAddr (nat_lit 7))), [.tmp (nat_lit 6)], (some (nat_lit 7)), none⟩,
  .ins ⟨(.p (.fieldAddr (nat_lit 0))), [.tmp (nat_lit 7)], (some (nat_lit 8)), none⟩,
  .ins ⟨(.r (.load false (nat_lit 1))), [.tmp (nat_lit 8)], (some (nat_lit 9)), none⟩,
  .ins ⟨(.p .mv), [.tmp (nat_lit 0)], (some (nat_lit 10)), none⟩,
  .ins ⟨(.p .nilck), [.tmp (nat_lit 10)], (some (nat_lit 11)), none⟩,
  .ins ⟨(.p (.fieldAddr (nat_lit 7))), [.tmp (nat_lit 11)], (some (nat_lit 12)), none⟩,
  .ins ⟨(.p (.fieldAddr (nat_lit 1))), [.tmp (nat_lit 12)], (some (nat_lit 13)), none⟩,
  .ins ⟨(.r (.load false (nat_lit 1))), [.tmp (nat_lit 13)], (some (nat_lit 14)), none⟩,
  .ins ⟨(.p .mv), [.tmp (nat_lit 0)], (some (nat_lit 15)), none⟩,
  .ins ⟨(.p .nilck), [.tmp (nat_lit 15)], (some (nat_lit 16)), none⟩,
  .ins ⟨(.p (.fieldAddr (nat_lit 7))), [.tmp (nat_lit 16)], (some (nat_lit 17)), none⟩,
  .ins ⟨(.p (.fieldAddr (nat_lit 2))), [.tmp (nat_lit 17)], (some (nat_lit 18)), none⟩,
  .ins ⟨(.r (.load false (nat_lit 1))), [.tmp (nat_lit 18)], (some (nat_lit 19)), none⟩,
  .ins ⟨(.p .mv), [.tmp (nat_lit 0)], (some (nat_lit 20)), none⟩,
  .ins ⟨(.p .nilck), [.tmp (nat_lit 20)], (some (nat_lit 21)), none⟩,
  .ins ⟨(.p (.fieldAddr (nat_lit 7))), [.tmp (nat_lit 21)], (some (nat_lit 22)), none⟩,
  .ins ⟨(.p (.fieldAddr (nat_lit 3))), [.tmp (nat_lit 22)], (some (nat_lit 23)), none⟩,
  .ins ⟨(.r (.load false (nat_lit 1))), [.tmp (nat_lit 23)], (some (nat_lit 24)), none⟩,
  .ins ⟨(.p .mv), [.tmp (nat_lit 0)], (some (nat_lit 25)), none⟩,
  .ins ⟨(.p .nilck), [.tmp (nat_lit 25)], (some (nat_lit 26)), none⟩,
  .ins ⟨(.p (.fieldAddr (nat_lit 7))), [.tmp (nat_lit 26)], (some (nat_lit 27)), none⟩,
  .ins ⟨(.p (.fieldAddr (nat_lit 4))), [.tmp (nat_lit 27)], (some (nat_lit 28)), none⟩,
  .ins ⟨(.r (.load false (nat_lit 1))), [.tmp (nat_lit 28)], (some (nat_lit 29)), none⟩,
  .ins ⟨(.p (.build [(.int .i64 (.ofNat (nat_lit 0))), (.int .i64 (.ofNat (nat_lit 0))), (.int .i64 (.ofNat (nat_lit 0))), (.int .i64 (.ofNat (nat_lit 0))), (.int .i64 (.ofNat (nat_lit 0))), (.int .i64 (.ofNat (nat_lit 0)))] [((nat_lit 0), (nat_lit 1)), ((nat_lit 1), (nat_lit 1)), ((nat_lit 2), (nat_lit 1)), ((nat_lit 3), (nat_lit 1)), ((nat_lit 4), (nat_lit 1)), ((nat_lit 5), (nat_lit 1))])), [.const (.int .i64 (.ofNat (nat_lit 0))), .tmp (nat_lit 9), .tmp (nat_lit 14), .tmp (nat_lit 19), .tmp (nat_lit 24), .tmp (nat_lit 29)], (some (nat_lit 30)), none⟩,
  .ins ⟨(.p .mv), [.tmp (nat_lit 1)], (some (nat_lit 31)), none⟩,
  .ins ⟨(.p (.indexArr (nat_lit 6) (nat_lit 1) false)), [.tmp (nat_lit 30), .tmp (nat_lit 31)], (some (nat_lit 32)), none⟩,
  .ins ⟨(.p .mv), [.tmp (nat_lit 32)], (some (nat_lit 4)), none⟩])
 (.seq (.region [
  .ins ⟨(.p .mv), [.tmp (nat_lit 4)], (some (nat_lit 33)), none⟩,
  .ins ⟨(.p (.bini .gtr)), [.tmp (nat_lit 33), .const (.int .i64 (.ofNat (nat_lit 0)))], (some (nat_lit 34)), none⟩])
 (.cond (.tmp (nat_lit 34)) (.region [
  .ins ⟨(.p .mv), [.tmp (nat_lit 0)], (some (nat_lit 35)), none⟩,
  .ins ⟨(.p .nilck), [.tmp (nat_lit 35)], (some (nat_lit 36)), none⟩,
  .ins ⟨(.p (.fieldAddr (nat_lit 15))), [.tmp (nat_lit 36)], (some (nat_lit 37)), none⟩,
  .ins ⟨(.r (.load false (nat_lit 1))), [.tmp (nat_lit 37)], (some (nat_lit 38)), none⟩,
  .ins ⟨(.p .mv), [.tmp (nat_lit 1)], (some (nat_lit 39)), none⟩,
  .ins ⟨(.p .mv), [.tmp (nat_lit 0)], (some (nat_lit 40)), none⟩,
  .ins ⟨(.p .nilck), [.tmp (nat_lit 40)], (some (nat_lit 41)), none⟩,
  .ins ⟨(.p (.fieldAddr (nat_lit 12))), [.tmp (nat_lit 41)], (some (nat_lit 42)), none⟩,
  .ins ⟨(.r (.load false (nat_lit 1))), [.tmp (nat_lit 42)], (some (nat_lit 43)), none⟩,
  .ins ⟨(.p .mv), [.tmp (nat_lit 4)], (some (nat_lit 44)), none⟩,
  .ins ⟨(.p (.bini .add)), [.tmp (nat_lit 43), .tmp (nat_lit 44)], (some (nat_lit 45)), none⟩,
  .ins ⟨(.p .min), [.tmp (nat_lit 45), .const (.int .i64 (.ofNat (nat_lit 1099511627776)))], (some (nat_lit 46)), none⟩,
  .ins ⟨(.c .value), [.const (.func (.func (nat_lit 122)) [] []), .tmp (nat_lit 38), .tmp (nat_lit 39), .tmp (nat_lit 46)], (some (nat_lit 47)), none⟩])
 .skip)))⟩

def c62 : Code' := .fn ⟨(nat_lit 36), [],
 (.seq (.region [
  .ins ⟨(.p .mv), [.tmp (nat_lit 1)], (some (nat_lit 6)), none⟩,
  .ins ⟨(.p .lenSl), [.tmp (nat_lit 6)], (some (nat_lit 7)), none⟩,
  .ins ⟨(.p .mv), [.const (.int .i64 (.ofNat (nat_lit 0)))], (some (nat_lit 8)), none⟩])
 (.block (nat_lit 0) (.loop (.seq (.region [
  .ins ⟨(.p (.bini .lss)), [.tmp (nat_lit 8), .tmp (nat_lit 7)], (some (nat_lit 9)), none⟩])
 (.seq (.cond (.tmp (nat_lit 9)) .skip
 (.exit (nat_lit 0)))
 (.seq (.block (nat_lit 1) (.seq (.region [
  .ins ⟨(.p (.indexAddr (nat_lit 2))), [.tmp (nat_lit 6), .tmp (nat_lit 8)], (some (nat_lit 10)), none⟩,
  .ins ⟨(.r (.load true (nat_lit 2))), [.tmp (nat_lit 10)], (some (nat_lit 11)), none⟩,
  .ins ⟨(.a (.alloc [(.int .i64 (.ofNat (nat_lit 0))), (.int .i64 (.ofNat (nat_lit 0)))])), [], (some (nat_lit 5)), none⟩,
  .ins ⟨(.l (.store (nat_lit 2))), [.tmp (nat_lit 5), .tmp (nat_lit 11)], none, none⟩])
 (.seq (.region [
  .ins ⟨(.p (.fieldAddr (nat_lit 0))), [.tmp (nat_lit 5)], (some (nat_lit 12)), none⟩,
  .ins ⟨(.r (.load false (nat_lit 1))), [.tmp (nat_lit 12)], (some (nat_lit 13)), none⟩])
 (.block (nat_lit 2) (.seq (.region [
  .ins ⟨(.p (.bini .eql)), [.tmp (nat_lit 13), .const (.int .i64 (.ofNat (nat_lit 1)))], (some (nat_lit 15)), none⟩,
  .ins ⟨(.p .mv), [.tmp (nat_lit 15)], (some (nat_lit 14)), none⟩])
 (.cond (.tmp (nat_lit 14)) (.region [
  .ins ⟨(.p .mv), [.tmp (nat_lit 0)], (some (nat_lit 16)), none⟩,
  .ins ⟨(.p .nilck), [.tmp (nat_lit 16)], (some (nat_lit 17)), none⟩,
  .ins ⟨(.p (.fieldAddr (nat_lit 13))), [.tmp (nat_lit 17)], (some (nat_lit 18)), none⟩,
  .ins ⟨(.r (.load false (nat_lit 1))), [.tmp (nat_lit 18)], (some (nat_lit 19)), none⟩,
  .ins ⟨(.p (.fieldAddr (nat_lit 1))), [.tmp (nat_lit 5)], (some (nat_lit 20)), none⟩,
  .ins ⟨(.r (.load false (nat_lit 1))), [.tmp (nat_lit 20)], (some (nat_lit 21)), none⟩,
  .ins ⟨(.c .value), [.const (.func (.func (nat_lit 102)) [] []), .tmp (nat_lit 19), .tmp (nat_lit 21), .const (.int .i64 (.ofNat (nat_lit 0)))], (some (nat_lit 22)), none⟩])
 (.seq (.region [
  .ins ⟨(.p (.bini .eql)), [.tmp (nat_lit 13), .const (.int .i64 (.ofNat (nat_lit 2)))], (some (nat_lit 24)), none⟩,
  .ins ⟨(.p .mv), [.tmp (nat_lit 24)], (some (nat_lit 23)), none⟩])
 (.cond (.tmp (nat_lit 23)) (.region [
  .ins ⟨(.p .mv), [.tmp (nat_lit 0)], (some (nat_lit 25)), none⟩,
  .ins ⟨(.p .nilck), [.tmp (nat_lit 25)], (some (nat_lit 26)), none⟩,
  .ins ⟨(.p (.fieldAddr (nat_lit 13))), [.tmp (nat_lit 26)], (some (nat_lit 27)), none⟩,
  .ins ⟨(.r (.load false (nat_lit 1))), [.tmp (nat_lit 27)], (some (nat_lit 28)), none⟩,
  .ins ⟨(.c .value), [.const (.func (.func (nat_lit 123)) [] [])], (some (nat_lit 29)), none⟩,
  .again ⟨(.r (.load false (nat_lit 1))), [.tmp (nat_lit 27)], (some (nat_lit 28)), none⟩,
  .ins ⟨(.c .value), [.const (.func (.func (nat_lit 103)) [] []), .tmp (nat_lit 28), .tmp (nat_lit 29)], (some (nat_lit 30)), none⟩])
 (.seq (.region [
  .ins ⟨(.p (.bini .eql)), [.tmp (nat_lit 13), .const (.int .i64 (.ofNat (nat_lit 3)))], (some (nat_lit 32)), none⟩,
  .ins ⟨(.p .mv), [.tmp (nat_lit 32)], (some (nat_lit 31)), none⟩])
 (.cond (.tmp (nat_lit 31)) (.region [
  .ins ⟨(.p .mv), [.tmp (nat_lit 0)], (some (nat_lit 33)), none⟩,
  .ins ⟨(.c .value), [.const (.func (.func (nat_lit 42)) [] []), .tmp (nat_lit 33), .const (.int .i64 (.ofNat (nat_lit 1)))], (some (nat_lit 34)), none⟩])
 .skip))))))))))
 (.region [
  .ins ⟨(.p (.bini .add)), [.tmp (nat_lit 8), .const (.int .i64 (.ofNat (nat_lit 1)))], (some (nat_lit 35)), none⟩,
  .ins ⟨(.p .mv), [.tmp (nat_lit 35)], (some (nat_lit 8)), none⟩])))))))⟩

def c64 : Code' := .fn ⟨(nat_lit 9), [.tmp (nat_lit 2)],
 (.seq (.region [
  .ins ⟨(.p .mv), [.const (.int .i64 (.ofNat (nat_lit 0)))], (some (nat_lit 2)), none⟩])
 (.seq (.seq (.region [
  .ins ⟨(.p .mv), [.tmp (nat_lit 0)], (some (nat_lit 3)), none⟩,
  .ins ⟨(.p (.eqnil .ptr false)), [.tmp (nat_lit 3), .const (.ptr none)], (some (nat_lit 4)), none⟩])
 (.cond (.tmp (nat_lit 4)) (.seq (.region [
  .ins ⟨(.p .mv), [.const (.int .i64 (.ofNat (nat_lit 0)))], (some (nat_lit 2)), none⟩])
 .ret)
 .skip))
 (.seq (.region [
  .ins ⟨(.p .mv), [.tmp (nat_lit 0)], (some (nat_lit 5)), none⟩,
  .ins ⟨(.p .nilck), [.tmp (nat_lit 5)], (some (nat_lit 6)), none⟩,
  .ins ⟨(.p (.fieldAddr (nat_lit 20))), [.tmp (nat_lit 6)], (some (nat_lit 7)), none⟩,
  .ins ⟨(.r (.load false (nat_lit 1))), [.tmp (nat_lit 7)], (some (nat_lit 8)), none⟩,
  .ins ⟨(.p .mv), [.tmp (nat_lit 8)], (some (nat_lit 2)), none⟩])
 .ret)))⟩

def c65 : Code' := .fn ⟨(nat_lit 10), [.tmp (nat_lit 2)],
 (.seq (.region [
  .ins ⟨(.p .mv), [.const (.int .i64 (.ofNat (nat_lit 0)))], (some (nat_lit 2)), none⟩])
 (.seq (.seq (.region [
  .ins ⟨(.p .mv), [.tmp (nat_lit 0)], (some (nat_lit 3)), none⟩,
  .ins ⟨(.p (.eqnil .ptr false)), [.tmp (nat_lit 3), .const (.ptr none)], (some (nat_lit 4)), none⟩])
 (.cond (.tmp (nat_lit 4)) (.seq (.region [
  .ins ⟨(.p .mv), [.const (.int .i64 (.ofNat (nat_lit 0)))], (some (nat_lit 2)), none⟩])
 .ret)
 .skip))
 (.seq (.region [
  .ins ⟨(.p .mv), [.tmp (nat_lit 0)], (some (nat_lit 5)), none⟩,
  .ins ⟨(.p .nilck), [.tmp (nat_lit 5)], (some (nat_lit 6)), none⟩,
  .ins ⟨(.p (.fieldAddr (nat_lit 13))), [.tmp (nat_lit 6)], (some (nat_lit 7)), none⟩,
  .ins ⟨(.r (.load false (nat_lit 1))), [.tmp (nat_lit 7)], (some (nat_lit 8)), none⟩,
  .ins ⟨(.c .value), [.const (.func (.func (nat_lit 125)) [] []), .tmp (nat_lit 8)], (some (nat_lit 9)), none⟩,
  .ins ⟨(.p .mv), [.tmp (nat_lit 9)], (some (nat_lit 2)), none⟩])
 .ret)))⟩

def c66 : Code' := .fn ⟨(nat_lit 24), [],
 (.seq (.seq (.region [
  .ins ⟨(.r (.load false (nat_lit 1))), [.tmp (nat_lit 1)], (some (nat_lit 5)), none⟩,
  .ins ⟨(.p (.eqnil .ptr false)), [.tmp (nat_lit 5), .const (.ptr none)], (some (nat_lit 6)), none⟩])
 (.cond (.tmp (nat_lit 6)) .ret
 .skip))
 (.seq (.region [
  .ins ⟨(.r (.load false (nat_lit 1))), [.tmp (nat_lit 1)], (some (nat_lit 7)), none⟩,
  .ins ⟨(.p .nilck), [.tmp (nat_lit 7)], (some (nat_lit 8)), none⟩,
  .ins ⟨(.p (.fieldAddr (nat_lit 21))), [.tmp (nat_lit 8)], (some (nat_lit 9)), none⟩,
  .ins ⟨(.r (.load false (nat_lit 1))), [.tmp (nat_lit 9)], (some (nat_lit 10)), none⟩,
  .ins ⟨(.p .lenSl), [.tmp (nat_lit 10)], (some (nat_lit 11)), none⟩,
  .ins ⟨(.p .mv), [.const (.int .i64 (.ofNat (nat_lit 0)))], (some (nat_lit 12)), none⟩])
 (.block (nat_lit 0) (.loop (.seq (.region [
  .ins ⟨(.p (.bini .lss)), [.tmp (nat_lit 12), .tmp (nat_lit 11)], (some (nat_lit 13)), none⟩])
 (.seq (.cond (.tmp (nat_lit 13)) .skip
 (.exit (nat_lit 0)))
 (.seq (.block (nat_lit 1) (.seq (.region [
  .ins ⟨(.p (.indexAddr (nat_lit 2))), [.tmp (nat_lit 10), .tmp (nat_lit 12)], (some (nat_lit 14)), none⟩,
  .ins ⟨(.r (.load true (nat_lit 2))), [.tmp (nat_lit 14)], (some (nat_lit 15)), none⟩,
  .ins ⟨(.a (.alloc [(.int .i64 (.ofNat (nat_lit 0))), (.int .i64 (.ofNat (nat_lit 0)))])), [], (some (nat_lit 4)), none⟩,
  .ins ⟨(.l (.store (nat_lit 2))), [.tmp (nat_lit 4), .tmp (nat_lit 15)], none, none⟩])
 (.seq (.region [
  .ins ⟨(.p .mv), [.tmp (nat_lit 0)], (some (nat_lit 16)), none⟩,
  .ins ⟨(.p (.fieldAddr (nat_lit 0))), [.tmp (nat_lit 4)], (some (nat_lit 17)), none⟩,
  .ins ⟨(.r (.load false (nat_lit 1))), [.tmp (nat_lit 17)], (some (nat_lit 18)), none⟩,
  .ins ⟨(.p (.fieldAddr (nat_lit 1))), [.tmp (nat_lit 4)], (some (nat_lit 19)), none⟩,
  .ins ⟨(.r (.load false (nat_lit 1))), [.tmp (nat_lit 19)], (some (nat_lit 20)), none⟩,
  .ins ⟨(.c .value), [.tmp (nat_lit 16), .tmp (nat_lit 18), .tmp (nat_lit 20)], (some (nat_lit 21)), none⟩,
  .ins ⟨(.p (.un .not)), [.tmp (nat_lit 21)], (some (nat_lit 22)), none⟩])
 (.cond (.tmp (nat_lit 22)) .ret
 .skip))))
 (.region [
  .ins ⟨(.p (.bini .add)), [.tmp (nat_lit 12), .const (.int .i64 (.ofNat (nat_lit 1)))], (some (nat_lit 23)), none⟩,
  .ins ⟨(.p .mv), [.tmp (nat_lit 23)], (some (nat_lit 12)), none⟩]))))))))⟩

def c67 : Code' := .fn ⟨(nat_lit 89), [.tmp (nat_lit 10), .tmp (nat_lit 11)],
 (.seq (.region [
  .ins ⟨(.a .box), [.tmp (nat_lit 2)], (some (nat_lit 7)), none⟩,
  .ins ⟨(.a .box), [.tmp (nat_lit 3)], (some (nat_lit 8)), none⟩,
  .ins ⟨(.p .mv), [.const (.ptr none)], (some (nat_lit 10)), none⟩,
  .ins ⟨(.p .mv), [.const (.int .i64 (.ofNat (nat_lit 0)))], (some (nat_lit 11)), none⟩])
 (.seq (.seq (.region [
  .ins ⟨(.p .mv), [.tmp (nat_lit 1)], (some (nat_lit 15)), none⟩,
  .ins ⟨(.p (.bini .neq)), [.tmp (nat_lit 15), .const (.int .i64 (.ofNat (nat_lit 0)))], (some (nat_lit 16)), none⟩,
  .ins ⟨(.p .mv), [.tmp (nat_lit 16)], (some (nat_lit 17)), none⟩,
  .ins ⟨(.p .mv), [.tmp (nat_lit 1)], (some (nat_lit 18)), (some ((nat_lit 17), true))⟩,
  .ins ⟨(.p (.bini .neq)), [.tmp (nat_lit 18), .const (.int .i64 (.ofNat (nat_lit 1)))], (some (nat_lit 19)), (some ((nat_lit 17), true))⟩,
  .ins ⟨(.p .pick), [.tmp (nat_lit 17), .tmp (nat_lit 19), .const (.bool false)], (some (nat_lit 20)), none⟩,
  .ins ⟨(.p .mv), [.tmp (nat_lit 20)], (some (nat_lit 21)), none⟩,
  .ins ⟨(.p (.fieldAddr (nat_lit 0))), [.tmp (nat_lit 8)], (some (nat_lit 22)), (some ((nat_lit 21), false))⟩,
  .ins ⟨(.r (.load false (nat_lit 1))), [.tmp (nat_lit 22)], (some (nat_lit 23)), (some ((nat_lit 21), false))⟩,
  .ins ⟨(.c .value), [.const (.func (.func (nat_lit 126)) [] []), .tmp (nat_lit 23)], (some (nat_lit 24)), (some ((nat_lit 21), false))⟩,
  .ins ⟨(.p (.un .not)), [.tmp (nat_lit 24)], (some (nat_lit 25)), (some ((nat_lit 21), false))⟩,
  .ins ⟨(.p .pick), [.tmp (nat_lit 21), .const (.bool true), .tmp (nat_lit 25)], (some (nat_lit 26)), none⟩,
  .ins ⟨(.p .mv), [.tmp (nat_lit 26)], (some (nat_lit 27)), none⟩,
  .ins ⟨(.p (.fieldAddr (nat_lit 1))), [.tmp (nat_lit 8)], (some (nat_lit 28)), (some ((nat_lit 27), false))⟩,
  .ins ⟨(.r (.load false (nat_lit 1))), [.tmp (nat_lit 28)], (some (nat_lit 29)), (some ((nat_lit 27), false))⟩,
  .ins ⟨(.c .value), [.const (.func (.func (nat_lit 126)) [] []), .tmp (nat_lit 29)], (some (nat_lit 30)), (some ((nat_lit 27), false))⟩,
  .ins ⟨(.p (.un .not)), [.tmp (nat_lit 30)], (some (nat_lit 31)), (some ((nat_lit 27), false))⟩,
  .ins ⟨(.p .pick), [.tmp (nat_lit 27), .const (.bool true), .tmp (nat_lit 31)], (some (nat_lit 32)), none⟩,
  .ins ⟨(.p .mv), [.tmp (nat_lit 32)], (some (nat_lit 33)), none⟩,
  .ins ⟨(.p (.fieldAddr (nat_lit 2))), [.tmp (nat_lit 8)], (some (nat_lit 34)), (some ((nat_lit 33), false))⟩,
  .ins ⟨(.r (.load false (nat_lit 1))), [.tmp (nat_lit 34)], (some (nat_lit 35)), (some ((nat_lit 33), false))⟩,
  .ins ⟨(.c .value), [.const (.func (.func (nat_lit 126)) [] []), .tmp (nat_lit 35)], (some (nat_lit 36)), (some ((nat_lit 33), false))⟩,
  .ins ⟨(.p (.un .not)), [.tmp (nat_lit 36)], (some (nat_lit 37)), (some ((nat_lit 33), false))⟩,
  .ins ⟨(.p .pick), [.tmp (nat_lit 33), .const (.bool true), .tmp (nat_lit 37)], (some (nat_lit 38)), none⟩,
  .ins ⟨(.p .mv), [.tmp (nat_lit 38)], (some (nat_lit 39)), none⟩,
  .ins ⟨(.p (.fieldAddr (nat_lit 3))), [.tmp (nat_lit 8)], (some (nat_lit 40)), (some ((nat_lit 39), false))⟩,
  .ins ⟨(.r (.load false (nat_lit 1))), [.tmp (nat_lit 40)], (some (nat_lit 41)), (some ((nat_lit 39), false))⟩,
  .ins ⟨(.c .value), [.const (.func (.func (nat_lit 126)) [] []), .tmp (nat_lit 41)], (some (nat_lit 42)), (some ((nat_lit 39), false))⟩,
  .ins ⟨(.p (.un .not)), [.tmp (nat_lit 42)], (some (nat_lit 43)), (some ((nat_lit 39), false))⟩,
  .ins ⟨(.p .pick), [.tmp (nat_lit 39), .const (.bool true), .tmp (nat_lit 43)], (some (nat_lit 44)), none⟩,
  .ins ⟨(.p .mv), [.tmp (nat_lit 44)], (some (nat_lit 45)), none⟩,
  .ins ⟨(.p (.fieldAddr (nat_lit 4))), [.tmp (nat_lit 8)], (some (nat_lit 46)), (some ((nat_lit 45), false))⟩,
  .ins ⟨(.r (.load false (nat_lit 1))), [.tmp (nat_lit 46)], (some (nat_lit 47)), (some ((nat_lit 45), false))⟩,
  .ins ⟨(.c .value), [.const (.func (.func (nat_lit 126)) [] []), .tmp (nat_lit 47)], (some (nat_lit 48)), (some ((nat_lit 45), false))⟩,
  .ins ⟨(.p (.un .not)), [.tmp (nat_lit 48)], (some (nat_lit 49)), (some ((nat_lit 45), false))⟩,
  .ins ⟨(.p .pick), [.tmp (nat_lit 45), .const (.bool true), .tmp (nat_lit 49)], (some (nat_lit 50)), none⟩,
  .ins ⟨(.p .mv), [.tmp (nat_lit 50)], (some (nat_lit 51)), none⟩,
  .ins ⟨(.p .mv), [.tmp (nat_lit 4)], (some (nat_lit 52)), (some ((nat_lit 51), false))⟩,
  .ins ⟨(.c .value), [.const (.func (.func (nat_lit 126)) [] []), .tmp (nat_lit 52)], (some (nat_lit 53)), (some ((nat_lit 51), false))⟩,
  .ins ⟨(.p (.un .not)), [.tmp (nat_lit 53)], (some (nat_lit 54)), (some ((nat_lit 51), false))⟩,
  .ins ⟨(.p .pick), [.tmp (nat_lit 51), .const (.bool true), .tmp (nat_lit 54)], (some (nat_lit 55)), none⟩])
 (.cond (.tmp (nat_lit 55)) (.seq (.region [
  .ins ⟨(.p .mv), [.const (.ptr none)], (some (nat_lit 10)), none⟩,
  .ins ⟨(.p .mv), [.const (.int .i64 (.ofNat (nat_lit 1)))], (some (nat_lit 11)), none⟩])
 .ret)
 .skip))
 (.seq (.region [
  .ins ⟨(.p .mv), [.tmp (nat_lit 0)], (some (nat_lit 57)), none⟩,
  .ins ⟨(.r (.load true (nat_lit 5))), [.tmp (nat_lit 7)], (some (nat_lit 58)), none⟩,
  .ins ⟨(.c .value), [.const (.func (.func (nat_lit 127)) [] []), .tmp (nat_lit 57), .tmp (nat_lit 58)], (some (nat_lit 59)), none⟩,
  .ins ⟨(.p .mv), [.tmp (nat_lit 59)], (some (nat_lit 56)), none⟩,
  .ins ⟨(.p (.extract (nat_lit 0))), [.tmp (nat_lit 56)], (some (nat_lit 60)), none⟩,
  .ins ⟨(.p (.extract (nat_lit 1))), [.tmp (nat_lit 56)], (some (nat_lit 61)), none⟩,
  .ins ⟨(.p .mv), [.tmp (nat_lit 60)], (some (nat_lit 12)), none⟩,
  .ins ⟨(.p .mv), [.tmp (nat_lit 61)], (some (nat_lit 13)), none⟩])
 (.seq (.seq (.region [
  .ins ⟨(.p .mv), [.tmp (nat_lit 13)], (some (nat_lit 62)), none⟩,
  .ins ⟨(.p (.bini .neq)), [.tmp (nat_lit 62), .const (.int .i64 (.ofNat (nat_lit 0)))], (some (nat_lit 63)), none⟩])
 (.cond (.tmp (nat_lit 63)) (.seq (.region [
  .ins ⟨(.p .mv), [.tmp (nat_lit 13)], (some (nat_lit 64)), none⟩,
  .ins ⟨(.p .mv), [.const (.ptr none)], (some (nat_lit 10)), none⟩,
  .ins ⟨(.p .mv), [.tmp (nat_lit 64)], (some (nat_lit 11)), none⟩])
 .ret)
 .skip))
 (.seq (.region [
  .ins ⟨(.p .mv), [.tmp (nat_lit 0)], (some (nat_lit 65)), none⟩,
  .ins ⟨(.p .mv), [.tmp (nat_lit 1)], (some (nat_lit 66)), none⟩,
  .ins ⟨(.r (.load true (nat_lit 5))), [.tmp (nat_lit 7)], (some (nat_lit 67)), none⟩,
  .ins ⟨(.r (.load true (nat_lit 5))), [.tmp (nat_lit 8)], (some (nat_lit 68)), none⟩,
  .ins ⟨(.p .mv), [.tmp (nat_lit 4)], (some (nat_lit 69)), none⟩,
  .ins ⟨(.p .mv), [.tmp (nat_lit 12)], (some (nat_lit 70)), none⟩,
  .ins ⟨(.c .value), [.const (.func (.func (nat_lit 128)) [] [])], (some (nat_lit 71)), none⟩,
  .ins ⟨(.p (.build [(.int .i64 (.ofNat (nat_lit 0))), (.int .i64 (.ofNat (nat_lit 0))), (.int .i64 (.ofNat (nat_lit 0))), (.int .i64 (.ofNat (nat_lit 0))), (.int .i64 (.ofNat (nat_lit 0))), (.int .i64 (.ofNat (nat_lit 0))), (.int .i64 (.ofNat (nat_lit 0))), (.int .i64 (.ofNat (nat_lit 0))), (.int .i64 (.ofNat (nat_lit 0))), (.int .i64 (.ofNat (nat_lit 0))), (.int .i64 (.ofNat (nat_lit 0))), (.int .i64 (.ofNat (nat_lit 0))), (.int .i64 (.ofNat (nat_lit 0))), (.ptr none), (.ptr none), (.ptr none), (.bool false), (.int .i64 (.ofNat (nat_lit 0))), (.slice none (nat_lit 0) (nat_lit 0) (nat_lit 0)), (.slice none (nat_lit 0) (nat_lit 0) (nat_lit 0)), (.bool false), (.slice none (nat_lit 0) (nat_lit 0) (nat_lit 0)), (.slice none (nat_lit 0) (nat_lit 0) (nat_lit 0))] [((nat_lit 0), (nat_lit 1)), ((nat_lit 1), (nat_lit 1)), ((nat_lit 2), (nat_lit 5)), ((nat_lit 7), (nat_lit 5)), ((nat_lit 12), (nat_lit 1)), ((nat_lit 13), (nat_lit 1)), ((nat_lit 15), (nat_lit 1))])), [.tmp (nat_lit 65), .tmp (nat_lit 66), .tmp (nat_lit 67), .tmp (nat_lit 68), .tmp (nat_lit 69), .tmp (nat_lit 70), .tmp (nat_lit 71)], (some (nat_lit 72)), none⟩,
  .ins ⟨(.a .box), [.tmp (nat_lit 72)], (some (nat_lit 73)), none⟩,
  .ins ⟨(.p .mv), [.tmp (nat_lit 73)], (some (nat_lit 14)), none⟩,
  .again ⟨(.r (.load true (nat_lit 5))), [.tmp (nat_lit 7)], (some (nat_lit 67)), none⟩,
  .again ⟨(.r (.load true (nat_lit 5))), [.tmp (nat_lit 8)], (some (nat_lit 68)), none⟩])
 (.seq (.region [
  .ins ⟨(.p .mv), [.tmp (nat_lit 14)], (some (nat_lit 75)), none⟩,
  .ins ⟨(.p .mv), [.tmp (nat_lit 0)], (some (nat_lit 76)), none⟩,
  .ins ⟨(.c .value), [.const (.func (.func (nat_lit 129)) [] []), .tmp (nat_lit 76)], (some (nat_lit 77)), none⟩,
  .ins ⟨(.p .mv), [.tmp (nat_lit 77)], (some (nat_lit 74)), none⟩,
  .ins ⟨(.p (.extract (nat_lit 0))), [.tmp (nat_lit 74)], (some (nat_lit 78)), none⟩,
  .ins ⟨(.p (.extract (nat_lit 1))), [.tmp (nat_lit 74)], (some (nat_lit 79)), none⟩,
  .ins ⟨(.p .nilck), [.tmp (nat_lit 75)], (some (nat_lit 80)), none⟩,
  .ins ⟨(.p (.fieldAddr (nat_lit 14))), [.tmp (nat_lit 80)], (some (nat_lit 81)), none⟩,
  .ins ⟨(.l (.store (nat_lit 1))), [.tmp (nat_lit 81), .tmp (nat_lit 78)], none, none⟩])
 (.seq (.region [
  .ins ⟨(.p .mv), [.tmp (nat_lit 14)], (some (nat_lit 82)), none⟩,
  .ins ⟨(.c .value), [.const (.func (.func (nat_lit 60)) [] []), .tmp (nat_lit 82), .const (.int .i64 (.ofNat (nat_lit 2)))], (some (nat_lit 83)), none⟩])
 (.seq (.seq (.region [
  .ins ⟨(.p .mv), [.tmp (nat_lit 1)], (some (nat_lit 84)), none⟩,
  .ins ⟨(.p (.bini .eql)), [.tmp (nat_lit 84), .const (.int .i64 (.ofNat (nat_lit 0)))], (some (nat_lit 85)), none⟩])
 (.cond (.tmp (nat_lit 85)) (.region [
  .ins ⟨(.p .mv), [.tmp (nat_lit 14)], (some (nat_lit 86)), none⟩,
  .ins ⟨(.c .value), [.const (.func (.func (nat_lit 83)) [] []), .tmp (nat_lit 86)], (some (nat_lit 87)), none⟩])
 .skip))
 (.seq (.region [
  .ins ⟨(.p .mv), [.tmp (nat_lit 14)], (some (nat_lit 88)), none⟩,
  .ins ⟨(.p .mv), [.tmp (nat_lit 88)], (some (nat_lit 10)), none⟩,
  .ins ⟨(.p .mv), [.const (.int .i64 (.ofNat (nat_lit 0)))], (some (nat_lit 11)), none⟩])
 .ret)))))))))⟩

def c68 : Code' := .fn ⟨(nat_lit 5), [.tmp (nat_lit 0)],
 (.seq (.region [
  .ins ⟨(.p .mv), [.const (.slice none (nat_lit 0) (nat_lit 0) (nat_lit 0))], (some (nat_lit 0)), none⟩])
 (.seq (.region [
  .ins ⟨(.p (.build [(.str (bs [])), (.str (bs [])), (.bool false)] [((nat_lit 0), (nat_lit 1)), ((nat_lit 1), (nat_lit 1))])), [.const (.str (bs [(nat_lit 58), (nat_lit 109), (nat_lit 101), (nat_lit 116), (nat_lit 104), (nat_lit 111), (nat_lit 100)])), .const (.str (bs [(nat_lit 71), (nat_lit 69), (nat_lit 84)]))], (some (nat_lit 1)), none⟩,
  .ins ⟨(.p (.build [(.str (bs [])), (.str (bs [])), (.bool false)] [((nat_lit 0), (nat_lit 1)), ((nat_lit 1), (nat_lit 1))])), [.const (.str (bs [(nat_lit 58), (nat_lit 115), (nat_lit 99), (nat_lit 104), (nat_lit 101), (nat_lit 109), (nat_lit 101)])), .const (.str (bs [(nat_lit 104), (nat_lit 116), (nat_lit 116), (nat_lit 112)]))], (some (nat_lit 2)), none⟩,
  .ins ⟨(.p (.build [(.str (bs [])), (.str (bs [])), (.bool false)] [((nat_lit 0), (nat_lit 1)), ((nat_lit 1), (nat_lit 1))])), [.const (.str (bs [(nat_lit 58), (nat_lit 112), (nat_lit 97), (nat_lit 116), (nat_lit 104)])), .const (.str (bs [(nat_lit 47)]))], (some (nat_lit 3)), none⟩,
  .ins ⟨(.a (.buildSlice [(.str (bs [])), (.str (bs [])), (.bool false), (.str (bs [])), (.str (bs [])), (.bool false), (.str (bs [])), (.str (bs [])), (.bool false)] (nat_lit 3) [((nat_lit 0), (nat_lit 3)), ((nat_lit 3), (nat_lit 3)), ((nat_lit 6), (nat_lit 3))])), [.tmp (nat_lit 1), .tmp (nat_lit 2), .tmp (nat_lit 3)], (some (nat_lit 4)), none⟩,
  .ins ⟨(.p .mv), [.tmp (nat_lit 4)], (some (nat_lit 0)), none⟩])
 .ret))⟩

def c83 : Code' := .fn ⟨(nat_lit 9), [],
 (.seq (.region [
  .ins ⟨(.p .mv), [.tmp (nat_lit 0)], (some (nat_lit 2)), none⟩,
  .ins ⟨(.p .nilck), [.tmp (nat_lit 2)], (some (nat_lit 3)), none⟩,
  .ins ⟨(.p (.fieldAddr (nat_lit 16))), [.tmp (nat_lit 3)], (some (nat_lit 4)), none⟩,
  .ins ⟨(.l (.store (nat_lit 1))), [.tmp (nat_lit 4), .const (.bool true)], none, none⟩])
 (.seq (.region [
  .ins ⟨(.p .mv), [.tmp (nat_lit 0)], (some (nat_lit 5)), none⟩,
  .ins ⟨(.c .value), [.const (.func (.func (nat_lit 60)) [] []), .tmp (nat_lit 5), .const (.int .i64 (.ofNat (nat_lit 1)))], (some (nat_lit 6)), none⟩])
 (.region [
  .ins ⟨(.p .mv), [.tmp (nat_lit 0)], (some (nat_lit 7)), none⟩,
  .ins ⟨(.c .value), [.const (.func (.func (nat_lit 60)) [] []), .tmp (nat_lit 7), .const (.int .i64 (.ofNat (nat_lit 3)))], (some (nat_lit 8)), none⟩])))⟩

def c91 : Code' := .fn ⟨(nat_lit 16), [],
 (.seq (.region [
  .ins ⟨(.p .mv), [.tmp (nat_lit 0)], (some (nat_lit 4)), none⟩,
  .ins ⟨(.p (.eqnil .ptr true)), [.tmp (nat_lit 4), .const (.ptr none)], (some (nat_lit 5)), none⟩,
  .ins ⟨(.p .mv), [.tmp (nat_lit 5)], (some (nat_lit 6)), none⟩,
  .ins ⟨(.p .mv), [.tmp (nat_lit 1)], (some (nat_lit 7)), (some ((nat_lit 6), true))⟩,
  .ins ⟨(.c .value), [.const (.func (.func (nat_lit 121)) [] []), .tmp (nat_lit 7)], (some (nat_lit 8)), (some ((nat_lit 6), true))⟩,
  .ins ⟨(.p .pick), [.tmp (nat_lit 6), .tmp (nat_lit 8), .const (.bool false)], (some (nat_lit 9)), none⟩])
 (.cond (.tmp (nat_lit 9)) (.region [
  .ins ⟨(.p .mv), [.tmp (nat_lit 0)], (some (nat_lit 10)), none⟩,
  .ins ⟨(.p .mv), [.tmp (nat_lit 1)], (some (nat_lit 11)), none⟩,
  .ins ⟨(.p (.build [(.int .i64 (.ofNat (nat_lit 0))), (.bool false)] [])), [], (some (nat_lit 12)), none⟩,
  .ins ⟨(.p .nilck), [.tmp (nat_lit 10)], (some (nat_lit 13)), none⟩,
  .ins ⟨(.p (.fieldAddr (nat_lit 0))), [.tmp (nat_lit 13)], (some (nat_lit 14)), none⟩,
  .ins ⟨(.p (.indexAddrArr (nat_lit 6) (nat_lit 2))), [.tmp (nat_lit 14), .tmp (nat_lit 11)], (some (nat_lit 15)), none⟩,
  .ins ⟨(.l (.store (nat_lit 2))), [.tmp (nat_lit 15), .tmp (nat_lit 12)], none, none⟩])
 .skip))⟩

def c93 : Code' := .fn ⟨(nat_lit 14), [],
 (.seq (.region [
  .ins ⟨(.a .box), [.tmp (nat_lit 1)], (some (nat_lit 3)), none⟩])
 (.region [
  .ins ⟨(.p .mv), [.tmp (nat_lit 0)], (some (nat_lit 4)), none⟩,
  .ins ⟨(.p .mv), [.tmp (nat_lit 0)], (some (nat_lit 5)), none⟩,
  .ins ⟨(.p .nilck), [.tmp (nat_lit 5)], (some (nat_lit 6)), none⟩,
  .ins ⟨(.p (.fieldAddr (nat_lit 22))), [.tmp (nat_lit 6)], (some (nat_lit 7)), none⟩,
  .ins ⟨(.r (.load false (nat_lit 1))), [.tmp (nat_lit 7)], (some (nat_lit 8)), none⟩,
  .ins ⟨(.r (.load true (nat_lit 7))), [.tmp (nat_lit 3)], (some (nat_lit 9)), none⟩,
  .ins ⟨(.a (.buildSlice [(.int .i64 (.ofNat (nat_lit 0))), (.int .i64 (.ofNat (nat_lit 0))), (.slice none (nat_lit 0) (nat_lit 0) (nat_lit 0)), (.slice none (nat_lit 0) (nat_lit 0) (nat_lit 0)), (.bool false), (.int .i64 (.ofNat (nat_lit 0))), (.int .i64 (.ofNat (nat_lit 0)))] (nat_lit 1) [((nat_lit 0), (nat_lit 7))])), [.tmp (nat_lit 9)], (some (nat_lit 10)), none⟩,
  .ins ⟨(.l (.append [(.int .i64 (.ofNat (nat_lit 0))), (.int .i64 (.ofNat (nat_lit 0))), (.slice none (nat_lit 0) (nat_lit 0) (nat_lit 0)), (.slice none (nat_lit 0) (nat_lit 0) (nat_lit 0)), (.bool false), (.int .i64 (.ofNat (nat_lit 0))), (.int .i64 (.ofNat (nat_lit 0)))] (nat_lit 7) (nat_lit 88))), [.tmp (nat_lit 8), .tmp (nat_lit 10)], (some (nat_lit 11)), none⟩,
  .ins ⟨(.p .nilck), [.tmp (nat_lit 4)], (some (nat_lit 12)), none⟩,
  .ins ⟨(.p (.fieldAddr (nat_lit 22))), [.tmp (nat_lit 12)], (some (nat_lit 13)), none⟩,
  .ins ⟨(.l (.store (nat_lit 1))), [.tmp (nat_lit 13), .tmp (nat_lit 11)], none, none⟩]))⟩

def c97 : Code' := .fn ⟨(nat_lit 25), [.tmp (nat_lit 6)],
 (.seq (.region [
  .ins ⟨(.p .mv), [.const (.slice none (nat_lit 0) (nat_lit 0) (nat_lit 0))], (some (nat_lit 6)), none⟩])
 (.seq (.seq (.region [
  .ins ⟨(.p .mv), [.tmp (nat_lit 0)], (some (nat_lit 7)), none⟩,
  .ins ⟨(.p (.eqnil .ptr false)), [.tmp (nat_lit 7), .const (.ptr none)], (some (nat_lit 8)), none⟩,
  .ins ⟨(.p .mv), [.tmp (nat_lit 8)], (some (nat_lit 9)), none⟩,
  .ins ⟨(.p .mv), [.tmp (nat_lit 0)], (some (nat_lit 10)), (some ((nat_lit 9), false))⟩,
  .ins ⟨(.p .nilck), [.tmp (nat_lit 10)], (some (nat_lit 11)), (some ((nat_lit 9), false))⟩,
  .ins ⟨(.p (.fieldAddr (nat_lit 1))), [.tmp (nat_lit 11)], (some (nat_lit 12)), (some ((nat_lit 9), false))⟩,
  .ins ⟨(.r (.load false (nat_lit 1))), [.tmp (nat_lit 12)], (some (nat_lit 13)), (some ((nat_lit 9), false))⟩,
  .ins ⟨(.p (.bini .neq)), [.tmp (nat_lit 13), .const (.int .i64 (.ofNat (nat_lit 2)))], (some (nat_lit 14)), (some ((nat_lit 9), false))⟩,
  .ins ⟨(.p .pick), [.tmp (nat_lit 9), .const (.bool true), .tmp (nat_lit 14)], (some (nat_lit 15)), none⟩,
  .ins ⟨(.p .mv), [.tmp (nat_lit 15)], (some (nat_lit 16)), none⟩,
  .ins ⟨(.p .mv), [.tmp (nat_lit 2)], (some (nat_lit 17)), (some ((nat_lit 16), false))⟩,
  .ins ⟨(.p (.bini .gtr)), [.tmp (nat_lit 17), .const (.int .i64 (.ofNat (nat_lit 0)))], (some (nat_lit 18)), (some ((nat_lit 16), false))⟩,
  .ins ⟨(.p .pick), [.tmp (nat_lit 16), .const (.bool true), .tmp (nat_lit 18)], (some (nat_lit 19)), none⟩])
 (.cond (.tmp (nat_lit 19)) (.seq (.region [
  .ins ⟨(.p .mv), [.const (.slice none (nat_lit 0) (nat_lit 0) (nat_lit 0))], (some (nat_lit 6)), none⟩])
 .ret)
 .skip))
 (.seq (.region [
  .ins ⟨(.p .mv), [.tmp (nat_lit 0)], (some (nat_lit 20)), none⟩,
  .ins ⟨(.p .nilck), [.tmp (nat_lit 20)], (some (nat_lit 21)), none⟩,
  .ins ⟨(.p (.fieldAddr (nat_lit 1))), [.tmp (nat_lit 21)], (some (nat_lit 22)), none⟩,
  .ins ⟨(.l (.store (nat_lit 1))), [.tmp (nat_lit 22), .const (.int .i64 (.ofNat (nat_lit 3)))], none, none⟩])
 (.seq (.region [
  .ins ⟨(.p (.build [(.int .i64 (.ofNat (nat_lit 0))), (.int .i64 (.ofNat (nat_lit 0)))] [((nat_lit 0), (nat_lit 1))])), [.const (.int .i64 (.ofNat (nat_lit 3)))], (some (nat_lit 23)), none⟩,
  .ins ⟨(.a (.buildSlice [(.int .i64 (.ofNat (nat_lit 0))), (.int .i64 (.ofNat (nat_lit 0)))] (nat_lit 1) [((nat_lit 0), (nat_lit 2))])), [.tmp (nat_lit 23)], (some (nat_lit 24)), none⟩,
  .ins ⟨(.p .mv), [.tmp (nat_lit 24)], (some (nat_lit 6)), none⟩])
 .ret))))⟩

def c98 : Code' := .fn ⟨(nat_lit 6), [],
 (.seq (.region [
  .ins ⟨(.p .mv), [.tmp (nat_lit 0)], (some (nat_lit 2)), none⟩,
  .ins ⟨(.p (.eqnil .ptr true)), [.tmp (nat_lit 2), .const (.ptr none)], (some (nat_lit 3)), none⟩])
 (.cond (.tmp (nat_lit 3)) (.region [
  .ins ⟨(.p .mv), [.tmp (nat_lit 0)], (some (nat_lit 4)), none⟩,
  .ins ⟨(.c .value), [.const (.func (.func (nat_lit 165)) [] []), .tmp (nat_lit 4)], (some (nat_lit 5)), none⟩])
 .skip))⟩

def c99 : Code' := .fn ⟨(nat_lit 34), [],
 (.seq (.seq (.region [
  .ins ⟨(.r (.load false (nat_lit 1))), [.tmp (nat_lit 1)], (some (nat_lit 8)), none⟩,
  .ins ⟨(.p (.eqnil .ptr false)), [.tmp (nat_lit 8), .const (.ptr none)], (some (nat_lit 9)), none⟩])
 (.cond (.tmp (nat_lit 9)) .ret
 .skip))
 (.seq (.region [
  .ins ⟨(.a (.alloc [(.bool false), (.bool false), (.bool false), (.bool false), (.bool false), (.bool false)])), [], (some (nat_lit 4)), none⟩])
 (.block (nat_lit 0) (.loop (.block (nat_lit 1) (.seq (.region [
  .ins ⟨(.r (.load false (nat_lit 1))), [.tmp (nat_lit 1)], (some (nat_lit 11)), none⟩,
  .ins ⟨(.r (.load true (nat_lit 6))), [.tmp (nat_lit 4)], (some (nat_lit 12)), none⟩,
  .ins ⟨(.c .value), [.const (.func (.func (nat_lit 100)) [] []), .tmp (nat_lit 11), .tmp (nat_lit 12)], (some (nat_lit 13)), none⟩,
  .ins ⟨(.p .mv), [.tmp (nat_lit 13)], (some (nat_lit 10)), none⟩,
  .ins ⟨(.p (.extract (nat_lit 0))), [.tmp (nat_lit 10)], (some (nat_lit 14)), none⟩,
  .ins ⟨(.p (.extract (nat_lit 1))), [.tmp (nat_lit 10)], (some (nat_lit 15)), none⟩,
  .ins ⟨(.p (.extract (nat_lit 2))), [.tmp (nat_lit 10)], (some (nat_lit 16)), none⟩,
  .ins ⟨(.p .mv), [.tmp (nat_lit 14)], (some (nat_lit 5)), none⟩,
  .ins ⟨(.p .mv), [.tmp (nat_lit 15)], (some (nat_lit 6)), none⟩,
  .ins ⟨(.p .mv), [.tmp (nat_lit 16)], (some (nat_lit 7)), none⟩])
 (.seq (.seq (.region [
  .ins ⟨(.p .mv), [.tmp (nat_lit 7)], (some (nat_lit 17)), none⟩,
  .ins ⟨(.p (.un .not)), [.tmp (nat_lit 17)], (some (nat_lit 18)), none⟩,
  .ins ⟨(.p .mv), [.tmp (nat_lit 18)], (some (nat_lit 19)), none⟩,
  .ins ⟨(.p .mv), [.tmp (nat_lit 6)], (some (nat_lit 20)), (some ((nat_lit 19), false))⟩,
  .ins ⟨(.r (.load false (nat_lit 1))), [.tmp (nat_lit 2)], (some (nat_lit 21)), (some ((nat_lit 19), false))⟩,
  .ins ⟨(.p (.bini .gtr)), [.tmp (nat_lit 20), .tmp (nat_lit 21)], (some (nat_lit 22)), (some ((nat_lit 19), false))⟩,
  .ins ⟨(.p .pick), [.tmp (nat_lit 19), .const (.bool true), .tmp (nat_lit 22)], (some (nat_lit 23)), none⟩])
 (.cond (.tmp (nat_lit 23)) .ret
 .skip))
 (.seq (.region [
  .ins ⟨(.p .mv), [.tmp (nat_lit 5)], (some (nat_lit 24)), none⟩,
  .ins ⟨(.p (.indexAddrArr (nat_lit 6) (nat_lit 1))), [.tmp (nat_lit 4), .tmp (nat_lit 24)], (some (nat_lit 25)), none⟩,
  .ins ⟨(.l (.store (nat_lit 1))), [.tmp (nat_lit 25), .const (.bool true)], none, none⟩])
 (.seq (.region [
  .ins ⟨(.r (.load false (nat_lit 1))), [.tmp (nat_lit 1)], (some (nat_lit 26)), none⟩,
  .ins ⟨(.p .mv), [.tmp (nat_lit 5)], (some (nat_lit 27)), none⟩,
  .ins ⟨(.c .value), [.const (.func (.func (nat_lit 91)) [] []), .tmp (nat_lit 26), .tmp (nat_lit 27)], (some (nat_lit 28)), none⟩])
 (.seq (.region [
  .ins ⟨(.p .mv), [.tmp (nat_lit 0)], (some (nat_lit 29)), none⟩,
  .ins ⟨(.p .mv), [.tmp (nat_lit 5)], (some (nat_lit 30)), none⟩,
  .ins ⟨(.p .mv), [.tmp (nat_lit 6)], (some (nat_lit 31)), none⟩,
  .ins ⟨(.c .value), [.tmp (nat_lit 29), .tmp (nat_lit 30), .tmp (nat_lit 31)], (some (nat_lit 32)), none⟩,
  .ins ⟨(.p (.un .not)), [.tmp (nat_lit 32)], (some (nat_lit 33)), none⟩])
 (.cond (.tmp (nat_lit 33)) .ret
 .skip)))))))))))⟩

def c100 : Code' := .fn ⟨(nat_lit 58), [.tmp (nat_lit 4), .tmp (nat_lit 5), .tmp (nat_lit 6)],
 (.seq (.region [
  .ins ⟨(.a .box), [.tmp (nat_lit 1)], (some (nat_lit 3)), none⟩,
  .ins ⟨(.p .mv), [.const (.int .i64 (.ofNat (nat_lit 0)))], (some (nat_lit 4)), none⟩,
  .ins ⟨(.p .mv), [.const (.int .i64 (.ofNat (nat_lit 0)))], (some (nat_lit 5)), none⟩,
  .ins ⟨(.p .mv), [.const (.bool false)], (some (nat_lit 6)), none⟩])
 (.seq (.region [
  .ins ⟨(.p .mv), [.const (.int .i64 (.ofNat (nat_lit 0)))], (some (nat_lit 7)), none⟩])
 (.seq (.seq (.region [
  .ins ⟨(.p .mv), [.const (.int .i64 (.ofNat (nat_lit 1)))], (some (nat_lit 8)), none⟩])
 (.block (nat_lit 0) (.loop (.seq (.seq (.region [
  .ins ⟨(.p .mv), [.tmp (nat_lit 8)], (some (nat_lit 9)), none⟩,
  .ins ⟨(.p (.bini .leq)), [.tmp (nat_lit 9), .const (.int .i64 (.ofNat (nat_lit 5)))], (some (nat_lit 10)), none⟩])
 (.cond (.tmp (nat_lit 10)) .skip
 (.exit (nat_lit 0))))
 (.seq (.block (nat_lit 1) (.seq (.region [
  .ins ⟨(.p .mv), [.tmp (nat_lit 0)], (some (nat_lit 13)), none⟩,
  .ins ⟨(.p .mv), [.tmp (nat_lit 8)], (some (nat_lit 14)), none⟩,
  .ins ⟨(.p .nilck), [.tmp (nat_lit 13)], (some (nat_lit 15)), none⟩,
  .ins ⟨(.p (.fieldAddr (nat_lit 0))), [.tmp (nat_lit 15)], (some (nat_lit 16)), none⟩,
  .ins ⟨(.p (.indexAddrArr (nat_lit 6) (nat_lit 2))), [.tmp (nat_lit 16), .tmp (nat_lit 14)], (some (nat_lit 17)), none⟩,
  .ins ⟨(.p (.fieldAddr (nat_lit 1))), [.tmp (nat_lit 17)], (some (nat_lit 18)), none⟩,
  .ins ⟨(.r (.load false (nat_lit 1))), [.tmp (nat_lit 18)], (some (nat_lit 19)), none⟩,
  .ins ⟨(.p .mv), [.tmp (nat_lit 19)], (some (nat_lit 20)), none⟩,
  .ins ⟨(.p .mv), [.tmp (nat_lit 8)], (some (nat_lit 21)), (some ((nat_lit 20), true))⟩,
  .ins ⟨(.p (.indexAddrArr (nat_lit 6) (nat_lit 1))), [.tmp (nat_lit 3), .tmp (nat_lit 21)], (some (nat_lit 22)), (some ((nat_lit 20), true))⟩,
  .ins ⟨(.r (.load false (nat_lit 1))), [.tmp (nat_lit 22)], (some (nat_lit 23)), (some ((nat_lit 20), true))⟩,
  .ins ⟨(.p (.un .not)), [.tmp (nat_lit 23)], (some (nat_lit 24)), (some ((nat_lit 20), true))⟩,
  .ins ⟨(.p .pick), [.tmp (nat_lit 20), .tmp (nat_lit 24), .const (.bool false)], (some (nat_lit 25)), none⟩,
  .ins ⟨(.p .mv), [.tmp (nat_lit 25)], (some (nat_lit 26)), none⟩,
  .ins ⟨(.p .mv), [.tmp (nat_lit 7)], (some (nat_lit 27)), (some ((nat_lit 26), true))⟩,
  .ins ⟨(.p (.bini .eql)), [.tmp (nat_lit 27), .const (.int .i64 (.ofNat (nat_lit 0)))], (some (nat_lit 28)), (some ((nat_lit 26), true))⟩,
  .ins ⟨(.p .mv), [.tmp (nat_lit 28)], (some (nat_lit 29)), (some ((nat_lit 26), true))⟩,
  .ins ⟨(.p .mv), [.tmp (nat_lit 0)], (some (nat_lit 30)), (some ((nat_lit 29), false))⟩,
  .ins ⟨(.p .mv), [.tmp (nat_lit 8)], (some (nat_lit 31)), (some ((nat_lit 29), false))⟩,
  .ins ⟨(.p .nilck), [.tmp (nat_lit 30)], (some (nat_lit 32)), (some ((nat_lit 29), false))⟩,
  .ins ⟨(.p (.fieldAddr (nat_lit 0))), [.tmp (nat_lit 32)], (some (nat_lit 33)), (some ((nat_lit 29), false))⟩,
  .ins ⟨(.p (.indexAddrArr (nat_lit 6) (nat_lit 2))), [.tmp (nat_lit 33), .tmp (nat_lit 31)], (some (nat_lit 34)), (some ((nat_lit 29), false))⟩,
  .ins ⟨(.p (.fieldAddr (nat_lit 0))), [.tmp (nat_lit 34)], (some (nat_lit 35)), (some ((nat_lit 29), false))⟩,
  .ins ⟨(.r (.load false (nat_lit 1))), [.tmp (nat_lit 35)], (some (nat_lit 36)), (some ((nat_lit 29), false))⟩,
  .ins ⟨(.p .mv), [.tmp (nat_lit 0)], (some (nat_lit 37)), (some ((nat_lit 29), false))⟩,
  .ins ⟨(.p .mv), [.tmp (nat_lit 7)], (some (nat_lit 38)), (some ((nat_lit 29), false))⟩,
  .ins ⟨(.p .nilck), [.tmp (nat_lit 37)], (some (nat_lit 39)), (some ((nat_lit 29), false))⟩,
  .ins ⟨(.p (.fieldAddr (nat_lit 0))), [.tmp (nat_lit 39)], (some (nat_lit 40)), (some ((nat_lit 29), false))⟩,
  .ins ⟨(.p (.indexAddrArr (nat_lit 6) (nat_lit 2))), [.tmp (nat_lit 40), .tmp (nat_lit 38)], (some (nat_lit 41)), (some ((nat_lit 29), false))⟩,
  .ins ⟨(.p (.fieldAddr (nat_lit 0))), [.tmp (nat_lit 41)], (some (nat_lit 42)), (some ((nat_lit 29), false))⟩,
  .ins ⟨(.r (.load false (nat_lit 1))), [.tmp (nat_lit 42)], (some (nat_lit 43)), (some ((nat_lit 29), false))⟩,
  .ins ⟨(.p (.bini .lss)), [.tmp (nat_lit 36), .tmp (nat_lit 43)], (some (nat_lit 44)), (some ((nat_lit 29), false))⟩,
  .ins ⟨(.p .pick), [.tmp (nat_lit 29), .const (.bool true), .tmp (nat_lit 44)], (some (nat_lit 45)), (some ((nat_lit 26), true))⟩,
  .ins ⟨(.p .pick), [.tmp (nat_lit 26), .tmp (nat_lit 45), .const (.bool false)], (some (nat_lit 46)), none⟩])
 (.cond (.tmp (nat_lit 46)) (.region [
  .ins ⟨(.p .mv), [.tmp (nat_lit 8)], (some (nat_lit 47)), none⟩,
  .ins ⟨(.p .mv), [.tmp (nat_lit 47)], (some (nat_lit 7)), none⟩])
 .skip)))
 (.region [
  .ins ⟨(.p .mv), [.tmp (nat_lit 8)], (some (nat_lit 11)), none⟩,
  .ins ⟨(.p (.bini .add)), [.tmp (nat_lit 11), .const (.int .i64 (.ofNat (nat_lit 1)))], (some (nat_lit 12)), none⟩,
  .ins ⟨(.p .mv), [.tmp (nat_lit 12)], (some (nat_lit 8)), none⟩]))))))
 (.seq (.region [
  .ins ⟨(.p .mv), [.tmp (nat_lit 7)], (some (nat_lit 48)), none⟩,
  .ins ⟨(.p .mv), [.tmp (nat_lit 0)], (some (nat_lit 49)), none⟩,
  .ins ⟨(.p .mv), [.tmp (nat_lit 7)], (some (nat_lit 50)), none⟩,
  .ins ⟨(.p .nilck), [.tmp (nat_lit 49)], (some (nat_lit 51)), none⟩,
  .ins ⟨(.p (.fieldAddr (nat_lit 0))), [.tmp (nat_lit 51)], (some (nat_lit 52)), none⟩,
  .ins ⟨(.p (.indexAddrArr (nat_lit 6) (nat_lit 2))), [.tmp (nat_lit 52), .tmp (nat_lit 50)], (some (nat_lit 53)), none⟩,
  .ins ⟨(.p (.fieldAddr (nat_lit 0))), [.tmp (nat_lit 53)], (some (nat_lit 54)), none⟩,
  .ins ⟨(.r (.load false (nat_lit 1))), [.tmp (nat_lit 54)], (some (nat_lit 55)), none⟩,
  .ins ⟨(.p .mv), [.tmp (nat_lit 7)], (some (nat_lit 56)), none⟩,
  .ins ⟨(.p (.bini .gtr)), [.tmp (nat_lit 56), .const (.int .i64 (.ofNat (nat_lit 0)))], (some (nat_lit 57)), none⟩,
  .ins ⟨(.p .mv), [.tmp (nat_lit 48)], (some (nat_lit 4)), none⟩,
  .ins ⟨(.p .mv), [.tmp (nat_lit 55)], (some (nat_lit 5)), none⟩,
  .ins ⟨(.p .mv), [.tmp (nat_lit 57)], (some (nat_lit 6)), none⟩])
 .ret))))⟩

def c102 : Code' := .fn ⟨(nat_lit 48), [.tmp (nat_lit 6)],
 (.seq (.region [
  .ins ⟨(.p .mv), [.const (.int .i64 (.ofNat (nat_lit 0)))], (some (nat_lit 6)), none⟩])
 (.seq (.seq (.region [
  .ins ⟨(.p .mv), [.tmp (nat_lit 0)], (some (nat_lit 8)), none⟩,
  .ins ⟨(.c .value), [.const (.func (.func (nat_lit 106)) [] []), .tmp (nat_lit 8)], (some (nat_lit 9)), none⟩,
  .ins ⟨(.p .mv), [.tmp (nat_lit 9)], (some (nat_lit 7)), none⟩])
 (.seq (.region [
  .ins ⟨(.p .mv), [.tmp (nat_lit 7)], (some (nat_lit 10)), none⟩,
  .ins ⟨(.p (.bini .neq)), [.tmp (nat_lit 10), .const (.int .i64 (.ofNat (nat_lit 0)))], (some (nat_lit 11)), none⟩])
 (.cond (.tmp (nat_lit 11)) (.seq (.region [
  .ins ⟨(.p .mv), [.tmp (nat_lit 7)], (some (nat_lit 12)), none⟩,
  .ins ⟨(.p .mv), [.tmp (nat_lit 12)], (some (nat_lit 6)), none⟩])
 .ret)
 .skip)))
 (.seq (.seq (.region [
  .ins ⟨(.p .mv), [.tmp (nat_lit 1)], (some (nat_lit 13)), none⟩,
  .ins ⟨(.p (.bini .lss)), [.tmp (nat_lit 13), .const (.int .i64 (.ofNat (nat_lit 0)))], (some (nat_lit 14)), none⟩,
  .ins ⟨(.p .mv), [.tmp (nat_lit 14)], (some (nat_lit 15)), none⟩,
  .ins ⟨(.p .mv), [.tmp (nat_lit 1)], (some (nat_lit 16)), (some ((nat_lit 15), false))⟩,
  .ins ⟨(.p (.bini .gtr)), [.tmp (nat_lit 16), .const (.int .i64 (.ofNat (nat_lit 2147483647)))], (some (nat_lit 17)), (some ((nat_lit 15), false))⟩,
  .ins ⟨(.p .pick), [.tmp (nat_lit 15), .const (.bool true), .tmp (nat_lit 17)], (some (nat_lit 18)), none⟩,
  .ins ⟨(.p .mv), [.tmp (nat_lit 18)], (some (nat_lit 19)), none⟩,
  .ins ⟨(.p .mv), [.tmp (nat_lit 0)], (some (nat_lit 20)), (some ((nat_lit 19), false))⟩,
  .ins ⟨(.p .nilck), [.tmp (nat_lit 20)], (some (nat_lit 21)), (some ((nat_lit 19), false))⟩,
  .ins ⟨(.p (.fieldAddr (nat_lit 21))), [.tmp (nat_lit 21)], (some (nat_lit 22)), (some ((nat_lit 19), false))⟩,
  .ins ⟨(.r (.load false (nat_lit 1))), [.tmp (nat_lit 22)], (some (nat_lit 23)), (some ((nat_lit 19), false))⟩,
  .ins ⟨(.p (.bini .geq)), [.tmp (nat_lit 23), .const (.int .i64 (.ofNat (nat_lit 0)))], (some (nat_lit 24)), (some ((nat_lit 19), false))⟩,
  .ins ⟨(.p .mv), [.tmp (nat_lit 24)], (some (nat_lit 25)), (some ((nat_lit 19), false))⟩,
  .ins ⟨(.p .mv), [.tmp (nat_lit 1)], (some (nat_lit 26)), (some ((nat_lit 25), true))⟩,
  .ins ⟨(.p .mv), [.tmp (nat_lit 0)], (some (nat_lit 27)), (some ((nat_lit 25), true))⟩,
  .ins ⟨(.p .nilck), [.tmp (nat_lit 27)], (some (nat_lit 28)), (some ((nat_lit 25), true))⟩,
  .ins ⟨(.p (.fieldAddr (nat_lit 21))), [.tmp (nat_lit 28)], (some (nat_lit 29)), (some ((nat_lit 25), true))⟩,
  .ins ⟨(.r (.load false (nat_lit 1))), [.tmp (nat_lit 29)], (some (nat_lit 30)), (some ((nat_lit 25), true))⟩,
  .ins ⟨(.p (.bini .gtr)), [.tmp (nat_lit 26), .tmp (nat_lit 30)], (some (nat_lit 31)), (some ((nat_lit 25), true))⟩,
  .ins ⟨(.p .pick), [.tmp (nat_lit 25), .tmp (nat_lit 31), .const (.bool false)], (some (nat_lit 32)), (some ((nat_lit 19), false))⟩,
  .ins ⟨(.p .pick), [.tmp (nat_lit 19), .const (.bool true), .tmp (nat_lit 32)], (some (nat_lit 33)), none⟩,
  .ins ⟨(.p .mv), [.tmp (nat_lit 33)], (some (nat_lit 34)), none⟩,
  .ins ⟨(.p .mv), [.tmp (nat_lit 2)], (some (nat_lit 35)), (some ((nat_lit 34), false))⟩,
  .ins ⟨(.c .value), [.const (.func (.func (nat_lit 117)) [] []), .tmp (nat_lit 35)], (some (nat_lit 36)), (some ((nat_lit 34), false))⟩,
  .ins ⟨(.p (.un .not)), [.tmp (nat_lit 36)], (some (nat_lit 37)), (some ((nat_lit 34), false))⟩,
  .ins ⟨(.p .pick), [.tmp (nat_lit 34), .const (.bool true), .tmp (nat_lit 37)], (some (nat_lit 38)), none⟩])
 (.cond (.tmp (nat_lit 38)) (.seq (.region [
  .ins ⟨(.p .mv), [.const (.int .i64 (.ofNat (nat_lit 1)))], (some (nat_lit 6)), none⟩])
 .ret)
 .skip))
 (.seq (.region [
  .ins ⟨(.p .mv), [.tmp (nat_lit 0)], (some (nat_lit 39)), none⟩,
  .ins ⟨(.p .mv), [.tmp (nat_lit 1)], (some (nat_lit 40)), none⟩,
  .ins ⟨(.p .nilck), [.tmp (nat_lit 39)], (some (nat_lit 41)), none⟩,
  .ins ⟨(.p (.fieldAddr (nat_lit 21))), [.tmp (nat_lit 41)], (some (nat_lit 42)), none⟩,
  .ins ⟨(.l (.store (nat_lit 1))), [.tmp (nat_lit 42), .tmp (nat_lit 40)], none, none⟩])
 (.seq (.region [
  .ins ⟨(.p .mv), [.tmp (nat_lit 0)], (some (nat_lit 43)), none⟩,
  .ins ⟨(.p .mv), [.tmp (nat_lit 1)], (some (nat_lit 44)), none⟩,
  .ins ⟨(.p .mv), [.tmp (nat_lit 2)], (some (nat_lit 45)), none⟩,
  .ins ⟨(.p (.build [(.slice none (nat_lit 0) (nat_lit 0) (nat_lit 0)), (.int .i64 (.ofNat (nat_lit 0))), (.bool false), (.bool false), (.int .i64 (.ofNat (nat_lit 0))), (.int .i64 (.ofNat (nat_lit 0))), (.int .i64 (.ofNat (nat_lit 0))), (.int .i64 (.ofNat (nat_lit 0))), (.int .i64 (.ofNat (nat_lit 0))), (.slice none (nat_lit 0) (nat_lit 0) (nat_lit 0)), (.int .i64 (.ofNat (nat_lit 0)))] [((nat_lit 7), (nat_lit 1)), ((nat_lit 6), (nat_lit 1))])), [.tmp (nat_lit 44), .tmp (nat_lit 45)], (some (nat_lit 46)), none⟩,
  .ins ⟨(.c .value), [.const (.func (.func (nat_lit 118)) [] []), .tmp (nat_lit 43), .const (.int .i64 (.ofNat (nat_lit 7))), .const (.int .i64 (.ofNat (nat_lit 0))), .const (.int .i64 (.ofNat (nat_lit 0))), .tmp (nat_lit 46)], (some (nat_lit 47)), none⟩])
 (.seq (.region [
  .ins ⟨(.p .mv), [.const (.int .i64 (.ofNat (nat_lit 0)))], (some (nat_lit 6)), none⟩])
 .ret))))))⟩

def c105 : Code' := .fn ⟨(nat_lit 33), [.tmp (nat_lit 6)],
 (.seq (.region [
  .ins ⟨(.p .mv), [.const (.slice none (nat_lit 0) (nat_lit 0) (nat_lit 0))], (some (nat_lit 6)), none⟩])
 (.seq (.region [
  .ins ⟨(.p .mv), [.tmp (nat_lit 0)], (some (nat_lit 8)), none⟩,
  .ins ⟨(.p .mv), [.tmp (nat_lit 1)], (some (nat_lit 9)), none⟩,
  .ins ⟨(.p .mv), [.tmp (nat_lit 2)], (some (nat_lit 10)), none⟩,
  .ins ⟨(.p .mv), [.tmp (nat_lit 0)], (some (nat_lit 11)), none⟩,
  .ins ⟨(.p .lenSl), [.tmp (nat_lit 11)], (some (nat_lit 12)), none⟩,
  .ins ⟨(.p (.slice3 (nat_lit 1) true)), [.tmp (nat_lit 8), .tmp (nat_lit 9), .tmp (nat_lit 10), .tmp (nat_lit 12)], (some (nat_lit 13)), none⟩])
 (.seq (.seq (.region [
  .ins ⟨(.p .mv), [.tmp (nat_lit 1)], (some (nat_lit 14)), none⟩,
  .ins ⟨(.p .mv), [.tmp (nat_lit 2)], (some (nat_lit 15)), none⟩,
  .ins ⟨(.p (.bini .eql)), [.tmp (nat_lit 14), .tmp (nat_lit 15)], (some (nat_lit 16)), none⟩])
 (.cond (.tmp (nat_lit 16)) (.seq (.region [
  .ins ⟨(.p .mv), [.tmp (nat_lit 0)], (some (nat_lit 17)), none⟩,
  .ins ⟨(.p .mv), [.tmp (nat_lit 17)], (some (nat_lit 6)), none⟩])
 .ret)
 .skip))
 (.seq (.region [
  .ins ⟨(.p .mv), [.tmp (nat_lit 0)], (some (nat_lit 18)), none⟩,
  .ins ⟨(.p .lenSl), [.tmp (nat_lit 18)], (some (nat_lit 19)), none⟩,
  .ins ⟨(.p .mv), [.tmp (nat_lit 19)], (some (nat_lit 7)), none⟩])
 (.seq (.region [
  .ins ⟨(.p .mv), [.tmp (nat_lit 0)], (some (nat_lit 20)), none⟩,
  .ins ⟨(.p .mv), [.tmp (nat_lit 1)], (some (nat_lit 21)), none⟩,
  .ins ⟨(.p (.slice (nat_lit 1) false true)), [.tmp (nat_lit 20), .tmp (nat_lit 21)], (some (nat_lit 22)), none⟩,
  .ins ⟨(.p .mv), [.tmp (nat_lit 0)], (some (nat_lit 23)), none⟩,
  .ins ⟨(.p .mv), [.tmp (nat_lit 2)], (some (nat_lit 24)), none⟩,
  .ins ⟨(.p (.slice (nat_lit 1) true false)), [.tmp (nat_lit 23), .tmp (nat_lit 24)], (some (nat_lit 25)), none⟩,
  .ins ⟨(.l (.append [(.int .u8 (.ofNat (nat_lit 0)))] (nat_lit 1) (nat_lit 1))), [.tmp (nat_lit 22), .tmp (nat_lit 25)], (some (nat_lit 26)), none⟩,
  .ins ⟨(.p .mv), [.tmp (nat_lit 26)], (some (nat_lit 0)), none⟩])
 (.seq (.region [
  .ins ⟨(.p .mv), [.tmp (nat_lit 0)], (some (nat_lit 27)), none⟩,
  .ins ⟨(.p .mv), [.tmp (nat_lit 0)], (some (nat_lit 28)), none⟩,
  .ins ⟨(.p .lenSl), [.tmp (nat_lit 28)], (some (nat_lit 29)), none⟩,
  .ins ⟨(.p .mv), [.tmp (nat_lit 7)], (some (nat_lit 30)), none⟩,
  .ins ⟨(.p (.slice (nat_lit 1) true true)), [.tmp (nat_lit 27), .tmp (nat_lit 29), .tmp (nat_lit 30)], (some (nat_lit 31)), none⟩,
  .ins ⟨(.l (.clear [(.int .u8 (.ofNat (nat_lit 0)))])), [.tmp (nat_lit 31)], none, none⟩])
 (.seq (.region [
  .ins ⟨(.p .mv), [.tmp (nat_lit 0)], (some (nat_lit 32)), none⟩,
  .ins ⟨(.p .mv), [.tmp (nat_lit 32)], (some (nat_lit 6)), none⟩])
 .ret)))))))⟩

def c106 : Code' := .fn ⟨(nat_lit 11), [.tmp (nat_lit 2)],
 (.seq (.region [
  .ins ⟨(.p .mv), [.const (.int .i64 (.ofNat (nat_lit 0)))], (some (nat_lit 2)), none⟩])
 (.seq (.block (nat_lit 0) (.seq (.region [
  .ins ⟨(.p .mv), [.tmp (nat_lit 0)], (some (nat_lit 4)), none⟩,
  .ins ⟨(.p (.eqnil .ptr false)), [.tmp (nat_lit 4), .const (.ptr none)], (some (nat_lit 5)), none⟩,
  .ins ⟨(.p .mv), [.tmp (nat_lit 5)], (some (nat_lit 3)), none⟩])
 (.cond (.tmp (nat_lit 3)) (.seq (.region [
  .ins ⟨(.p .mv), [.const (.int .i64 (.ofNat (nat_lit 1)))], (some (nat_lit 2)), none⟩])
 .ret)
 (.seq (.region [
  .ins ⟨(.p .mv), [.tmp (nat_lit 0)], (some (nat_lit 7)), none⟩,
  .ins ⟨(.p .nilck), [.tmp (nat_lit 7)], (some (nat_lit 8)), none⟩,
  .ins ⟨(.p (.fieldAddr (nat_lit 15))), [.tmp (nat_lit 8)], (some (nat_lit 9)), none⟩,
  .ins ⟨(.r (.load false (nat_lit 1))), [.tmp (nat_lit 9)], (some (nat_lit 10)), none⟩,
  .ins ⟨(.p .mv), [.tmp (nat_lit 10)], (some (nat_lit 6)), none⟩])
 (.cond (.tmp (nat_lit 6)) (.seq (.region [
  .ins ⟨(.p .mv), [.const (.int .i64 (.ofNat (nat_lit 11)))], (some (nat_lit 2)), none⟩])
 .ret)
 .skip)))))
 (.seq (.region [
  .ins ⟨(.p .mv), [.const (.int .i64 (.ofNat (nat_lit 0)))], (some (nat_lit 2)), none⟩])
 .ret)))⟩

def c107 : Code' := .fn ⟨(nat_lit 47), [.tmp (nat_lit 2)],
 (.seq (.region [
  .ins ⟨(.p .mv), [.const (.int .i64 (.ofNat (nat_lit 0)))], (some (nat_lit 2)), none⟩])
 (.seq (.region [
  .ins ⟨(.p .mv), [.tmp (nat_lit 0)], (some (nat_lit 10)), none⟩,
  .ins ⟨(.c .value), [.const (.func (.func (nat_lit 166)) [] []), .tmp (nat_lit 10)], (some (nat_lit 11)), none⟩,
  .ins ⟨(.p .mv), [.tmp (nat_lit 11)], (some (nat_lit 9)), none⟩,
  .ins ⟨(.p (.extract (nat_lit 0))), [.tmp (nat_lit 9)], (some (nat_lit 12)), none⟩,
  .ins ⟨(.p (.extract (nat_lit 1))), [.tmp (nat_lit 9)], (some (nat_lit 13)), none⟩,
  .ins ⟨(.p .mv), [.tmp (nat_lit 12)], (some (nat_lit 3)), none⟩,
  .ins ⟨(.p .mv), [.tmp (nat_lit 13)], (some (nat_lit 4)), none⟩])
 (.seq (.seq (.region [
  .ins ⟨(.p .mv), [.tmp (nat_lit 4)], (some (nat_lit 14)), none⟩,
  .ins ⟨(.p (.un .not)), [.tmp (nat_lit 14)], (some (nat_lit 15)), none⟩,
  .ins ⟨(.p .mv), [.tmp (nat_lit 15)], (some (nat_lit 16)), none⟩,
  .ins ⟨(.p .mv), [.tmp (nat_lit 3)], (some (nat_lit 17)), (some ((nat_lit 16), false))⟩,
  .ins ⟨(.r (.lookup (.str (bs [])) false)), [.tmp (nat_lit 17), .const (.str (bs [(nat_lit 58), (nat_lit 109), (nat_lit 101), (nat_lit 116), (nat_lit 104), (nat_lit 111), (nat_lit 100)]))], (some (nat_lit 18)), (some ((nat_lit 16), false))⟩,
  .ins ⟨(.p (.bins .eql)), [.tmp (nat_lit 18), .const (.str (bs []))], (some (nat_lit 19)), (some ((nat_lit 16), false))⟩,
  .ins ⟨(.p .pick), [.tmp (nat_lit 16), .const (.bool true), .tmp (nat_lit 19)], (some (nat_lit 20)), none⟩,
  .ins ⟨(.p .mv), [.tmp (nat_lit 20)], (some (nat_lit 21)), none⟩,
  .ins ⟨(.p .mv), [.tmp (nat_lit 3)], (some (nat_lit 22)), (some ((nat_lit 21), false))⟩,
  .ins ⟨(.r (.lookup (.str (bs [])) false)), [.tmp (nat_lit 22), .const (.str (bs [(nat_lit 58), (nat_lit 115), (nat_lit 99), (nat_lit 104), (nat_lit 101), (nat_lit 109), (nat_lit 101)]))], (some (nat_lit 23)), (some ((nat_lit 21), false))⟩,
  .ins ⟨(.p (.bins .eql)), [.tmp (nat_lit 23), .const (.str (bs []))], (some (nat_lit 24)), (some ((nat_lit 21), false))⟩,
  .ins ⟨(.p .pick), [.tmp (nat_lit 21), .const (.bool true), .tmp (nat_lit 24)], (some (nat_lit 25)), none⟩])
 (.cond (.tmp (nat_lit 25)) (.seq (.region [
  .ins ⟨(.p .mv), [.const (.int .i64 (.ofNat (nat_lit 5)))], (some (nat_lit 2)), none⟩])
 .ret)
 .skip))
 (.seq (.region [
  .ins ⟨(.p .mv), [.const (.int .i64 (.ofNat (nat_lit 3)))], (some (nat_lit 5)), none⟩])
 (.seq (.seq (.region [
  .ins ⟨(.p .mv), [.tmp (nat_lit 3)], (some (nat_lit 27)), none⟩,
  .ins ⟨(.r (.lookup (.str (bs [])) true)), [.tmp (nat_lit 27), .const (.str (bs [(nat_lit 58), (nat_lit 97), (nat_lit 117), (nat_lit 116), (nat_lit 104), (nat_lit 111), (nat_lit 114), (nat_lit 105), (nat_lit 116), (nat_lit 121)]))], (some (nat_lit 28)), none⟩,
  .ins ⟨(.p .mv), [.tmp (nat_lit 28)], (some (nat_lit 26)), none⟩,
  .ins ⟨(.p (.extract (nat_lit 0))), [.tmp (nat_lit 26)], (some (nat_lit 29)), none⟩,
  .ins ⟨(.p (.extract (nat_lit 1))), [.tmp (nat_lit 26)], (some (nat_lit 30)), none⟩,
  .ins ⟨(.p .mv), [.tmp (nat_lit 29)], (some (nat_lit 6)), none⟩,
  .ins ⟨(.p .mv), [.tmp (nat_lit 30)], (some (nat_lit 7)), none⟩])
 (.seq (.region [
  .ins ⟨(.p .mv), [.tmp (nat_lit 7)], (some (nat_lit 31)), none⟩])
 (.cond (.tmp (nat_lit 31)) (.region [
  .ins ⟨(.p .mv), [.const (.int .i64 (.ofNat (nat_lit 4)))], (some (nat_lit 5)), none⟩])
 .skip)))
 (.seq (.seq (.region [
  .ins ⟨(.p .mv), [.tmp (nat_lit 3)], (some (nat_lit 32)), none⟩,
  .ins ⟨(.r (.lookup (.str (bs [])) false)), [.tmp (nat_lit 32), .const (.str (bs [(nat_lit 58), (nat_lit 112), (nat_lit 97), (nat_lit 116), (nat_lit 104)]))], (some (nat_lit 33)), none⟩,
  .ins ⟨(.p .mv), [.tmp (nat_lit 33)], (some (nat_lit 8)), none⟩])
 (.seq (.region [
  .ins ⟨(.p .mv), [.tmp (nat_lit 3)], (some (nat_lit 34)), none⟩,
  .ins ⟨(.r .lenMap), [.tmp (nat_lit 34)], (some (nat_lit 35)), none⟩,
  .ins ⟨(.p .mv), [.tmp (nat_lit 5)], (some (nat_lit 36)), none⟩,
  .ins ⟨(.p (.bini .neq)), [.tmp (nat_lit 35), .tmp (nat_lit 36)], (some (nat_lit 37)), none⟩,
  .ins ⟨(.p .mv), [.tmp (nat_lit 37)], (some (nat_lit 38)), none⟩,
  .ins ⟨(.p .mv), [.tmp (nat_lit 8)], (some (nat_lit 39)), (some ((nat_lit 38), false))⟩,
  .ins ⟨(.c .value), [.const (.func (.func (nat_lit 167)) [] []), .tmp (nat_lit 39), .const (.str (bs [(nat_lit 47)]))], (some (nat_lit 40)), (some ((nat_lit 38), false))⟩,
  .ins ⟨(.p (.un .not)), [.tmp (nat_lit 40)], (some (nat_lit 41)), (some ((nat_lit 38), false))⟩,
  .ins ⟨(.p .mv), [.tmp (nat_lit 41)], (some (nat_lit 42)), (some ((nat_lit 38), false))⟩,
  .ins ⟨(.p .mv), [.tmp (nat_lit 8)], (some (nat_lit 43)), (some ((nat_lit 42), true))⟩,
  .ins ⟨(.p (.bins .neq)), [.tmp (nat_lit 43), .const (.str (bs [(nat_lit 42)]))], (some (nat_lit 44)), (some ((nat_lit 42), true))⟩,
  .ins ⟨(.p .pick), [.tmp (nat_lit 42), .tmp (nat_lit 44), .const (.bool false)], (some (nat_lit 45)), (some ((nat_lit 38), false))⟩,
  .ins ⟨(.p .pick), [.tmp (nat_lit 38), .const (.bool true), .tmp (nat_lit 45)], (some (nat_lit 46)), none⟩])
 (.cond (.tmp (nat_lit 46)) (.seq (.region [
  .ins ⟨(.p .mv), [.const (.int .i64 (.ofNat (nat_lit 5)))], (some (nat_lit 2)), none⟩])
 .ret)
 .skip)))
 (.seq (.region [
  .ins ⟨(.p .mv), [.const (.int .i64 (.ofNat (nat_lit 0)))], (some (nat_lit 2)), none⟩])
 .ret)))))))⟩

def c108 : Code' := .fn ⟨(nat_lit 38), [.tmp (nat_lit 4)],
 (.seq (.region [
  .ins ⟨(.p .mv), [.const (.int .i64 (.ofNat (nat_lit 0)))], (some (nat_lit 4)), none⟩])
 (.seq (.region [
  .ins ⟨(.p .mv), [.tmp (nat_lit 1)], (some (nat_lit 8)), none⟩,
  .ins ⟨(.c .value), [.const (.func (.func (nat_lit 168)) [] []), .tmp (nat_lit 8)], (some (nat_lit 9)), none⟩,
  .ins ⟨(.p .mv), [.tmp (nat_lit 9)], (some (nat_lit 5)), none⟩])
 (.seq (.seq (.region [
  .ins ⟨(.p .mv), [.tmp (nat_lit 1)], (some (nat_lit 10)), none⟩,
  .ins ⟨(.p .lenSl), [.tmp (nat_lit 10)], (some (nat_lit 11)), none⟩,
  .ins ⟨(.p .mv), [.const (.int .i64 (.ofNat (nat_lit 0)))], (some (nat_lit 12)), none⟩])
 (.block (nat_lit 0) (.loop (.seq (.region [
  .ins ⟨(.p (.bini .lss)), [.tmp (nat_lit 12), .tmp (nat_lit 11)], (some (nat_lit 13)), none⟩])
 (.seq (.cond (.tmp (nat_lit 13)) .skip
 (.exit (nat_lit 0)))
 (.seq (.block (nat_lit 1) (.seq (.region [
  .ins ⟨(.p (.indexAddr (nat_lit 3))), [.tmp (nat_lit 10), .tmp (nat_lit 12)], (some (nat_lit 14)), none⟩,
  .ins ⟨(.r (.load true (nat_lit 3))), [.tmp (nat_lit 14)], (some (nat_lit 15)), none⟩,
  .ins ⟨(.a (.alloc [(.str (bs [])), (.str (bs [])), (.bool false)])), [], (some (nat_lit 7)), none⟩,
  .ins ⟨(.l (.store (nat_lit 3))), [.tmp (nat_lit 7), .tmp (nat_lit 15)], none, none⟩])
 (.seq (.region [
  .ins ⟨(.p (.fieldAddr (nat_lit 0))), [.tmp (nat_lit 7)], (some (nat_lit 16)), none⟩,
  .ins ⟨(.r (.load false (nat_lit 1))), [.tmp (nat_lit 16)], (some (nat_lit 17)), none⟩,
  .ins ⟨(.p .lenStr), [.tmp (nat_lit 17)], (some (nat_lit 18)), none⟩,
  .ins ⟨(.p (.bini .gtr)), [.tmp (nat_lit 18), .const (.int .i64 (.ofNat (nat_lit 65536)))], (some (nat_lit 19)), none⟩,
  .ins ⟨(.p .mv), [.tmp (nat_lit 19)], (some (nat_lit 20)), none⟩,
  .ins ⟨(.p (.fieldAddr (nat_lit 1))), [.tmp (nat_lit 7)], (some (nat_lit 21)), (some ((nat_lit 20), false))⟩,
  .ins ⟨(.r (.load false (nat_lit 1))), [.tmp (nat_lit 21)], (some (nat_lit 22)), (some ((nat_lit 20), false))⟩,
  .ins ⟨(.p .lenStr), [.tmp (nat_lit 22)], (some (nat_lit 23)), (some ((nat_lit 20), false))⟩,
  .ins ⟨(.p (.bini .gtr)), [.tmp (nat_lit 23), .const (.int .i64 (.ofNat (nat_lit 65536)))], (some (nat_lit 24)), (some ((nat_lit 20), false))⟩,
  .ins ⟨(.p .pick), [.tmp (nat_lit 20), .const (.bool true), .tmp (nat_lit 24)], (some (nat_lit 25)), none⟩])
 (.cond (.tmp (nat_lit 25)) (.seq (.region [
  .ins ⟨(.p .mv), [.const (.int .i64 (.ofNat (nat_lit 2)))], (some (nat_lit 4)), none⟩])
 .ret)
 .skip))))
 (.region [
  .ins ⟨(.p (.bini .add)), [.tmp (nat_lit 12), .const (.int .i64 (.ofNat (nat_lit 1)))], (some (nat_lit 26)), none⟩,
  .ins ⟨(.p .mv), [.tmp (nat_lit 26)], (some (nat_lit 12)), none⟩])))))))
 (.seq (.block (nat_lit 2) (.seq (.region [
  .ins ⟨(.p .mv), [.tmp (nat_lit 5)], (some (nat_lit 28)), none⟩,
  .ins ⟨(.p (.bini .gtr)), [.tmp (nat_lit 28), .const (.int .i64 (.ofNat (nat_lit 32768)))], (some (nat_lit 29)), none⟩,
  .ins ⟨(.p .mv), [.tmp (nat_lit 29)], (some (nat_lit 27)), none⟩])
 (.cond (.tmp (nat_lit 27)) (.seq (.region [
  .ins ⟨(.p .mv), [.const (.int .i64 (.ofNat (nat_lit 2)))], (some (nat_lit 4)), none⟩])
 .ret)
 (.seq (.region [
  .ins ⟨(.p .mv), [.tmp (nat_lit 5)], (some (nat_lit 31)), none⟩,
  .ins ⟨(.p .mv), [.tmp (nat_lit 0)], (some (nat_lit 32)), none⟩,
  .ins ⟨(.p .nilck), [.tmp (nat_lit 32)], (some (nat_lit 33)), none⟩,
  .ins ⟨(.p (.fieldAddr (nat_lit 2))), [.tmp (nat_lit 33)], (some (nat_lit 34)), none⟩,
  .ins ⟨(.p (.fieldAddr (nat_lit 4))), [.tmp (nat_lit 34)], (some (nat_lit 35)), none⟩,
  .ins ⟨(.r (.load false (nat_lit 1))), [.tmp (nat_lit 35)], (some (nat_lit 36)), none⟩,
  .ins ⟨(.p (.bini .gtr)), [.tmp (nat_lit 31), .tmp (nat_lit 36)], (some (nat_lit 37)), none⟩,
  .ins ⟨(.p .mv), [.tmp (nat_lit 37)], (some (nat_lit 30)), none⟩])
 (.cond (.tmp (nat_lit 30)) (.seq (.region [
  .ins ⟨(.p .mv), [.const (.int .i64 (.ofNat (nat_lit 9)))], (some (nat_lit 4)), none⟩])
 .ret)
 .skip)))))
 (.seq (.region [
  .ins ⟨(.p .mv), [.const (.int .i64 (.ofNat (nat_lit 0)))], (some (nat_lit 4)), none⟩])
 .ret)))))⟩

def c109 : Code' := .fn ⟨(nat_lit 30), [.tmp (nat_lit 2)],
 (.seq (.region [
  .ins ⟨(.p .mv), [.const (.bool false)], (some (nat_lit 2)), none⟩])
 (.seq (.region [
  .ins ⟨(.p .mv), [.tmp (nat_lit 0)], (some (nat_lit 3)), none⟩,
  .ins ⟨(.p .nilck), [.tmp (nat_lit 3)], (some (nat_lit 4)), none⟩,
  .ins ⟨(.p (.fieldAddr (nat_lit 13))), [.tmp (nat_lit 4)], (some (nat_lit 5)), none⟩,
  .ins ⟨(.r (.load false (nat_lit 1))), [.tmp (nat_lit 5)], (some (nat_lit 6)), none⟩,
  .ins ⟨(.p .mv), [.tmp (nat_lit 0)], (some (nat_lit 8)), none⟩,
  .ins ⟨(.p .nilck), [.tmp (nat_lit 8)], (some (nat_lit 9)), none⟩,
  .ins ⟨(.p (.fieldAddr (nat_lit 2))), [.tmp (nat_lit 9)], (some (nat_lit 10)), none⟩,
  .ins ⟨(.p (.fieldAddr (nat_lit 1))), [.tmp (nat_lit 10)], (some (nat_lit 11)), none⟩,
  .ins ⟨(.r (.load false (nat_lit 1))), [.tmp (nat_lit 11)], (some (nat_lit 12)), none⟩,
  .ins ⟨(.c .value), [.const (.func (.func (nat_lit 125)) [] []), .tmp (nat_lit 6)], (some (nat_lit 7)), none⟩,
  .ins ⟨(.p (.bini .geq)), [.tmp (nat_lit 7), .tmp (nat_lit 12)], (some (nat_lit 13)), none⟩,
  .ins ⟨(.p .mv), [.tmp (nat_lit 13)], (some (nat_lit 14)), none⟩,
  .ins ⟨(.p .mv), [.tmp (nat_lit 0)], (some (nat_lit 15)), (some ((nat_lit 14), false))⟩,
  .ins ⟨(.p .nilck), [.tmp (nat_lit 15)], (some (nat_lit 16)), (some ((nat_lit 14), false))⟩,
  .ins ⟨(.p (.fieldAddr (nat_lit 18))), [.tmp (nat_lit 16)], (some (nat_lit 17)), (some ((nat_lit 14), false))⟩,
  .ins ⟨(.r (.load false (nat_lit 1))), [.tmp (nat_lit 17)], (some (nat_lit 18)), (some ((nat_lit 14), false))⟩,
  .ins ⟨(.p (.un .not)), [.tmp (nat_lit 18)], (some (nat_lit 19)), (some ((nat_lit 14), false))⟩,
  .ins ⟨(.p .mv), [.tmp (nat_lit 19)], (some (nat_lit 20)), (some ((nat_lit 14), false))⟩,
  .ins ⟨(.p .mv), [.tmp (nat_lit 0)], (some (nat_lit 21)), (some ((nat_lit 20), true))⟩,
  .ins ⟨(.p .nilck), [.tmp (nat_lit 21)], (some (nat_lit 22)), (some ((nat_lit 20), true))⟩,
  .ins ⟨(.p (.fieldAddr (nat_lit 19))), [.tmp (nat_lit 22)], (some (nat_lit 23)), (some ((nat_lit 20), true))⟩,
  .ins ⟨(.r (.load false (nat_lit 1))), [.tmp (nat_lit 23)], (some (nat_lit 24)), (some ((nat_lit 20), true))⟩,
  .ins ⟨(.p (.bini .sub)), [.tmp (nat_lit 24), .const (.int .i64 (.ofNat (nat_lit 1)))], (some (nat_lit 25)), (some ((nat_lit 20), true))⟩,
  .ins ⟨(.p (.bini .quo)), [.tmp (nat_lit 25), .const (.int .i64 (.ofNat (nat_lit 2)))], (some (nat_lit 26)), (some ((nat_lit 20), true))⟩,
  .ins ⟨(.p (.bini .geq)), [.tmp (nat_lit 26), .const (.int .i64 (.ofNat (nat_lit 100)))], (some (nat_lit 27)), (some ((nat_lit 20), true))⟩,
  .ins ⟨(.p .pick), [.tmp (nat_lit 20), .tmp (nat_lit 27), .const (.bool false)], (some (nat_lit 28)), (some ((nat_lit 14), false))⟩,
  .ins ⟨(.p .pick), [.tmp (nat_lit 14), .const (.bool true), .tmp (nat_lit 28)], (some (nat_lit 29)), none⟩,
  .ins ⟨(.p .mv), [.tmp (nat_lit 29)], (some (nat_lit 2)), none⟩,
  .again ⟨(.r (.load false (nat_lit 1))), [.tmp (nat_lit 11)], (some (nat_lit 12)), none⟩])
 .ret))⟩

def c110 : Code' := .fn ⟨(nat_lit 19), [.tmp (nat_lit 2)],
 (.seq (.region [
  .ins ⟨(.p .mv), [.const (.ptr none)], (some (nat_lit 2)), none⟩])
 (.seq (.region [
  .ins ⟨(.p .mv), [.tmp (nat_lit 0)], (some (nat_lit 4)), none⟩,
  .ins ⟨(.p .nilck), [.tmp (nat_lit 4)], (some (nat_lit 5)), none⟩,
  .ins ⟨(.p (.fieldAddr (nat_lit 1))), [.tmp (nat_lit 5)], (some (nat_lit 6)), none⟩,
  .ins ⟨(.r (.load false (nat_lit 1))), [.tmp (nat_lit 6)], (some (nat_lit 7)), none⟩,
  .ins ⟨(.p .mv), [.tmp (nat_lit 0)], (some (nat_lit 11)), none⟩,
  .ins ⟨(.p .nilck), [.tmp (nat_lit 11)], (some (nat_lit 12)), none⟩,
  .ins ⟨(.p (.fieldAddr (nat_lit 2))), [.tmp (nat_lit 12)], (some (nat_lit 13)), none⟩,
  .ins ⟨(.p (.fieldAddr (nat_lit 2))), [.tmp (nat_lit 13)], (some (nat_lit 14)), none⟩,
  .ins ⟨(.r (.load false (nat_lit 1))), [.tmp (nat_lit 14)], (some (nat_lit 15)), none⟩,
  .ins ⟨(.c .value), [.const (.func (.func (nat_lit 169)) [] [])], (some (nat_lit 3)), none⟩,
  .again ⟨(.r (.load false (nat_lit 1))), [.tmp (nat_lit 6)], (some (nat_lit 7)), none⟩,
  .again ⟨(.r (.load false (nat_lit 1))), [.tmp (nat_lit 14)], (some (nat_lit 15)), none⟩,
  .ins ⟨(.c .value), [.const (.func (.func (nat_lit 171)) [] []), .tmp (nat_lit 7)], (some (nat_lit 8)), none⟩,
  .ins ⟨(.p (.field (nat_lit 2) (nat_lit 1) false)), [.tmp (nat_lit 8)], (some (nat_lit 9)), none⟩,
  .again ⟨(.r (.load false (nat_lit 1))), [.tmp (nat_lit 14)], (some (nat_lit 15)), none⟩,
  .ins ⟨(.c .value), [.const (.func (.func (nat_lit 170)) [] []), .tmp (nat_lit 9)], (some (nat_lit 10)), none⟩,
  .again ⟨(.r (.load false (nat_lit 1))), [.tmp (nat_lit 14)], (some (nat_lit 15)), none⟩,
  .ins ⟨(.c .value), [.const (.func (.func (nat_lit 172)) [] []), .tmp (nat_lit 15)], (some (nat_lit 16)), none⟩,
  .ins ⟨(.p (.build [(.ptr none), (.ptr none), (.ptr none), (.bool false), (.bool false), (.slice none (nat_lit 0) (nat_lit 0) (nat_lit 0)), (.bool false)] [((nat_lit 0), (nat_lit 1)), ((nat_lit 1), (nat_lit 1)), ((nat_lit 2), (nat_lit 1))])), [.tmp (nat_lit 3), .tmp (nat_lit 10), .tmp (nat_lit 16)], (some (nat_lit 17)), none⟩,
  .ins ⟨(.a .box), [.tmp (nat_lit 17)], (some (nat_lit 18)), none⟩,
  .ins ⟨(.p .mv), [.tmp (nat_lit 18)], (some (nat_lit 2)), none⟩])
 .ret))⟩

def c111 : Code' := .fn ⟨(nat_lit 30), [.tmp (nat_lit 6)],
 (.seq (.region [
  .ins ⟨(.p .mv), [.const (.int .i64 (.ofNat (nat_lit 0)))], (some (nat_lit 6)), none⟩])
 (.seq (.seq (.region [
  .ins ⟨(.p .mv), [.tmp (nat_lit 0)], (some (nat_lit 8)), none⟩,
  .ins ⟨(.p .mv), [.tmp (nat_lit 1)], (some (nat_lit 9)), none⟩,
  .ins ⟨(.c .value), [.const (.func (.func (nat_lit 173)) [] []), .tmp (nat_lit 8), .tmp (nat_lit 9)], (some (nat_lit 10)), none⟩,
  .ins ⟨(.p .mv), [.tmp (nat_lit 10)], (some (nat_lit 7)), none⟩])
 (.seq (.region [
  .ins ⟨(.p .mv), [.tmp (nat_lit 7)], (some (nat_lit 11)), none⟩,
  .ins ⟨(.p (.bini .neq)), [.tmp (nat_lit 11), .const (.int .i64 (.ofNat (nat_lit 0)))], (some (nat_lit 12)), none⟩])
 (.cond (.tmp (nat_lit 12)) (.seq (.region [
  .ins ⟨(.p .mv), [.tmp (nat_lit 7)], (some (nat_lit 13)), none⟩,
  .ins ⟨(.p .mv), [.tmp (nat_lit 13)], (some (nat_lit 6)), none⟩])
 .ret)
 .skip)))
 (.seq (.region [
  .ins ⟨(.p .mv), [.tmp (nat_lit 0)], (some (nat_lit 14)), none⟩,
  .ins ⟨(.p .mv), [.tmp (nat_lit 1)], (some (nat_lit 15)), none⟩,
  .ins ⟨(.p .nilck), [.tmp (nat_lit 14)], (some (nat_lit 16)), none⟩,
  .ins ⟨(.p (.fieldAddr (nat_lit 2))), [.tmp (nat_lit 16)], (some (nat_lit 17)), none⟩,
  .ins ⟨(.l (.store (nat_lit 1))), [.tmp (nat_lit 17), .tmp (nat_lit 15)], none, none⟩])
 (.seq (.region [
  .ins ⟨(.p .mv), [.tmp (nat_lit 0)], (some (nat_lit 18)), none⟩,
  .ins ⟨(.p .mv), [.tmp (nat_lit 0)], (some (nat_lit 19)), none⟩,
  .ins ⟨(.p .nilck), [.tmp (nat_lit 19)], (some (nat_lit 20)), none⟩,
  .ins ⟨(.p (.fieldAddr (nat_lit 0))), [.tmp (nat_lit 20)], (some (nat_lit 21)), none⟩,
  .ins ⟨(.r (.load false (nat_lit 1))), [.tmp (nat_lit 21)], (some (nat_lit 22)), none⟩,
  .ins ⟨(.p .mv), [.tmp (nat_lit 1)], (some (nat_lit 23)), none⟩,
  .ins ⟨(.p .mv), [.tmp (nat_lit 2)], (some (nat_lit 24)), none⟩,
  .ins ⟨(.p (.build [(.int .i64 (.ofNat (nat_lit 0))), (.ptr none)] [((nat_lit 0), (nat_lit 1)), ((nat_lit 1), (nat_lit 1))])), [.tmp (nat_lit 23), .tmp (nat_lit 24)], (some (nat_lit 25)), none⟩,
  .ins ⟨(.a (.buildSlice [(.int .i64 (.ofNat (nat_lit 0))), (.ptr none)] (nat_lit 1) [((nat_lit 0), (nat_lit 2))])), [.tmp (nat_lit 25)], (some (nat_lit 26)), none⟩,
  .ins ⟨(.l (.append [(.int .i64 (.ofNat (nat_lit 0))), (.ptr none)] (nat_lit 2) (nat_lit 16))), [.tmp (nat_lit 22), .tmp (nat_lit 26)], (some (nat_lit 27)), none⟩,
  .ins ⟨(.p .nilck), [.tmp (nat_lit 18)], (some (nat_lit 28)), none⟩,
  .ins ⟨(.p (.fieldAddr (nat_lit 0))), [.tmp (nat_lit 28)], (some (nat_lit 29)), none⟩,
  .ins ⟨(.l (.store (nat_lit 1))), [.tmp (nat_lit 29), .tmp (nat_lit 27)], none, none⟩])
 (.seq (.region [
  .ins ⟨(.p .mv), [.const (.int .i64 (.ofNat (nat_lit 0)))], (some (nat_lit 6)), none⟩])
 .ret)))))⟩

def c112 : Code' := .fn ⟨(nat_lit 48), [],
 (.seq (.region [
  .ins ⟨(.a .box), [.tmp (nat_lit 0)], (some (nat_lit 5)), none⟩])
 (.seq (.region [
  .ins ⟨(.r (.load false (nat_lit 1))), [.tmp (nat_lit 5)], (some (nat_lit 14)), none⟩,
  .ins ⟨(.p .nilck), [.tmp (nat_lit 14)], (some (nat_lit 15)), none⟩,
  .ins ⟨(.p (.fieldAddr (nat_lit 9))), [.tmp (nat_lit 15)], (some (nat_lit 16)), none⟩,
  .ins ⟨(.r (.load false (nat_lit 1))), [.tmp (nat_lit 16)], (some (nat_lit 17)), none⟩,
  .ins ⟨(.p .mv), [.tmp (nat_lit 3)], (some (nat_lit 18)), none⟩,
  .ins ⟨(.c .value), [.const (.func (.func (nat_lit 174)) [] []), .tmp (nat_lit 17), .tmp (nat_lit 18)], (some (nat_lit 19)), none⟩,
  .ins ⟨(.p .mv), [.tmp (nat_lit 19)], (some (nat_lit 13)), none⟩,
  .ins ⟨(.p (.extract (nat_lit 0))), [.tmp (nat_lit 13)], (some (nat_lit 20)), none⟩,
  .ins ⟨(.p (.extract (nat_lit 1))), [.tmp (nat_lit 13)], (some (nat_lit 21)), none⟩,
  .ins ⟨(.p .mv), [.tmp (nat_lit 20)], (some (nat_lit 10)), none⟩,
  .ins ⟨(.p .mv), [.tmp (nat_lit 21)], (some (nat_lit 11)), none⟩])
 (.seq (.seq (.region [
  .ins ⟨(.p .mv), [.tmp (nat_lit 1)], (some (nat_lit 22)), none⟩,
  .ins ⟨(.p .mv), [.tmp (nat_lit 4)], (some (nat_lit 23)), none⟩,
  .ins ⟨(.p .mv), [.tmp (nat_lit 10)], (some (nat_lit 24)), none⟩,
  .ins ⟨(.r (.load false (nat_lit 1))), [.tmp (nat_lit 5)], (some (nat_lit 25)), none⟩,
  .ins ⟨(.p .nilck), [.tmp (nat_lit 25)], (some (nat_lit 26)), none⟩,
  .ins ⟨(.p (.fieldAddr (nat_lit 2))), [.tmp (nat_lit 26)], (some (nat_lit 27)), none⟩,
  .ins ⟨(.p (.fieldAddr (nat_lit 3))), [.tmp (nat_lit 27)], (some (nat_lit 28)), none⟩,
  .ins ⟨(.r (.load false (nat_lit 1))), [.tmp (nat_lit 28)], (some (nat_lit 29)), none⟩,
  .ins ⟨(.c .value), [.const (.func (.func (nat_lit 175)) [] []), .tmp (nat_lit 22), .tmp (nat_lit 23), .tmp (nat_lit 24), .tmp (nat_lit 29)], (some (nat_lit 30)), none⟩])
 (.block (nat_lit 0) (.rangeFunc (.tmp (nat_lit 30)) [(nat_lit 31)] (.region [
  .ins ⟨(.a (.alloc [(.int .i64 (.ofNat (nat_lit 0))), (.int .i64 (.ofNat (nat_lit 0))), (.int .i64 (.ofNat (nat_lit 0))), (.slice none (nat_lit 0) (nat_lit 0) (nat_lit 0))])), [], (some (nat_lit 12)), none⟩,
  .ins ⟨(.l (.store (nat_lit 4))), [.tmp (nat_lit 12), .tmp (nat_lit 31)], none, none⟩])
 (.block (nat_lit 1) (.region [
  .ins ⟨(.r (.load false (nat_lit 1))), [.tmp (nat_lit 5)], (some (nat_lit 32)), none⟩,
  .ins ⟨(.r (.load true (nat_lit 4))), [.tmp (nat_lit 12)], (some (nat_lit 33)), none⟩,
  .ins ⟨(.c .value), [.const (.func (.func (nat_lit 176)) [] []), .tmp (nat_lit 32), .tmp (nat_lit 33)], (some (nat_lit 34)), none⟩])))))
 (.seq (.region [
  .ins ⟨(.p .mv), [.tmp (nat_lit 2)], (some (nat_lit 35)), none⟩,
  .ins ⟨(.p .nilck), [.tmp (nat_lit 35)], (some (nat_lit 36)), none⟩,
  .ins ⟨(.p (.fieldAddr (nat_lit 4))), [.tmp (nat_lit 36)], (some (nat_lit 37)), none⟩,
  .ins ⟨(.l (.store (nat_lit 1))), [.tmp (nat_lit 37), .const (.bool true)], none, none⟩])
 (.seq (.region [
  .ins ⟨(.p .mv), [.tmp (nat_lit 2)], (some (nat_lit 38)), none⟩,
  .ins ⟨(.p .nilck), [.tmp (nat_lit 38)], (some (nat_lit 39)), none⟩,
  .ins ⟨(.p (.fieldAddr (nat_lit 0))), [.tmp (nat_lit 39)], (some (nat_lit 40)), none⟩,
  .ins ⟨(.r (.load false (nat_lit 1))), [.tmp (nat_lit 40)], (some (nat_lit 41)), none⟩,
  .ins ⟨(.p .mv), [.tmp (nat_lit 4)], (some (nat_lit 42)), none⟩,
  .ins ⟨(.c .value), [.const (.func (.func (nat_lit 145)) [] []), .tmp (nat_lit 41), .const (.int .i64 (.ofNat (nat_lit 1))), .tmp (nat_lit 42)], (some (nat_lit 43)), none⟩])
 (.region [
  .ins ⟨(.r (.load false (nat_lit 1))), [.tmp (nat_lit 5)], (some (nat_lit 44)), none⟩,
  .ins ⟨(.p .mv), [.tmp (nat_lit 1)], (some (nat_lit 45)), none⟩,
  .ins ⟨(.p .mv), [.tmp (nat_lit 2)], (some (nat_lit 46)), none⟩,
  .ins ⟨(.c .value), [.const (.func (.func (nat_lit 177)) [] []), .tmp (nat_lit 44), .tmp (nat_lit 45), .tmp (nat_lit 46)], (some (nat_lit 47)), none⟩]))))))⟩

def c113 : Code' := .fn ⟨(nat_lit 43), [.tmp (nat_lit 4), .tmp (nat_lit 5)],
 (.seq (.region [
  .ins ⟨(.a .box), [.tmp (nat_lit 1)], (some (nat_lit 3)), none⟩,
  .ins ⟨(.p .mv), [.const (.slice none (nat_lit 0) (nat_lit 0) (nat_lit 0))], (some (nat_lit 4)), none⟩,
  .ins ⟨(.p .mv), [.const (.int .i64 (.ofNat (nat_lit 0)))], (some (nat_lit 5)), none⟩])
 (.seq (.seq (.region [
  .ins ⟨(.p .mv), [.tmp (nat_lit 0)], (some (nat_lit 7)), none⟩,
  .ins ⟨(.p (.bini .neq)), [.tmp (nat_lit 7), .const (.int .i64 (.ofNat (nat_lit 1)))], (some (nat_lit 8)), none⟩,
  .ins ⟨(.p .mv), [.tmp (nat_lit 8)], (some (nat_lit 9)), none⟩,
  .ins ⟨(.p .mv), [.tmp (nat_lit 0)], (some (nat_lit 10)), (some ((nat_lit 9), true))⟩,
  .ins ⟨(.p (.bini .neq)), [.tmp (nat_lit 10), .const (.int .i64 (.ofNat (nat_lit 2)))], (some (nat_lit 11)), (some ((nat_lit 9), true))⟩,
  .ins ⟨(.p .pick), [.tmp (nat_lit 9), .tmp (nat_lit 11), .const (.bool false)], (some (nat_lit 12)), none⟩,
  .ins ⟨(.p .mv), [.tmp (nat_lit 12)], (some (nat_lit 13)), none⟩,
  .ins ⟨(.r (.load true (nat_lit 5))), [.tmp (nat_lit 3)], (some (nat_lit 14)), (some ((nat_lit 13), false))⟩,
  .ins ⟨(.c .value), [.const (.func (.func (nat_lit 178)) [] []), .tmp (nat_lit 14)], (some (nat_lit 15)), (some ((nat_lit 13), false))⟩,
  .ins ⟨(.p (.bini .neq)), [.tmp (nat_lit 15), .const (.int .i64 (.ofNat (nat_lit 0)))], (some (nat_lit 16)), (some ((nat_lit 13), false))⟩,
  .ins ⟨(.p .pick), [.tmp (nat_lit 13), .const (.bool true), .tmp (nat_lit 16)], (some (nat_lit 17)), none⟩])
 (.cond (.tmp (nat_lit 17)) (.seq (.region [
  .ins ⟨(.p .mv), [.const (.slice none (nat_lit 0) (nat_lit 0) (nat_lit 0))], (some (nat_lit 4)), none⟩,
  .ins ⟨(.p .mv), [.const (.int .i64 (.ofNat (nat_lit 1)))], (some (nat_lit 5)), none⟩])
 .ret)
 .skip))
 (.seq (.region [
  .ins ⟨(.p (.fieldAddr (nat_lit 0))), [.tmp (nat_lit 3)], (some (nat_lit 18)), none⟩,
  .ins ⟨(.r (.load false (nat_lit 1))), [.tmp (nat_lit 18)], (some (nat_lit 19)), none⟩,
  .ins ⟨(.p (.build [(.int .i64 (.ofNat (nat_lit 0))), (.int .i64 (.ofNat (nat_lit 0)))] [((nat_lit 0), (nat_lit 1)), ((nat_lit 1), (nat_lit 1))])), [.const (.int .i64 (.ofNat (nat_lit 1))), .tmp (nat_lit 19)], (some (nat_lit 20)), none⟩,
  .ins ⟨(.a (.buildSlice [(.int .i64 (.ofNat (nat_lit 0))), (.int .i64 (.ofNat (nat_lit 0)))] (nat_lit 1) [((nat_lit 0), (nat_lit 2))])), [.tmp (nat_lit 20)], (some (nat_lit 21)), none⟩,
  .ins ⟨(.p .mv), [.tmp (nat_lit 21)], (some (nat_lit 6)), none⟩])
 (.seq (.seq (.region [
  .ins ⟨(.p .mv), [.tmp (nat_lit 0)], (some (nat_lit 22)), none⟩,
  .ins ⟨(.p (.bini .eql)), [.tmp (nat_lit 22), .const (.int .i64 (.ofNat (nat_lit 1)))], (some (nat_lit 23)), none⟩])
 (.cond (.tmp (nat_lit 23)) (.region [
  .ins ⟨(.p .mv), [.tmp (nat_lit 6)], (some (nat_lit 24)), none⟩,
  .ins ⟨(.p (.build [(.int .i64 (.ofNat (nat_lit 0))), (.int .i64 (.ofNat (nat_lit 0)))] [((nat_lit 0), (nat_lit 1))])), [.const (.int .i64 (.ofNat (nat_lit 2)))], (some (nat_lit 25)), none⟩,
  .ins ⟨(.a (.buildSlice [(.int .i64 (.ofNat (nat_lit 0))), (.int .i64 (.ofNat (nat_lit 0)))] (nat_lit 1) [((nat_lit 0), (nat_lit 2))])), [.tmp (nat_lit 25)], (some (nat_lit 26)), none⟩,
  .ins ⟨(.l (.append [(.int .i64 (.ofNat (nat_lit 0))), (.int .i64 (.ofNat (nat_lit 0)))] (nat_lit 2) (nat_lit 16))), [.tmp (nat_lit 24), .tmp (nat_lit 26)], (some (nat_lit 27)), none⟩,
  .ins ⟨(.p .mv), [.tmp (nat_lit 27)], (some (nat_lit 6)), none⟩])
 .skip))
 (.seq (.region [
  .ins ⟨(.p .mv), [.tmp (nat_lit 6)], (some (nat_lit 28)), none⟩,
  .ins ⟨(.p (.fieldAddr (nat_lit 1))), [.tmp (nat_lit 3)], (some (nat_lit 29)), none⟩,
  .ins ⟨(.r (.load false (nat_lit 1))), [.tmp (nat_lit 29)], (some (nat_lit 30)), none⟩,
  .ins ⟨(.p (.build [(.int .i64 (.ofNat (nat_lit 0))), (.int .i64 (.ofNat (nat_lit 0)))] [((nat_lit 0), (nat_lit 1)), ((nat_lit 1), (nat_lit 1))])), [.const (.int .i64 (.ofNat (nat_lit 3))), .tmp (nat_lit 30)], (some (nat_lit 31)), none⟩,
  .ins ⟨(.p (.fieldAddr (nat_lit 2))), [.tmp (nat_lit 3)], (some (nat_lit 32)), none⟩,
  .ins ⟨(.r (.load false (nat_lit 1))), [.tmp (nat_lit 32)], (some (nat_lit 33)), none⟩,
  .ins ⟨(.p (.build [(.int .i64 (.ofNat (nat_lit 0))), (.int .i64 (.ofNat (nat_lit 0)))] [((nat_lit 0), (nat_lit 1)), ((nat_lit 1), (nat_lit 1))])), [.const (.int .i64 (.ofNat (nat_lit 4))), .tmp (nat_lit 33)], (some (nat_lit 34)), none⟩,
  .ins ⟨(.p (.fieldAddr (nat_lit 3))), [.tmp (nat_lit 3)], (some (nat_lit 35)), none⟩,
  .ins ⟨(.r (.load false (nat_lit 1))), [.tmp (nat_lit 35)], (some (nat_lit 36)), none⟩,
  .ins ⟨(.p (.build [(.int .i64 (.ofNat (nat_lit 0))), (.int .i64 (.ofNat (nat_lit 0)))] [((nat_lit 0), (nat_lit 1)), ((nat_lit 1), (nat_lit 1))])), [.const (.int .i64 (.ofNat (nat_lit 5))), .tmp (nat_lit 36)], (some (nat_lit 37)), none⟩,
  .ins ⟨(.p (.fieldAddr (nat_lit 4))), [.tmp (nat_lit 3)], (some (nat_lit 38)), none⟩,
  .ins ⟨(.r (.load false (nat_lit 1))), [.tmp (nat_lit 38)], (some (nat_lit 39)), none⟩,
  .ins ⟨(.p (.build [(.int .i64 (.ofNat (nat_lit 0))), (.int .i64 (.ofNat (nat_lit 0)))] [((nat_lit 0), (nat_lit 1)), ((nat_lit 1), (nat_lit 1))])), [.const (.int .i64 (.ofNat (nat_lit 6))), .tmp (nat_lit 39)], (some (nat_lit 40)), none⟩,
  .ins ⟨(.a (.buildSlice [(.int .i64 (.ofNat (nat_lit 0))), (.int .i64 (.ofNat (nat_lit 0))), (.int .i64 (.ofNat (nat_lit 0))), (.int .i64 (.ofNat (nat_lit 0))), (.int .i64 (.ofNat (nat_lit 0))), (.int .i64 (.ofNat (nat_lit 0))), (.int .i64 (.ofNat (nat_lit 0))), (.int .i64 (.ofNat (nat_lit 0)))] (nat_lit 4) [((nat_lit 0), (nat_lit 2)), ((nat_lit 2), (nat_lit 2)), ((nat_lit 4), (nat_lit 2)), ((nat_lit 6), (nat_lit 2))])), [.tmp (nat_lit 31), .tmp (nat_lit 34), .tmp (nat_lit 37), .tmp (nat_lit 40)], (some (nat_lit 41)), none⟩,
  .ins ⟨(.l (.append [(.int .i64 (.ofNat (nat_lit 0))), (.int .i64 (.ofNat (nat_lit 0)))] (nat_lit 2) (nat_lit 16))), [.tmp (nat_lit 28), .tmp (nat_lit 41)], (some (nat_lit 42)), none⟩,
  .ins ⟨(.p .mv), [.tmp (nat_lit 42)], (some (nat_lit 4)), none⟩,
  .ins ⟨(.p .mv), [.const (.int .i64 (.ofNat (nat_lit 0)))], (some (nat_lit 5)), none⟩])
 .ret)))))⟩

def c115 : Code' := .fn ⟨(nat_lit 27), [.tmp (nat_lit 4), .tmp (nat_lit 5)],
 (.seq (.region [
  .ins ⟨(.p .mv), [.const (.ptr none)], (some (nat_lit 4)), none⟩,
  .ins ⟨(.p .mv), [.const (.int .i64 (.ofNat (nat_lit 0)))], (some (nat_lit 5)), none⟩])
 (.seq (.block (nat_lit 0) (.seq (.region [
  .ins ⟨(.p .mv), [.tmp (nat_lit 0)], (some (nat_lit 9)), none⟩,
  .ins ⟨(.p (.eqnil .ptr false)), [.tmp (nat_lit 9), .const (.ptr none)], (some (nat_lit 10)), none⟩,
  .ins ⟨(.p .mv), [.tmp (nat_lit 10)], (some (nat_lit 8)), none⟩])
 (.cond (.tmp (nat_lit 8)) (.seq (.region [
  .ins ⟨(.p .mv), [.const (.ptr none)], (some (nat_lit 4)), none⟩,
  .ins ⟨(.p .mv), [.const (.int .i64 (.ofNat (nat_lit 1)))], (some (nat_lit 5)), none⟩])
 .ret)
 (.seq (.region [
  .ins ⟨(.p .mv), [.tmp (nat_lit 0)], (some (nat_lit 12)), none⟩,
  .ins ⟨(.p .nilck), [.tmp (nat_lit 12)], (some (nat_lit 13)), none⟩,
  .ins ⟨(.p (.fieldAddr (nat_lit 15))), [.tmp (nat_lit 13)], (some (nat_lit 14)), none⟩,
  .ins ⟨(.r (.load false (nat_lit 1))), [.tmp (nat_lit 14)], (some (nat_lit 15)), none⟩,
  .ins ⟨(.p .mv), [.tmp (nat_lit 15)], (some (nat_lit 11)), none⟩])
 (.cond (.tmp (nat_lit 11)) (.seq (.region [
  .ins ⟨(.p .mv), [.const (.ptr none)], (some (nat_lit 4)), none⟩,
  .ins ⟨(.p .mv), [.const (.int .i64 (.ofNat (nat_lit 11)))], (some (nat_lit 5)), none⟩])
 .ret)
 .skip)))))
 (.seq (.seq (.region [
  .ins ⟨(.p .mv), [.tmp (nat_lit 0)], (some (nat_lit 17)), none⟩,
  .ins ⟨(.p .nilck), [.tmp (nat_lit 17)], (some (nat_lit 18)), none⟩,
  .ins ⟨(.p (.fieldAddr (nat_lit 13))), [.tmp (nat_lit 18)], (some (nat_lit 19)), none⟩,
  .ins ⟨(.r (.load false (nat_lit 1))), [.tmp (nat_lit 19)], (some (nat_lit 20)), none⟩,
  .ins ⟨(.p .mv), [.tmp (nat_lit 1)], (some (nat_lit 21)), none⟩,
  .ins ⟨(.c .value), [.const (.func (.func (nat_lit 183)) [] []), .tmp (nat_lit 20), .tmp (nat_lit 21)], (some (nat_lit 22)), none⟩,
  .ins ⟨(.p .mv), [.tmp (nat_lit 22)], (some (nat_lit 16)), none⟩,
  .ins ⟨(.p (.extract (nat_lit 0))), [.tmp (nat_lit 16)], (some (nat_lit 23)), none⟩,
  .ins ⟨(.p (.extract (nat_lit 1))), [.tmp (nat_lit 16)], (some (nat_lit 24)), none⟩,
  .ins ⟨(.p .mv), [.tmp (nat_lit 23)], (some (nat_lit 6)), none⟩,
  .ins ⟨(.p .mv), [.tmp (nat_lit 24)], (some (nat_lit 7)), none⟩])
 (.seq (.region [
  .ins ⟨(.p .mv), [.tmp (nat_lit 7)], (some (nat_lit 25)), none⟩])
 (.cond (.tmp (nat_lit 25)) (.seq (.region [
  .ins ⟨(.p .mv), [.tmp (nat_lit 6)], (some (nat_lit 26)), none⟩,
  .ins ⟨(.p .mv), [.tmp (nat_lit 26)], (some (nat_lit 4)), none⟩,
  .ins ⟨(.p .mv), [.const (.int .i64 (.ofNat (nat_lit 0)))], (some (nat_lit 5)), none⟩])
 .ret)
 .skip)))
 (.seq (.region [
  .ins ⟨(.p .mv), [.const (.ptr none)], (some (nat_lit 4)), none⟩,
  .ins ⟨(.p .mv), [.const (.int .i64 (.ofNat (nat_lit 13)))], (some (nat_lit 5)), none⟩])
 .ret))))⟩

def c117 : Code' := .fn ⟨(nat_lit 9), [.tmp (nat_lit 2)],
 (.seq (.region [
  .ins ⟨(.p .mv), [.const (.bool false)], (some (nat_lit 2)), none⟩])
 (.seq (.region [
  .ins ⟨(.p .mv), [.tmp (nat_lit 0)], (some (nat_lit 3)), none⟩,
  .ins ⟨(.p (.bini .geq)), [.tmp (nat_lit 3), .const (.int .i64 (.ofNat (nat_lit 0)))], (some (nat_lit 4)), none⟩,
  .ins ⟨(.p .mv), [.tmp (nat_lit 4)], (some (nat_lit 5)), none⟩,
  .ins ⟨(.p .mv), [.tmp (nat_lit 0)], (some (nat_lit 6)), (some ((nat_lit 5), true))⟩,
  .ins ⟨(.p (.bini .lss)), [.tmp (nat_lit 6), .const (.int .i64 (.ofNat (nat_lit 4294967296)))], (some (nat_lit 7)), (some ((nat_lit 5), true))⟩,
  .ins ⟨(.p .pick), [.tmp (nat_lit 5), .tmp (nat_lit 7), .const (.bool false)], (some (nat_lit 8)), none⟩,
  .ins ⟨(.p .mv), [.tmp (nat_lit 8)], (some (nat_lit 2)), none⟩])
 .ret))⟩

def c118 : Code' := .fn ⟨(nat_lit 23), [],
 (.seq (.region [
  .ins ⟨(.a .box), [.tmp (nat_lit 4)], (some (nat_lit 9)), none⟩])
 (.seq (.region [
  .ins ⟨(.p .mv), [.tmp (nat_lit 1)], (some (nat_lit 13)), none⟩,
  .ins ⟨(.p .mv), [.tmp (nat_lit 2)], (some (nat_lit 14)), none⟩,
  .ins ⟨(.p .mv), [.tmp (nat_lit 3)], (some (nat_lit 15)), none⟩,
  .ins ⟨(.r (.load true (nat_lit 11))), [.tmp (nat_lit 9)], (some (nat_lit 16)), none⟩,
  .ins ⟨(.c .value), [.const (.func (.func (nat_lit 180)) [] []), .tmp (nat_lit 13), .tmp (nat_lit 14), .tmp (nat_lit 15), .tmp (nat_lit 16)], (some (nat_lit 17)), none⟩,
  .ins ⟨(.p .mv), [.tmp (nat_lit 17)], (some (nat_lit 12)), none⟩,
  .ins ⟨(.p (.extract (nat_lit 0))), [.tmp (nat_lit 12)], (some (nat_lit 18)), none⟩,
  .ins ⟨(.p (.extract (nat_lit 1))), [.tmp (nat_lit 12)], (some (nat_lit 19)), none⟩,
  .ins ⟨(.a (.alloc [(.int .i64 (.ofNat (nat_lit 0))), (.int .i64 (.ofNat (nat_lit 0))), (.int .i64 (.ofNat (nat_lit 0))), (.slice none (nat_lit 0) (nat_lit 0) (nat_lit 0))])), [], (some (nat_lit 10)), none⟩,
  .ins ⟨(.l (.store (nat_lit 4))), [.tmp (nat_lit 10), .tmp (nat_lit 18)], none, none⟩,
  .ins ⟨(.p .mv), [.tmp (nat_lit 19)], (some (nat_lit 11)), none⟩])
 (.region [
  .ins ⟨(.p .mv), [.tmp (nat_lit 0)], (some (nat_lit 20)), none⟩,
  .ins ⟨(.r (.load true (nat_lit 4))), [.tmp (nat_lit 10)], (some (nat_lit 21)), none⟩,
  .ins ⟨(.c .value), [.const (.func (.func (nat_lit 176)) [] []), .tmp (nat_lit 20), .tmp (nat_lit 21)], (some (nat_lit 22)), none⟩])))⟩

def c119 : Code' := .fn ⟨(nat_lit 39), [.tmp (nat_lit 6)],
 (.seq (.region [
  .ins ⟨(.p .mv), [.const (.int .i64 (.ofNat (nat_lit 0)))], (some (nat_lit 6)), none⟩])
 (.seq (.seq (.region [
  .ins ⟨(.p .mv), [.tmp (nat_lit 0)], (some (nat_lit 9)), none⟩,
  .ins ⟨(.p (.eqnil .ptr false)), [.tmp (nat_lit 9), .const (.ptr none)], (some (nat_lit 10)), none⟩,
  .ins ⟨(.p .mv), [.tmp (nat_lit 10)], (some (nat_lit 11)), none⟩,
  .ins ⟨(.p .mv), [.tmp (nat_lit 2)], (some (nat_lit 12)), (some ((nat_lit 11), false))⟩,
  .ins ⟨(.c .value), [.const (.func (.func (nat_lit 184)) [] []), .tmp (nat_lit 12)], (some (nat_lit 13)), (some ((nat_lit 11), false))⟩,
  .ins ⟨(.p (.un .not)), [.tmp (nat_lit 13)], (some (nat_lit 14)), (some ((nat_lit 11), false))⟩,
  .ins ⟨(.p .pick), [.tmp (nat_lit 11), .const (.bool true), .tmp (nat_lit 14)], (some (nat_lit 15)), none⟩])
 (.cond (.tmp (nat_lit 15)) (.seq (.region [
  .ins ⟨(.p .mv), [.const (.int .i64 (.ofNat (nat_lit 1)))], (some (nat_lit 6)), none⟩])
 .ret)
 .skip))
 (.seq (.region [
  .ins ⟨(.p .mv), [.tmp (nat_lit 0)], (some (nat_lit 17)), none⟩,
  .ins ⟨(.p .mv), [.tmp (nat_lit 1)], (some (nat_lit 18)), none⟩,
  .ins ⟨(.c .value), [.const (.func (.func (nat_lit 185)) [] []), .tmp (nat_lit 17), .tmp (nat_lit 18)], (some (nat_lit 19)), none⟩,
  .ins ⟨(.p .mv), [.tmp (nat_lit 19)], (some (nat_lit 16)), none⟩,
  .ins ⟨(.p (.extract (nat_lit 0))), [.tmp (nat_lit 16)], (some (nat_lit 20)), none⟩,
  .ins ⟨(.p (.extract (nat_lit 1))), [.tmp (nat_lit 16)], (some (nat_lit 21)), none⟩,
  .ins ⟨(.p .mv), [.tmp (nat_lit 20)], (some (nat_lit 7)), none⟩,
  .ins ⟨(.p .mv), [.tmp (nat_lit 21)], (some (nat_lit 8)), none⟩])
 (.seq (.seq (.region [
  .ins ⟨(.p .mv), [.tmp (nat_lit 8)], (some (nat_lit 22)), none⟩,
  .ins ⟨(.p (.un .not)), [.tmp (nat_lit 22)], (some (nat_lit 23)), none⟩])
 (.cond (.tmp (nat_lit 23)) (.seq (.region [
  .ins ⟨(.p .mv), [.const (.int .i64 (.ofNat (nat_lit 13)))], (some (nat_lit 6)), none⟩])
 .ret)
 .skip))
 (.seq (.region [
  .ins ⟨(.p .mv), [.tmp (nat_lit 0)], (some (nat_lit 24)), none⟩,
  .ins ⟨(.p .mv), [.tmp (nat_lit 0)], (some (nat_lit 25)), none⟩,
  .ins ⟨(.p .nilck), [.tmp (nat_lit 25)], (some (nat_lit 26)), none⟩,
  .ins ⟨(.p (.fieldAddr (nat_lit 0))), [.tmp (nat_lit 26)], (some (nat_lit 27)), none⟩,
  .ins ⟨(.r (.load false (nat_lit 1))), [.tmp (nat_lit 27)], (some (nat_lit 28)), none⟩,
  .ins ⟨(.p .mv), [.tmp (nat_lit 7)], (some (nat_lit 29)), none⟩,
  .ins ⟨(.p .mv), [.tmp (nat_lit 7)], (some (nat_lit 30)), none⟩,
  .ins ⟨(.p (.bini .add)), [.tmp (nat_lit 30), .const (.int .i64 (.ofNat (nat_lit 1)))], (some (nat_lit 31)), none⟩,
  .ins ⟨(.c .value), [.const (.func (.func (nat_lit 186)) [] []), .tmp (nat_lit 28), .tmp (nat_lit 29), .tmp (nat_lit 31)], (some (nat_lit 32)), none⟩,
  .ins ⟨(.p .nilck), [.tmp (nat_lit 24)], (some (nat_lit 33)), none⟩,
  .ins ⟨(.p (.fieldAddr (nat_lit 0))), [.tmp (nat_lit 33)], (some (nat_lit 34)), none⟩,
  .ins ⟨(.l (.store (nat_lit 1))), [.tmp (nat_lit 34), .tmp (nat_lit 32)], none, none⟩])
 (.seq (.region [
  .ins ⟨(.p .mv), [.tmp (nat_lit 0)], (some (nat_lit 35)), none⟩,
  .ins ⟨(.p .mv), [.tmp (nat_lit 1)], (some (nat_lit 36)), none⟩,
  .ins ⟨(.p .mv), [.tmp (nat_lit 2)], (some (nat_lit 37)), none⟩,
  .ins ⟨(.c .value), [.const (.func (.func (nat_lit 187)) [] []), .tmp (nat_lit 35), .tmp (nat_lit 36), .tmp (nat_lit 37)], (some (nat_lit 38)), none⟩])
 (.seq (.region [
  .ins ⟨(.p .mv), [.const (.int .i64 (.ofNat (nat_lit 0)))], (some (nat_lit 6)), none⟩])
 .ret)))))))⟩

def c121 : Code' := .fn ⟨(nat_lit 9), [.tmp (nat_lit 2)],
 (.seq (.region [
  .ins ⟨(.p .mv), [.const (.bool false)], (some (nat_lit 2)), none⟩])
 (.seq (.region [
  .ins ⟨(.p .mv), [.tmp (nat_lit 0)], (some (nat_lit 3)), none⟩,
  .ins ⟨(.p (.bini .geq)), [.tmp (nat_lit 3), .const (.int .i64 (.ofNat (nat_lit 1)))], (some (nat_lit 4)), none⟩,
  .ins ⟨(.p .mv), [.tmp (nat_lit 4)], (some (nat_lit 5)), none⟩,
  .ins ⟨(.p .mv), [.tmp (nat_lit 0)], (some (nat_lit 6)), (some ((nat_lit 5), true))⟩,
  .ins ⟨(.p (.bini .leq)), [.tmp (nat_lit 6), .const (.int .i64 (.ofNat (nat_lit 5)))], (some (nat_lit 7)), (some ((nat_lit 5), true))⟩,
  .ins ⟨(.p .pick), [.tmp (nat_lit 5), .tmp (nat_lit 7), .const (.bool false)], (some (nat_lit 8)), none⟩,
  .ins ⟨(.p .mv), [.tmp (nat_lit 8)], (some (nat_lit 2)), none⟩])
 .ret))⟩

def c122 : Code' := .fn ⟨(nat_lit 29), [.tmp (nat_lit 6)],
 (.seq (.region [
  .ins ⟨(.p .mv), [.const (.int .i64 (.ofNat (nat_lit 0)))], (some (nat_lit 6)), none⟩])
 (.seq (.seq (.region [
  .ins ⟨(.p .mv), [.tmp (nat_lit 0)], (some (nat_lit 7)), none⟩,
  .ins ⟨(.p (.eqnil .ptr false)), [.tmp (nat_lit 7), .const (.ptr none)], (some (nat_lit 8)), none⟩,
  .ins ⟨(.p .mv), [.tmp (nat_lit 8)], (some (nat_lit 9)), none⟩,
  .ins ⟨(.p .mv), [.tmp (nat_lit 1)], (some (nat_lit 10)), (some ((nat_lit 9), false))⟩,
  .ins ⟨(.c .value), [.const (.func (.func (nat_lit 121)) [] []), .tmp (nat_lit 10)], (some (nat_lit 11)), (some ((nat_lit 9), false))⟩,
  .ins ⟨(.p (.un .not)), [.tmp (nat_lit 11)], (some (nat_lit 12)), (some ((nat_lit 9), false))⟩,
  .ins ⟨(.p .pick), [.tmp (nat_lit 9), .const (.bool true), .tmp (nat_lit 12)], (some (nat_lit 13)), none⟩,
  .ins ⟨(.p .mv), [.tmp (nat_lit 13)], (some (nat_lit 14)), none⟩,
  .ins ⟨(.p .mv), [.tmp (nat_lit 2)], (some (nat_lit 15)), (some ((nat_lit 14), false))⟩,
  .ins ⟨(.p (.bini .lss)), [.tmp (nat_lit 15), .const (.int .i64 (.ofNat (nat_lit 0)))], (some (nat_lit 16)), (some ((nat_lit 14), false))⟩,
  .ins ⟨(.p .pick), [.tmp (nat_lit 14), .const (.bool true), .tmp (nat_lit 16)], (some (nat_lit 17)), none⟩,
  .ins ⟨(.p .mv), [.tmp (nat_lit 17)], (some (nat_lit 18)), none⟩,
  .ins ⟨(.p .mv), [.tmp (nat_lit 2)], (some (nat_lit 19)), (some ((nat_lit 18), false))⟩,
  .ins ⟨(.p (.bini .gtr)), [.tmp (nat_lit 19), .const (.int .i64 (.ofNat (nat_lit 1099511627776)))], (some (nat_lit 20)), (some ((nat_lit 18), false))⟩,
  .ins ⟨(.p .pick), [.tmp (nat_lit 18), .const (.bool true), .tmp (nat_lit 20)], (some (nat_lit 21)), none⟩])
 (.cond (.tmp (nat_lit 21)) (.seq (.region [
  .ins ⟨(.p .mv), [.const (.int .i64 (.ofNat (nat_lit 1)))], (some (nat_lit 6)), none⟩])
 .ret)
 .skip))
 (.seq (.region [
  .ins ⟨(.p .mv), [.tmp (nat_lit 0)], (some (nat_lit 22)), none⟩,
  .ins ⟨(.p .mv), [.tmp (nat_lit 1)], (some (nat_lit 23)), none⟩,
  .ins ⟨(.p .mv), [.tmp (nat_lit 2)], (some (nat_lit 24)), none⟩,
  .ins ⟨(.p (.build [(.int .i64 (.ofNat (nat_lit 0))), (.bool false)] [((nat_lit 0), (nat_lit 1)), ((nat_lit 1), (nat_lit 1))])), [.tmp (nat_lit 24), .const (.bool true)], (some (nat_lit 25)), none⟩,
  .ins ⟨(.p .nilck), [.tmp (nat_lit 22)], (some (nat_lit 26)), none⟩,
  .ins ⟨(.p (.fieldAddr (nat_lit 0))), [.tmp (nat_lit 26)], (some (nat_lit 27)), none⟩,
  .ins ⟨(.p (.indexAddrArr (nat_lit 6) (nat_lit 2))), [.tmp (nat_lit 27), .tmp (nat_lit 23)], (some (nat_lit 28)), none⟩,
  .ins ⟨(.l (.store (nat_lit 2))), [.tmp (nat_lit 28), .tmp (nat_lit 25)], none, none⟩])
 (.seq (.region [
  .ins ⟨(.p .mv), [.const (.int .i64 (.ofNat (nat_lit 0)))], (some (nat_lit 6)), none⟩])
 .ret))))⟩

def c125 : Code' := .fn ⟨(nat_lit 10), [.tmp (nat_lit 2)],
 (.seq (.region [
  .ins ⟨(.p .mv), [.const (.int .i64 (.ofNat (nat_lit 0)))], (some (nat_lit 2)), none⟩])
 (.seq (.seq (.region [
  .ins ⟨(.p .mv), [.tmp (nat_lit 0)], (some (nat_lit 3)), none⟩,
  .ins ⟨(.p (.eqnil .ptr false)), [.tmp (nat_lit 3), .const (.ptr none)], (some (nat_lit 4)), none⟩])
 (.cond (.tmp (nat_lit 4)) (.seq (.region [
  .ins ⟨(.p .mv), [.const (.int .i64 (.ofNat (nat_lit 0)))], (some (nat_lit 2)), none⟩])
 .ret)
 .skip))
 (.seq (.region [
  .ins ⟨(.p .mv), [.tmp (nat_lit 0)], (some (nat_lit 5)), none⟩,
  .ins ⟨(.p .nilck), [.tmp (nat_lit 5)], (some (nat_lit 6)), none⟩,
  .ins ⟨(.p (.fieldAddr (nat_lit 0))), [.tmp (nat_lit 6)], (some (nat_lit 7)), none⟩,
  .ins ⟨(.r (.load false (nat_lit 1))), [.tmp (nat_lit 7)], (some (nat_lit 8)), none⟩,
  .ins ⟨(.p .lenSl), [.tmp (nat_lit 8)], (some (nat_lit 9)), none⟩,
  .ins ⟨(.p .mv), [.tmp (nat_lit 9)], (some (nat_lit 2)), none⟩])
 .ret)))⟩

def c126 : Code' := .fn ⟨(nat_lit 9), [.tmp (nat_lit 2)],
 (.seq (.region [
  .ins ⟨(.p .mv), [.const (.bool false)], (some (nat_lit 2)), none⟩])
 (.seq (.region [
  .ins ⟨(.p .mv), [.tmp (nat_lit 0)], (some (nat_lit 3)), none⟩,
  .ins ⟨(.p (.bini .geq)), [.tmp (nat_lit 3), .const (.int .i64 (.ofNat (nat_lit 0)))], (some (nat_lit 4)), none⟩,
  .ins ⟨(.p .mv), [.tmp (nat_lit 4)], (some (nat_lit 5)), none⟩,
  .ins ⟨(.p .mv), [.tmp (nat_lit 0)], (some (nat_lit 6)), (some ((nat_lit 5), true))⟩,
  .ins ⟨(.p (.bini .leq)), [.tmp (nat_lit 6), .const (.int .i64 (.ofNat (nat_lit 1099511627776)))], (some (nat_lit 7)), (some ((nat_lit 5), true))⟩,
  .ins ⟨(.p .pick), [.tmp (nat_lit 5), .tmp (nat_lit 7), .const (.bool false)], (some (nat_lit 8)), none⟩,
  .ins ⟨(.p .mv), [.tmp (nat_lit 8)], (some (nat_lit 2)), none⟩])
 .ret))⟩

def c127 : Code' := .fn ⟨(nat_lit 62), [.tmp (nat_lit 4), .tmp (nat_lit 5)],
 (.seq (.region [
  .ins ⟨(.a .box), [.tmp (nat_lit 1)], (some (nat_lit 3)), none⟩,
  .ins ⟨(.p .mv), [.const (.ptr none)], (some (nat_lit 4)), none⟩,
  .ins ⟨(.p .mv), [.const (.int .i64 (.ofNat (nat_lit 0)))], (some (nat_lit 5)), none⟩])
 (.seq (.region [
  .ins ⟨(.p .mv), [.tmp (nat_lit 0)], (some (nat_lit 10)), none⟩,
  .ins ⟨(.r (.load true (nat_lit 5))), [.tmp (nat_lit 3)], (some (nat_lit 11)), none⟩,
  .ins ⟨(.c .value), [.const (.func (.func (nat_lit 113)) [] []), .tmp (nat_lit 10), .tmp (nat_lit 11)], (some (nat_lit 12)), none⟩,
  .ins ⟨(.p .mv), [.tmp (nat_lit 12)], (some (nat_lit 9)), none⟩,
  .ins ⟨(.p (.extract (nat_lit 0))), [.tmp (nat_lit 9)], (some (nat_lit 13)), none⟩,
  .ins ⟨(.p (.extract (nat_lit 1))), [.tmp (nat_lit 9)], (some (nat_lit 14)), none⟩,
  .ins ⟨(.p .mv), [.tmp (nat_lit 13)], (some (nat_lit 6)), none⟩,
  .ins ⟨(.p .mv), [.tmp (nat_lit 14)], (some (nat_lit 7)), none⟩])
 (.seq (.seq (.region [
  .ins ⟨(.p .mv), [.tmp (nat_lit 7)], (some (nat_lit 15)), none⟩,
  .ins ⟨(.p (.bini .neq)), [.tmp (nat_lit 15), .const (.int .i64 (.ofNat (nat_lit 0)))], (some (nat_lit 16)), none⟩])
 (.cond (.tmp (nat_lit 16)) (.seq (.region [
  .ins ⟨(.p .mv), [.tmp (nat_lit 7)], (some (nat_lit 17)), none⟩,
  .ins ⟨(.p .mv), [.const (.ptr none)], (some (nat_lit 4)), none⟩,
  .ins ⟨(.p .mv), [.tmp (nat_lit 17)], (some (nat_lit 5)), none⟩])
 .ret)
 .skip))
 (.seq (.region [
  .ins ⟨(.p .mv), [.tmp (nat_lit 0)], (some (nat_lit 18)), none⟩,
  .ins ⟨(.c .value), [.const (.func (.func (nat_lit 188)) [] [])], (some (nat_lit 19)), none⟩,
  .ins ⟨(.c .value), [.const (.func (.func (nat_lit 189)) [] [])], (some (nat_lit 20)), none⟩,
  .ins ⟨(.c .value), [.const (.func (.func (nat_lit 190)) [] [])], (some (nat_lit 21)), none⟩,
  .ins ⟨(.c .value), [.const (.func (.func (nat_lit 191)) [] [])], (some (nat_lit 22)), none⟩,
  .ins ⟨(.c .value), [.const (.func (.func (nat_lit 170)) [] []), .const (.int .i64 (.ofNat (nat_lit 65535)))], (some (nat_lit 23)), none⟩,
  .ins ⟨(.c .value), [.const (.func (.func (nat_lit 172)) [] []), .const (.int .i64 (.ofNat (nat_lit 65535)))], (some (nat_lit 24)), none⟩,
  .ins ⟨(.p (.build [(.int .i64 (.ofNat (nat_lit 0))), (.ptr none), (.int .i64 (.ofNat (nat_lit 0))), (.int .i64 (.ofNat (nat_lit 0))), (.int .i64 (.ofNat (nat_lit 0))), (.int .i64 (.ofNat (nat_lit 0))), (.int .i64 (.ofNat (nat_lit 0))), (.ptr none), (.ptr none), (.ptr none), (.ptr none), (.ptr none), (.ptr none), (.ptr none), (.slice none (nat_lit 0) (nat_lit 0) (nat_lit 0)), (.bool false), (.bool false), (.bool false), (.bool false), (.int .i64 (.ofNat (nat_lit 0))), (.int .i64 (.ofNat (nat_lit 0))), (.int .i64 (.ofNat (nat_lit 0))), (.int .i64 (.ofNat (nat_lit 0))), (.slice none (nat_lit 0) (nat_lit 0) (nat_lit 0))] [((nat_lit 0), (nat_lit 1)), ((nat_lit 2), (nat_lit 5)), ((nat_lit 19), (nat_lit 1)), ((nat_lit 21), (nat_lit 1)), ((nat_lit 22), (nat_lit 1)), ((nat_lit 9), (nat_lit 1)), ((nat_lit 12), (nat_lit 1)), ((nat_lit 13), (nat_lit 1)), ((nat_lit 10), (nat_lit 1)), ((nat_lit 11), (nat_lit 1))])), [.tmp (nat_lit 18), .tmp (nat_lit 19), .const (.int .i64 (.ofNat (nat_lit 1))), .const (.int .i64 (.negSucc (nat_lit 0))), .const (.int .i64 (.negSucc (nat_lit 0))), .tmp (nat_lit 20), .tmp (nat_lit 21), .tmp (nat_lit 22), .tmp (nat_lit 23), .tmp (nat_lit 24)], (some (nat_lit 25)), none⟩,
  .ins ⟨(.a .box), [.tmp (nat_lit 25)], (some (nat_lit 26)), none⟩,
  .ins ⟨(.p .mv), [.tmp (nat_lit 26)], (some (nat_lit 8)), none⟩])
 (.seq (.region [
  .ins ⟨(.p .mv), [.tmp (nat_lit 8)], (some (nat_lit 28)), none⟩,
  .ins ⟨(.r (.load true (nat_lit 5))), [.tmp (nat_lit 3)], (some (nat_lit 29)), none⟩,
  .ins ⟨(.c .value), [.const (.func (.func (nat_lit 192)) [] []), .tmp (nat_lit 29)], (some (nat_lit 30)), none⟩,
  .ins ⟨(.p .mv), [.tmp (nat_lit 30)], (some (nat_lit 27)), none⟩,
  .ins ⟨(.p (.extract (nat_lit 0))), [.tmp (nat_lit 27)], (some (nat_lit 31)), none⟩,
  .ins ⟨(.p (.extract (nat_lit 1))), [.tmp (nat_lit 27)], (some (nat_lit 32)), none⟩,
  .ins ⟨(.p .nilck), [.tmp (nat_lit 28)], (some (nat_lit 33)), none⟩,
  .ins ⟨(.p (.fieldAddr (nat_lit 1))), [.tmp (nat_lit 33)], (some (nat_lit 34)), none⟩,
  .ins ⟨(.l (.store (nat_lit 1))), [.tmp (nat_lit 34), .tmp (nat_lit 31)], none, none⟩])
 (.seq (.region [
  .ins ⟨(.p .mv), [.tmp (nat_lit 8)], (some (nat_lit 36)), none⟩,
  .ins ⟨(.p .mv), [.tmp (nat_lit 0)], (some (nat_lit 37)), none⟩,
  .ins ⟨(.p (.bini .eql)), [.tmp (nat_lit 37), .const (.int .i64 (.ofNat (nat_lit 2)))], (some (nat_lit 38)), none⟩,
  .ins ⟨(.c .value), [.const (.func (.func (nat_lit 193)) [] []), .tmp (nat_lit 38), .const (.int .i64 (.ofNat (nat_lit 16384)))], (some (nat_lit 39)), none⟩,
  .ins ⟨(.p .mv), [.tmp (nat_lit 39)], (some (nat_lit 35)), none⟩,
  .ins ⟨(.p (.extract (nat_lit 0))), [.tmp (nat_lit 35)], (some (nat_lit 40)), none⟩,
  .ins ⟨(.p (.extract (nat_lit 1))), [.tmp (nat_lit 35)], (some (nat_lit 41)), none⟩,
  .ins ⟨(.p .nilck), [.tmp (nat_lit 36)], (some (nat_lit 42)), none⟩,
  .ins ⟨(.p (.fieldAddr (nat_lit 7))), [.tmp (nat_lit 42)], (some (nat_lit 43)), none⟩,
  .ins ⟨(.l (.store (nat_lit 1))), [.tmp (nat_lit 43), .tmp (nat_lit 40)], none, none⟩])
 (.seq (.region [
  .ins ⟨(.p .mv), [.tmp (nat_lit 8)], (some (nat_lit 45)), none⟩,
  .ins ⟨(.c .value), [.const (.func (.func (nat_lit 194)) [] []), .const (.int .i64 (.ofNat (nat_lit 4096)))], (some (nat_lit 46)), none⟩,
  .ins ⟨(.p .mv), [.tmp (nat_lit 46)], (some (nat_lit 44)), none⟩,
  .ins ⟨(.p (.extract (nat_lit 0))), [.tmp (nat_lit 44)], (some (nat_lit 47)), none⟩,
  .ins ⟨(.p (.extract (nat_lit 1))), [.tmp (nat_lit 44)], (some (nat_lit 48)), none⟩,
  .ins ⟨(.p .nilck), [.tmp (nat_lit 45)], (some (nat_lit 49)), none⟩,
  .ins ⟨(.p (.fieldAddr (nat_lit 8))), [.tmp (nat_lit 49)], (some (nat_lit 50)), none⟩,
  .ins ⟨(.l (.store (nat_lit 1))), [.tmp (nat_lit 50), .tmp (nat_lit 47)], none, none⟩])
 (.seq (.seq (.region [
  .ins ⟨(.p .mv), [.tmp (nat_lit 0)], (some (nat_lit 51)), none⟩,
  .ins ⟨(.p (.bini .eql)), [.tmp (nat_lit 51), .const (.int .i64 (.ofNat (nat_lit 1)))], (some (nat_lit 52)), none⟩])
 (.cond (.tmp (nat_lit 52)) (.region [
  .ins ⟨(.p .mv), [.tmp (nat_lit 8)], (some (nat_lit 53)), none⟩,
  .ins ⟨(.c .value), [.const (.func (.func (nat_lit 195)) [] [])], (some (nat_lit 54)), none⟩,
  .ins ⟨(.p .nilck), [.tmp (nat_lit 53)], (some (nat_lit 55)), none⟩,
  .ins ⟨(.p (.fieldAddr (nat_lit 14))), [.tmp (nat_lit 55)], (some (nat_lit 56)), none⟩,
  .ins ⟨(.l (.store (nat_lit 1))), [.tmp (nat_lit 56), .tmp (nat_lit 54)], none, none⟩])
 .skip))
 (.seq (.region [
  .ins ⟨(.p .mv), [.tmp (nat_lit 8)], (some (nat_lit 57)), none⟩,
  .ins ⟨(.p .mv), [.tmp (nat_lit 6)], (some (nat_lit 58)), none⟩,
  .ins ⟨(.p (.build [(.slice none (nat_lit 0) (nat_lit 0) (nat_lit 0)), (.int .i64 (.ofNat (nat_lit 0))), (.bool false), (.bool false), (.int .i64 (.ofNat (nat_lit 0))), (.int .i64 (.ofNat (nat_lit 0))), (.int .i64 (.ofNat (nat_lit 0))), (.int .i64 (.ofNat (nat_lit 0))), (.int .i64 (.ofNat (nat_lit 0))), (.slice none (nat_lit 0) (nat_lit 0) (nat_lit 0)), (.int .i64 (.ofNat (nat_lit 0)))] [((nat_lit 9), (nat_lit 1))])), [.tmp (nat_lit 58)], (some (nat_lit 59)), none⟩,
  .ins ⟨(.c .value), [.const (.func (.func (nat_lit 118)) [] []), .tmp (nat_lit 57), .const (.int .i64 (.ofNat (nat_lit 4))), .const (.int .i64 (.ofNat (nat_lit 0))), .const (.int .i64 (.ofNat (nat_lit 0))), .tmp (nat_lit 59)], (some (nat_lit 60)), none⟩])
 (.seq (.region [
  .ins ⟨(.p .mv), [.tmp (nat_lit 8)], (some (nat_lit 61)), none⟩,
  .ins ⟨(.p .mv), [.tmp (nat_lit 61)], (some (nat_lit 4)), none⟩,
  .ins ⟨(.p .mv), [.const (.int .i64 (.ofNat (nat_lit 0)))], (some (nat_lit 5)), none⟩])
 .ret))))))))))⟩

def c128 : Code' := .fn ⟨(nat_lit 3), [.tmp (nat_lit 0)],
 (.seq (.region [
  .ins ⟨(.p .mv), [.const (.ptr none)], (some (nat_lit 0)), none⟩])
 (.seq (.region [
  .ins ⟨(.p (.build [(.int .i64 (.ofNat (nat_lit 0))), (.bool false), (.int .i64 (.ofNat (nat_lit 0))), (.bool false), (.int .i64 (.ofNat (nat_lit 0))), (.bool false), (.int .i64 (.ofNat (nat_lit 0))), (.bool false), (.int .i64 (.ofNat (nat_lit 0))), (.bool false), (.int .i64 (.ofNat (nat_lit 0))), (.bool false)] [])), [], (some (nat_lit 1)), none⟩,
  .ins ⟨(.a .box), [.tmp (nat_lit 1)], (some (nat_lit 2)), none⟩,
  .ins ⟨(.p .mv), [.tmp (nat_lit 2)], (some (nat_lit 0)), none⟩])
 .ret))⟩

def c129 : Code' := .fn ⟨(nat_lit 13), [.tmp (nat_lit 2), .tmp (nat_lit 3)],
 (.seq (.region [
  .ins ⟨(.p .mv), [.const (.ptr none)], (some (nat_lit 2)), none⟩,
  .ins ⟨(.p .mv), [.const (.int .i64 (.ofNat (nat_lit 0)))], (some (nat_lit 3)), none⟩])
 (.seq (.seq (.region [
  .ins ⟨(.p .mv), [.tmp (nat_lit 0)], (some (nat_lit 4)), none⟩,
  .ins ⟨(.p (.bini .neq)), [.tmp (nat_lit 4), .const (.int .i64 (.ofNat (nat_lit 1)))], (some (nat_lit 5)), none⟩,
  .ins ⟨(.p .mv), [.tmp (nat_lit 5)], (some (nat_lit 6)), none⟩,
  .ins ⟨(.p .mv), [.tmp (nat_lit 0)], (some (nat_lit 7)), (some ((nat_lit 6), true))⟩,
  .ins ⟨(.p (.bini .neq)), [.tmp (nat_lit 7), .const (.int .i64 (.ofNat (nat_lit 2)))], (some (nat_lit 8)), (some ((nat_lit 6), true))⟩,
  .ins ⟨(.p .pick), [.tmp (nat_lit 6), .tmp (nat_lit 8), .const (.bool false)], (some (nat_lit 9)), none⟩])
 (.cond (.tmp (nat_lit 9)) (.seq (.region [
  .ins ⟨(.p .mv), [.const (.ptr none)], (some (nat_lit 2)), none⟩,
  .ins ⟨(.p .mv), [.const (.int .i64 (.ofNat (nat_lit 1)))], (some (nat_lit 3)), none⟩])
 .ret)
 .skip))
 (.seq (.region [
  .ins ⟨(.p .mv), [.tmp (nat_lit 0)], (some (nat_lit 10)), none⟩,
  .ins ⟨(.p (.build [(.int .i64 (.ofNat (nat_lit 0))), (.int .i64 (.ofNat (nat_lit 0)))] [((nat_lit 0), (nat_lit 1))])), [.tmp (nat_lit 10)], (some (nat_lit 11)), none⟩,
  .ins ⟨(.a .box), [.tmp (nat_lit 11)], (some (nat_lit 12)), none⟩,
  .ins ⟨(.p .mv), [.tmp (nat_lit 12)], (some (nat_lit 2)), none⟩,
  .ins ⟨(.p .mv), [.const (.int .i64 (.ofNat (nat_lit 0)))], (some (nat_lit 3)), none⟩])
 .ret)))⟩

def c145 : Code' := .fn ⟨(nat_lit 52), [.tmp (nat_lit 6)],
 (.seq (.region [
  .ins ⟨(.p .mv), [.const (.int .i64 (.ofNat (nat_lit 0)))], (some (nat_lit 6)), none⟩])
 (.seq (.seq (.region [
  .ins ⟨(.p .mv), [.tmp (nat_lit 0)], (some (nat_lit 7)), none⟩,
  .ins ⟨(.p (.eqnil .ptr false)), [.tmp (nat_lit 7), .const (.ptr none)], (some (nat_lit 8)), none⟩,
  .ins ⟨(.p .mv), [.tmp (nat_lit 8)], (some (nat_lit 9)), none⟩,
  .ins ⟨(.p .mv), [.tmp (nat_lit 1)], (some (nat_lit 10)), (some ((nat_lit 9), false))⟩,
  .ins ⟨(.c .value), [.const (.func (.func (nat_lit 215)) [] []), .tmp (nat_lit 10)], (some (nat_lit 11)), (some ((nat_lit 9), false))⟩,
  .ins ⟨(.p (.un .not)), [.tmp (nat_lit 11)], (some (nat_lit 12)), (some ((nat_lit 9), false))⟩,
  .ins ⟨(.p .pick), [.tmp (nat_lit 9), .const (.bool true), .tmp (nat_lit 12)], (some (nat_lit 13)), none⟩])
 (.cond (.tmp (nat_lit 13)) (.seq (.region [
  .ins ⟨(.p .mv), [.const (.int .i64 (.ofNat (nat_lit 1)))], (some (nat_lit 6)), none⟩])
 .ret)
 .skip))
 (.seq (.seq (.region [
  .ins ⟨(.p .mv), [.tmp (nat_lit 1)], (some (nat_lit 14)), none⟩])
 (.block (nat_lit 0) (.seq (.region [
  .ins ⟨(.p (.bini .eql)), [.tmp (nat_lit 14), .const (.int .i64 (.ofNat (nat_lit 5)))], (some (nat_lit 16)), none⟩,
  .ins ⟨(.p .mv), [.tmp (nat_lit 16)], (some (nat_lit 15)), none⟩])
 (.cond (.tmp (nat_lit 15)) (.seq (.region [
  .ins ⟨(.p .mv), [.const (.int .i64 (.ofNat (nat_lit 0)))], (some (nat_lit 6)), none⟩])
 .ret)
 (.seq (.seq (.region [
  .ins ⟨(.p (.bini .eql)), [.tmp (nat_lit 14), .const (.int .i64 (.ofNat (nat_lit 1)))], (some (nat_lit 18)), none⟩,
  .ins ⟨(.p .mv), [.tmp (nat_lit 18)], (some (nat_lit 17)), none⟩])
 (.cond (.tmp (nat_lit 17)) .skip
 (.region [
  .ins ⟨(.p (.bini .eql)), [.tmp (nat_lit 14), .const (.int .i64 (.ofNat (nat_lit 2)))], (some (nat_lit 19)), none⟩,
  .ins ⟨(.p .mv), [.tmp (nat_lit 19)], (some (nat_lit 17)), none⟩])))
 (.cond (.tmp (nat_lit 17)) (.seq (.region [
  .ins ⟨(.p .mv), [.tmp (nat_lit 0)], (some (nat_lit 20)), none⟩,
  .ins ⟨(.p .mv), [.tmp (nat_lit 1)], (some (nat_lit 21)), none⟩,
  .ins ⟨(.p .mv), [.tmp (nat_lit 2)], (some (nat_lit 22)), none⟩,
  .ins ⟨(.c .value), [.const (.func (.func (nat_lit 216)) [] []), .tmp (nat_lit 20), .tmp (nat_lit 21), .tmp (nat_lit 22)], (some (nat_lit 23)), none⟩,
  .ins ⟨(.p .mv), [.tmp (nat_lit 23)], (some (nat_lit 6)), none⟩])
 .ret)
 .skip))))))
 (.seq (.block (nat_lit 1) (.seq (.region [
  .ins ⟨(.p .mv), [.tmp (nat_lit 0)], (some (nat_lit 25)), none⟩,
  .ins ⟨(.p .nilck), [.tmp (nat_lit 25)], (some (nat_lit 26)), none⟩,
  .ins ⟨(.p (.fieldAddr (nat_lit 0))), [.tmp (nat_lit 26)], (some (nat_lit 27)), none⟩,
  .ins ⟨(.r (.load false (nat_lit 1))), [.tmp (nat_lit 27)], (some (nat_lit 28)), none⟩,
  .ins ⟨(.p (.bini .eql)), [.tmp (nat_lit 28), .const (.int .i64 (.ofNat (nat_lit 0)))], (some (nat_lit 29)), none⟩,
  .ins ⟨(.p .mv), [.tmp (nat_lit 29)], (some (nat_lit 24)), none⟩])
 (.cond (.tmp (nat_lit 24)) (.seq (.region [
  .ins ⟨(.p .mv), [.const (.int .i64 (.ofNat (nat_lit 8)))], (some (nat_lit 6)), none⟩])
 .ret)
 (.seq (.region [
  .ins ⟨(.p .mv), [.tmp (nat_lit 0)], (some (nat_lit 31)), none⟩,
  .ins ⟨(.p .nilck), [.tmp (nat_lit 31)], (some (nat_lit 32)), none⟩,
  .ins ⟨(.p (.fieldAddr (nat_lit 0))), [.tmp (nat_lit 32)], (some (nat_lit 33)), none⟩,
  .ins ⟨(.r (.load false (nat_lit 1))), [.tmp (nat_lit 33)], (some (nat_lit 34)), none⟩,
  .ins ⟨(.p (.bini .eql)), [.tmp (nat_lit 34), .const (.int .i64 (.ofNat (nat_lit 4)))], (some (nat_lit 35)), none⟩,
  .ins ⟨(.p .mv), [.tmp (nat_lit 35)], (some (nat_lit 36)), none⟩,
  .ins ⟨(.p .mv), [.tmp (nat_lit 1)], (some (nat_lit 37)), (some ((nat_lit 36), true))⟩,
  .ins ⟨(.p (.bini .eql)), [.tmp (nat_lit 37), .const (.int .i64 (.ofNat (nat_lit 4)))], (some (nat_lit 38)), (some ((nat_lit 36), true))⟩,
  .ins ⟨(.p .mv), [.tmp (nat_lit 38)], (some (nat_lit 39)), (some ((nat_lit 36), true))⟩,
  .ins ⟨(.p .mv), [.tmp (nat_lit 0)], (some (nat_lit 40)), (some ((nat_lit 39), false))⟩,
  .ins ⟨(.p .nilck), [.tmp (nat_lit 40)], (some (nat_lit 41)), (some ((nat_lit 39), false))⟩,
  .ins ⟨(.p (.fieldAddr (nat_lit 1))), [.tmp (nat_lit 41)], (some (nat_lit 42)), (some ((nat_lit 39), false))⟩,
  .ins ⟨(.r (.load false (nat_lit 1))), [.tmp (nat_lit 42)], (some (nat_lit 43)), (some ((nat_lit 39), false))⟩,
  .ins ⟨(.p (.bini .neq)), [.tmp (nat_lit 43), .const (.int .i64 (.ofNat (nat_lit 2)))], (some (nat_lit 44)), (some ((nat_lit 39), false))⟩,
  .ins ⟨(.p .pick), [.tmp (nat_lit 39), .const (.bool true), .tmp (nat_lit 44)], (some (nat_lit 45)), (some ((nat_lit 36), true))⟩,
  .ins ⟨(.p .pick), [.tmp (nat_lit 36), .tmp (nat_lit 45), .const (.bool false)], (some (nat_lit 46)), none⟩,
  .ins ⟨(.p .mv), [.tmp (nat_lit 46)], (some (nat_lit 30)), none⟩])
 (.cond (.tmp (nat_lit 30)) (.seq (.region [
  .ins ⟨(.p .mv), [.const (.int .i64 (.ofNat (nat_lit 11)))], (some (nat_lit 6)), none⟩])
 .ret)
 (.seq (.region [
  .ins ⟨(.p .mv), [.tmp (nat_lit 1)], (some (nat_lit 48)), none⟩,
  .ins ⟨(.p (.bini .eql)), [.tmp (nat_lit 48), .const (.int .i64 (.ofNat (nat_lit 3)))], (some (nat_lit 49)), none⟩,
  .ins ⟨(.p .mv), [.tmp (nat_lit 49)], (some (nat_lit 47)), none⟩])
 (.cond (.tmp (nat_lit 47)) (.region [
  .ins ⟨(.p .mv), [.tmp (nat_lit 0)], (some (nat_lit 50)), none⟩,
  .ins ⟨(.c .value), [.const (.func (.func (nat_lit 217)) [] []), .tmp (nat_lit 50), .const (.int .i64 (.ofNat (nat_lit 3)))], (some (nat_lit 51)), none⟩])
 .skip)))))))
 (.seq (.region [
  .ins ⟨(.p .mv), [.const (.int .i64 (.ofNat (nat_lit 0)))], (some (nat_lit 6)), none⟩])
 .ret)))))⟩

def c161 : Code' := .fn ⟨(nat_lit 4), [.tmp (nat_lit 2)],
 (.seq (.region [
  .ins ⟨(.a .box), [.tmp (nat_lit 0)], (some (nat_lit 1)), none⟩,
  .ins ⟨(.p .mv), [.const .nilFunc], (some (nat_lit 2)), none⟩])
 (.seq (.region [
  .ins ⟨(.p (.mkfunc (.func (nat_lit 242)) (nat_lit 0))), [.tmp (nat_lit 1)], (some (nat_lit 3)), none⟩,
  .ins ⟨(.p .mv), [.tmp (nat_lit 3)], (some (nat_lit 2)), none⟩])
 .ret))⟩

def c162 : Code' := .fn ⟨(nat_lit 9), [.tmp (nat_lit 2)],
 (.seq (.region [
  .ins ⟨(.p .mv), [.const (.int .i64 (.ofNat (nat_lit 0)))], (some (nat_lit 2)), none⟩])
 (.seq (.seq (.region [
  .ins ⟨(.p .mv), [.tmp (nat_lit 0)], (some (nat_lit 3)), none⟩,
  .ins ⟨(.p (.eqnil .ptr false)), [.tmp (nat_lit 3), .const (.ptr none)], (some (nat_lit 4)), none⟩])
 (.cond (.tmp (nat_lit 4)) (.seq (.region [
  .ins ⟨(.p .mv), [.const (.int .i64 (.ofNat (nat_lit 4)))], (some (nat_lit 2)), none⟩])
 .ret)
 .skip))
 (.seq (.region [
  .ins ⟨(.p .mv), [.tmp (nat_lit 0)], (some (nat_lit 5)), none⟩,
  .ins ⟨(.p .nilck), [.tmp (nat_lit 5)], (some (nat_lit 6)), none⟩,
  .ins ⟨(.p (.fieldAddr (nat_lit 0))), [.tmp (nat_lit 6)], (some (nat_lit 7)), none⟩,
  .ins ⟨(.r (.load false (nat_lit 1))), [.tmp (nat_lit 7)], (some (nat_lit 8)), none⟩,
  .ins ⟨(.p .mv), [.tmp (nat_lit 8)], (some (nat_lit 2)), none⟩])
 .ret)))⟩

def c165 : Code' := .fn ⟨(nat_lit 28), [],
 (.seq (.region [
  .ins ⟨(.p .mv), [.tmp (nat_lit 0)], (some (nat_lit 4)), none⟩,
  .ins ⟨(.p .nilck), [.tmp (nat_lit 4)], (some (nat_lit 5)), none⟩,
  .ins ⟨(.p (.fieldAddr (nat_lit 15))), [.tmp (nat_lit 5)], (some (nat_lit 6)), none⟩,
  .ins ⟨(.l (.store (nat_lit 1))), [.tmp (nat_lit 6), .const (.bool true)], none, none⟩])
 (.seq (.region [
  .ins ⟨(.p .mv), [.tmp (nat_lit 0)], (some (nat_lit 8)), none⟩,
  .ins ⟨(.c .value), [.const (.func (.func (nat_lit 193)) [] []), .const (.bool false), .const (.int .i64 (.ofNat (nat_lit 16384)))], (some (nat_lit 9)), none⟩,
  .ins ⟨(.p .mv), [.tmp (nat_lit 9)], (some (nat_lit 7)), none⟩,
  .ins ⟨(.p (.extract (nat_lit 0))), [.tmp (nat_lit 7)], (some (nat_lit 10)), none⟩,
  .ins ⟨(.p (.extract (nat_lit 1))), [.tmp (nat_lit 7)], (some (nat_lit 11)), none⟩,
  .ins ⟨(.p .nilck), [.tmp (nat_lit 8)], (some (nat_lit 12)), none⟩,
  .ins ⟨(.p (.fieldAddr (nat_lit 7))), [.tmp (nat_lit 12)], (some (nat_lit 13)), none⟩,
  .ins ⟨(.l (.store (nat_lit 1))), [.tmp (nat_lit 13), .tmp (nat_lit 10)], none, none⟩])
 (.seq (.region [
  .ins ⟨(.p .mv), [.tmp (nat_lit 0)], (some (nat_lit 14)), none⟩,
  .ins ⟨(.c .value), [.const (.func (.func (nat_lit 190)) [] [])], (some (nat_lit 15)), none⟩,
  .ins ⟨(.p .nilck), [.tmp (nat_lit 14)], (some (nat_lit 16)), none⟩,
  .ins ⟨(.p (.fieldAddr (nat_lit 12))), [.tmp (nat_lit 16)], (some (nat_lit 17)), none⟩,
  .ins ⟨(.l (.store (nat_lit 1))), [.tmp (nat_lit 17), .tmp (nat_lit 15)], none, none⟩])
 (.seq (.region [
  .ins ⟨(.p .mv), [.tmp (nat_lit 0)], (some (nat_lit 18)), none⟩,
  .ins ⟨(.p .nilck), [.tmp (nat_lit 18)], (some (nat_lit 19)), none⟩,
  .ins ⟨(.p (.fieldAddr (nat_lit 13))), [.tmp (nat_lit 19)], (some (nat_lit 20)), none⟩,
  .ins ⟨(.r (.load false (nat_lit 1))), [.tmp (nat_lit 20)], (some (nat_lit 21)), none⟩,
  .ins ⟨(.c .value), [.const (.func (.func (nat_lit 161)) [] []), .tmp (nat_lit 21)], (some (nat_lit 22)), none⟩])
 (.block (nat_lit 0) (.rangeFunc (.tmp (nat_lit 22)) [(nat_lit 23), (nat_lit 24)] (.region [
  .ins ⟨(.p .mv), [.tmp (nat_lit 24)], (some (nat_lit 3)), none⟩])
 (.block (nat_lit 1) (.region [
  .ins ⟨(.p .mv), [.tmp (nat_lit 3)], (some (nat_lit 25)), none⟩,
  .ins ⟨(.p .nilck), [.tmp (nat_lit 25)], (some (nat_lit 26)), none⟩,
  .ins ⟨(.p (.fieldAddr (nat_lit 5))), [.tmp (nat_lit 26)], (some (nat_lit 27)), none⟩,
  .ins ⟨(.l (.store (nat_lit 1))), [.tmp (nat_lit 27), .const (.slice none (nat_lit 0) (nat_lit 0) (nat_lit 0))], none, none⟩]))))))))⟩

end Go.Proofs.YtjjdminaacibeaaGreatDoor.Ev.EndNone
