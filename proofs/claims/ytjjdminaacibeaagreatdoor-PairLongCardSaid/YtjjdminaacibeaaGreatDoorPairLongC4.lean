/- The code of the functions that the run calls, part 4. -/
import Derived.Test.YtjjdminaacibeaaGreatDoorPairLongC3
namespace Go.Proofs.YtjjdminaacibeaaGreatDoor.Ev.PairLong
set_option maxRecDepth 100000
def c321 : Code' := .fn ⟨(nat_lit 187), [.tmp (nat_lit 4)],
 (.seq (.region [
  .ins ⟨(.p .mv), [.const (.int .i64 (.ofNat (nat_lit 0)))], (some (nat_lit 4)), none⟩])
 (.block (nat_lit 0) (.seq (.region [
  .ins ⟨(.p .mv), [.tmp (nat_lit 1)], (some (nat_lit 161)), none⟩,
  .ins ⟨(.p (.bini .leq)), [.const (.int .i32 (.ofNat (nat_lit 0))), .tmp (nat_lit 161)], (some (nat_lit 162)), none⟩,
  .ins ⟨(.p .mv), [.tmp (nat_lit 162)], (some (nat_lit 163)), none⟩,
  .ins ⟨(.p .mv), [.tmp (nat_lit 1)], (some (nat_lit 164)), (some ((nat_lit 163), true))⟩,
  .ins ⟨(.p (.bini .lss)), [.tmp (nat_lit 164), .const (.int .i32 (.ofNat (nat_lit 128)))], (some (nat_lit 165)), (some ((nat_lit 163), true))⟩,
  .ins ⟨(.p .pick), [.tmp (nat_lit 163), .tmp (nat_lit 165), .const (.bool false)], (some (nat_lit 166)), none⟩,
  .ins ⟨(.p .mv), [.tmp (nat_lit 166)], (some (nat_lit 160)), none⟩])
 (.cond (.tmp (nat_lit 160)) (.seq (.region [
  .ins ⟨(.p .mv), [.tmp (nat_lit 0)], (some (nat_lit 167)), none⟩,
  .ins ⟨(.p .mv), [.tmp (nat_lit 1)], (some (nat_lit 168)), none⟩,
  .ins ⟨(.p (.convInt .u8)), [.tmp (nat_lit 168)], (some (nat_lit 169)), none⟩,
  .ins ⟨(.c .value), [.const (.func (.func (nat_lit 272)) [] []), .tmp (nat_lit 167), .tmp (nat_lit 169)], (some (nat_lit 170)), none⟩,
  .ins ⟨(.p .mv), [.tmp (nat_lit 170)], (some (nat_lit 4)), none⟩])
 .ret)
 (.seq (.region [
  .ins ⟨(.p .mv), [.tmp (nat_lit 1)], (some (nat_lit 172)), none⟩,
  .ins ⟨(.p (.bini .eql)), [.tmp (nat_lit 172), .const (.int .i32 (.ofNat (nat_lit 65533)))], (some (nat_lit 173)), none⟩,
  .ins ⟨(.p .mv), [.tmp (nat_lit 173)], (some (nat_lit 171)), none⟩])
 (.cond (.tmp (nat_lit 171)) (.seq (.seq (.region [
  .ins ⟨(.p .mv), [.tmp (nat_lit 0)], (some (nat_lit 174)), none⟩,
  .ins ⟨(.a .rangeStr), [.tmp (nat_lit 174)], (some (nat_lit 175)), none⟩])
 (.block (nat_lit 9) (.loop (.seq (.region [
  .ins ⟨(.l .nextStr), [.tmp (nat_lit 175)], (some (nat_lit 176)), none⟩,
  .ins ⟨(.p (.extract (nat_lit 0))), [.tmp (nat_lit 176)], (some (nat_lit 177)), none⟩])
 (.seq (.cond (.tmp (nat_lit 177)) .skip
 (.exit (nat_lit 9)))
 (.block (nat_lit 10) (.seq (.region [
  .ins ⟨(.p (.extract (nat_lit 1))), [.tmp (nat_lit 176)], (some (nat_lit 178)), none⟩,
  .ins ⟨(.p (.extract (nat_lit 2))), [.tmp (nat_lit 176)], (some (nat_lit 179)), none⟩,
  .ins ⟨(.p .mv), [.tmp (nat_lit 178)], (some (nat_lit 5)), none⟩,
  .ins ⟨(.p .mv), [.tmp (nat_lit 179)], (some (nat_lit 6)), none⟩])
 (.seq (.region [
  .ins ⟨(.p .mv), [.tmp (nat_lit 6)], (some (nat_lit 180)), none⟩,
  .ins ⟨(.p (.bini .eql)), [.tmp (nat_lit 180), .const (.int .i32 (.ofNat (nat_lit 65533)))], (some (nat_lit 181)), none⟩])
 (.cond (.tmp (nat_lit 181)) (.seq (.region [
  .ins ⟨(.p .mv), [.tmp (nat_lit 5)], (some (nat_lit 182)), none⟩,
  .ins ⟨(.p .mv), [.tmp (nat_lit 182)], (some (nat_lit 4)), none⟩])
 .ret)
 .skip)))))))))
 (.seq (.region [
  .ins ⟨(.p .mv), [.const (.int .i64 (.negSucc (nat_lit 0)))], (some (nat_lit 4)), none⟩])
 .ret))
 (.seq (.region [
  .ins ⟨(.p .mv), [.tmp (nat_lit 1)], (some (nat_lit 184)), none⟩,
  .ins ⟨(.c .value), [.const (.func (.func (nat_lit 332)) [] []), .tmp (nat_lit 184)], (some (nat_lit 185)), none⟩,
  .ins ⟨(.p (.un .not)), [.tmp (nat_lit 185)], (some (nat_lit 186)), none⟩,
  .ins ⟨(.p .mv), [.tmp (nat_lit 186)], (some (nat_lit 183)), none⟩])
 (.cond (.tmp (nat_lit 183)) (.seq (.region [
  .ins ⟨(.p .mv), [.const (.int .i64 (.negSucc (nat_lit 0)))], (some (nat_lit 4)), none⟩])
 .ret)
 (.scope (.seq (.region [
  .ins ⟨(.p .mv), [.tmp (nat_lit 1)], (some (nat_lit 17)), none⟩,
  .ins ⟨(.p .mv), [], (some (nat_lit 18)), none⟩,
  .ins ⟨(.p .mv), [.tmp (nat_lit 18)], (some (nat_lit 7)), none⟩])
 (.seq (.region [
  .ins ⟨(.p .mv), [.tmp (nat_lit 7)], (some (nat_lit 19)), none⟩,
  .ins ⟨(.p .lenStr), [.tmp (nat_lit 19)], (some (nat_lit 20)), none⟩,
  .ins ⟨(.p (.bini .sub)), [.tmp (nat_lit 20), .const (.int .i64 (.ofNat (nat_lit 1)))], (some (nat_lit 21)), none⟩,
  .ins ⟨(.p .mv), [.tmp (nat_lit 21)], (some (nat_lit 8)), none⟩])
 (.seq (.region [
  .ins ⟨(.p .mv), [.tmp (nat_lit 8)], (some (nat_lit 22)), none⟩,
  .ins ⟨(.p .mv), [.tmp (nat_lit 22)], (some (nat_lit 9)), none⟩])
 (.seq (.region [
  .ins ⟨(.p .mv), [.const (.int .i64 (.ofNat (nat_lit 0)))], (some (nat_lit 10)), none⟩])
 (.seq (.block (nat_lit 1) (.loop (.seq (.seq (.region [
  .ins ⟨(.p .mv), [.tmp (nat_lit 9)], (some (nat_lit 23)), none⟩,
  .ins ⟨(.p .mv), [.tmp (nat_lit 0)], (some (nat_lit 24)), none⟩,
  .ins ⟨(.p .lenStr), [.tmp (nat_lit 24)], (some (nat_lit 25)), none⟩,
  .ins ⟨(.p (.bini .lss)), [.tmp (nat_lit 23), .tmp (nat_lit 25)], (some (nat_lit 26)), none⟩])
 (.cond (.tmp (nat_lit 26)) .skip
 (.exit (nat_lit 1))))
 (.block (nat_lit 2) (.scope (.seq (.seq (.region [
  .ins ⟨(.p .mv), [.tmp (nat_lit 0)], (some (nat_lit 27)), none⟩,
  .ins ⟨(.p .mv), [.tmp (nat_lit 9)], (some (nat_lit 28)), none⟩,
  .ins ⟨(.p .indexStr), [.tmp (nat_lit 27), .tmp (nat_lit 28)], (some (nat_lit 29)), none⟩,
  .ins ⟨(.p .mv), [.tmp (nat_lit 7)], (some (nat_lit 30)), none⟩,
  .ins ⟨(.p .mv), [.tmp (nat_lit 8)], (some (nat_lit 31)), none⟩,
  .ins ⟨(.p .indexStr), [.tmp (nat_lit 30), .tmp (nat_lit 31)], (some (nat_lit 32)), none⟩,
  .ins ⟨(.p (.bini .neq)), [.tmp (nat_lit 29), .tmp (nat_lit 32)], (some (nat_lit 33)), none⟩])
 (.cond (.tmp (nat_lit 33)) (.seq (.region [
  .ins ⟨(.p .mv), [.tmp (nat_lit 0)], (some (nat_lit 34)), none⟩,
  .ins ⟨(.p .mv), [.tmp (nat_lit 9)], (some (nat_lit 35)), none⟩,
  .ins ⟨(.p (.bini .add)), [.tmp (nat_lit 35), .const (.int .i64 (.ofNat (nat_lit 1)))], (some (nat_lit 36)), none⟩,
  .ins ⟨(.p (.sliceStr true false)), [.tmp (nat_lit 34), .tmp (nat_lit 36)], (some (nat_lit 37)), none⟩,
  .ins ⟨(.p .mv), [.tmp (nat_lit 7)], (some (nat_lit 38)), none⟩,
  .ins ⟨(.p .mv), [.tmp (nat_lit 8)], (some (nat_lit 39)), none⟩,
  .ins ⟨(.p .indexStr), [.tmp (nat_lit 38), .tmp (nat_lit 39)], (some (nat_lit 40)), none⟩,
  .ins ⟨(.c .value), [.const (.func (.func (nat_lit 272)) [] []), .tmp (nat_lit 37), .tmp (nat_lit 40)], (some (nat_lit 41)), none⟩,
  .ins ⟨(.p .mv), [.tmp (nat_lit 41)], (some (nat_lit 11)), none⟩])
 (.seq (.seq (.region [
  .ins ⟨(.p .mv), [.tmp (nat_lit 11)], (some (nat_lit 42)), none⟩,
  .ins ⟨(.p (.bini .lss)), [.tmp (nat_lit 42), .const (.int .i64 (.ofNat (nat_lit 0)))], (some (nat_lit 43)), none⟩])
 (.cond (.tmp (nat_lit 43)) (.seq (.region [
  .ins ⟨(.p .mv), [.const (.int .i64 (.negSucc (nat_lit 0)))], (some (nat_lit 4)), none⟩])
 .ret)
 .skip))
 (.region [
  .ins ⟨(.p .mv), [.tmp (nat_lit 9)], (some (nat_lit 44)), none⟩,
  .ins ⟨(.p .mv), [.tmp (nat_lit 11)], (some (nat_lit 45)), none⟩,
  .ins ⟨(.p (.bini .add)), [.tmp (nat_lit 45), .const (.int .i64 (.ofNat (nat_lit 1)))], (some (nat_lit 46)), none⟩,
  .ins ⟨(.p (.bini .add)), [.tmp (nat_lit 44), .tmp (nat_lit 46)], (some (nat_lit 47)), none⟩,
  .ins ⟨(.p .mv), [.tmp (nat_lit 47)], (some (nat_lit 9)), none⟩])))
 .skip))
 (.seq (.seq (.region [
  .ins ⟨(.p .mv), [.const (.int .i64 (.ofNat (nat_lit 1)))], (some (nat_lit 12)), none⟩])
 (.block (nat_lit 3) (.loop (.seq (.seq (.region [
  .ins ⟨(.p .mv), [.tmp (nat_lit 12)], (some (nat_lit 48)), none⟩,
  .ins ⟨(.p .mv), [.tmp (nat_lit 7)], (some (nat_lit 49)), none⟩,
  .ins ⟨(.p .lenStr), [.tmp (nat_lit 49)], (some (nat_lit 50)), none⟩,
  .ins ⟨(.p (.bini .lss)), [.tmp (nat_lit 48), .tmp (nat_lit 50)], (some (nat_lit 51)), none⟩])
 (.cond (.tmp (nat_lit 51)) .skip
 (.exit (nat_lit 3))))
 (.seq (.block (nat_lit 4) (.seq (.region [
  .ins ⟨(.p .mv), [.tmp (nat_lit 0)], (some (nat_lit 54)), none⟩,
  .ins ⟨(.p .mv), [.tmp (nat_lit 9)], (some (nat_lit 55)), none⟩,
  .ins ⟨(.p .mv), [.tmp (nat_lit 12)], (some (nat_lit 56)), none⟩,
  .ins ⟨(.p (.bini .sub)), [.tmp (nat_lit 55), .tmp (nat_lit 56)], (some (nat_lit 57)), none⟩,
  .ins ⟨(.p .indexStr), [.tmp (nat_lit 54), .tmp (nat_lit 57)], (some (nat_lit 58)), none⟩,
  .ins ⟨(.p .mv), [.tmp (nat_lit 7)], (some (nat_lit 59)), none⟩,
  .ins ⟨(.p .mv), [.tmp (nat_lit 8)], (some (nat_lit 60)), none⟩,
  .ins ⟨(.p .mv), [.tmp (nat_lit 12)], (some (nat_lit 61)), none⟩,
  .ins ⟨(.p (.bini .sub)), [.tmp (nat_lit 60), .tmp (nat_lit 61)], (some (nat_lit 62)), none⟩,
  .ins ⟨(.p .indexStr), [.tmp (nat_lit 59), .tmp (nat_lit 62)], (some (nat_lit 63)), none⟩,
  .ins ⟨(.p (.bini .neq)), [.tmp (nat_lit 58), .tmp (nat_lit 63)], (some (nat_lit 64)), none⟩])
 (.cond (.tmp (nat_lit 64)) (.region [
  .ins ⟨(.p .mv), [], none, none⟩])
 .skip)))
 (.region [
  .ins ⟨(.p .mv), [.tmp (nat_lit 12)], (some (nat_lit 52)), none⟩,
  .ins ⟨(.p (.bini .add)), [.tmp (nat_lit 52), .const (.int .i64 (.ofNat (nat_lit 1)))], (some (nat_lit 53)), none⟩,
  .ins ⟨(.p .mv), [.tmp (nat_lit 53)], (some (nat_lit 12)), none⟩]))))))
 (.seq (.seq (.region [
  .ins ⟨(.p .mv), [.tmp (nat_lit 9)], (some (nat_lit 65)), none⟩,
  .ins ⟨(.p .mv), [.tmp (nat_lit 8)], (some (nat_lit 66)), none⟩,
  .ins ⟨(.p (.bini .sub)), [.tmp (nat_lit 65), .tmp (nat_lit 66)], (some (nat_lit 67)), none⟩,
  .ins ⟨(.p .mv), [.tmp (nat_lit 67)], (some (nat_lit 4)), none⟩])
 .ret)
 (.seq .skip
 (.seq (.region [
  .ins ⟨(.p .mv), [.tmp (nat_lit 10)], (some (nat_lit 68)), none⟩,
  .ins ⟨(.p (.bini .add)), [.tmp (nat_lit 68), .const (.int .i64 (.ofNat (nat_lit 1)))], (some (nat_lit 69)), none⟩,
  .ins ⟨(.p .mv), [.tmp (nat_lit 69)], (some (nat_lit 10)), none⟩])
 (.seq (.region [
  .ins ⟨(.p .mv), [.tmp (nat_lit 9)], (some (nat_lit 70)), none⟩,
  .ins ⟨(.p (.bini .add)), [.tmp (nat_lit 70), .const (.int .i64 (.ofNat (nat_lit 1)))], (some (nat_lit 71)), none⟩,
  .ins ⟨(.p .mv), [.tmp (nat_lit 71)], (some (nat_lit 9)), none⟩])
 (.seq (.region [
  .ins ⟨(.p .mv), [.const (.bool true)], (some (nat_lit 72)), none⟩,
  .ins ⟨(.p .mv), [.tmp (nat_lit 10)], (some (nat_lit 73)), (some ((nat_lit 72), true))⟩,
  .ins ⟨(.p .mv), [.tmp (nat_lit 9)], (some (nat_lit 74)), (some ((nat_lit 72), true))⟩,
  .ins ⟨(.c .value), [.const (.func (.func (nat_lit 317)) [] []), .tmp (nat_lit 74)], (some (nat_lit 75)), (some ((nat_lit 72), true))⟩,
  .ins ⟨(.p (.bini .gtr)), [.tmp (nat_lit 73), .tmp (nat_lit 75)], (some (nat_lit 76)), (some ((nat_lit 72), true))⟩,
  .ins ⟨(.p .pick), [.tmp (nat_lit 72), .tmp (nat_lit 76), .const (.bool false)], (some (nat_lit 77)), none⟩,
  .ins ⟨(.p .mv), [.tmp (nat_lit 77)], (some (nat_lit 78)), none⟩,
  .ins ⟨(.p .mv), [.tmp (nat_lit 9)], (some (nat_lit 79)), (some ((nat_lit 78), true))⟩,
  .ins ⟨(.p .mv), [.tmp (nat_lit 0)], (some (nat_lit 80)), (some ((nat_lit 78), true))⟩,
  .ins ⟨(.p .lenStr), [.tmp (nat_lit 80)], (some (nat_lit 81)), (some ((nat_lit 78), true))⟩,
  .ins ⟨(.p (.bini .lss)), [.tmp (nat_lit 79), .tmp (nat_lit 81)], (some (nat_lit 82)), (some ((nat_lit 78), true))⟩,
  .ins ⟨(.p .pick), [.tmp (nat_lit 78), .tmp (nat_lit 82), .const (.bool false)], (some (nat_lit 83)), none⟩,
  .ins ⟨(.p .mv), [.tmp (nat_lit 83)], (some (nat_lit 84)), none⟩,
  .ins ⟨(.p .mv), [.const (.bool false)], (some (nat_lit 85)), (some ((nat_lit 84), false))⟩,
  .ins ⟨(.p .mv), [.tmp (nat_lit 10)], (some (nat_lit 86)), (some ((nat_lit 85), true))⟩,
  .ins ⟨(.p .mv), [.tmp (nat_lit 9)], (some (nat_lit 87)), (some ((nat_lit 85), true))⟩,
  .ins ⟨(.p (.bini .shr)), [.tmp (nat_lit 87), .const (.int .u64 (.ofNat (nat_lit 4)))], (some (nat_lit 88)), (some ((nat_lit 85), true))⟩,
  .ins ⟨(.p (.bini .add)), [.const (.int .i64 (.ofNat (nat_lit 4))), .tmp (nat_lit 88)], (some (nat_lit 89)), (some ((nat_lit 85), true))⟩,
  .ins ⟨(.p (.bini .geq)), [.tmp (nat_lit 86), .tmp (nat_lit 89)], (some (nat_lit 90)), (some ((nat_lit 85), true))⟩,
  .ins ⟨(.p .pick), [.tmp (nat_lit 85), .tmp (nat_lit 90), .const (.bool false)], (some (nat_lit 91)), (some ((nat_lit 84), false))⟩,
  .ins ⟨(.p .mv), [.tmp (nat_lit 91)], (some (nat_lit 92)), (some ((nat_lit 84), false))⟩,
  .ins ⟨(.p .mv), [.tmp (nat_lit 9)], (some (nat_lit 93)), (some ((nat_lit 92), true))⟩,
  .ins ⟨(.p .mv), [.tmp (nat_lit 0)], (some (nat_lit 94)), (some ((nat_lit 92), true))⟩,
  .ins ⟨(.p .lenStr), [.tmp (nat_lit 94)], (some (nat_lit 95)), (some ((nat_lit 92), true))⟩,
  .ins ⟨(.p (.bini .lss)), [.tmp (nat_lit 93), .tmp (nat_lit 95)], (some (nat_lit 96)), (some ((nat_lit 92), true))⟩,
  .ins ⟨(.p .pick), [.tmp (nat_lit 92), .tmp (nat_lit 96), .const (.bool false)], (some (nat_lit 97)), (some ((nat_lit 84), false))⟩,
  .ins ⟨(.p .pick), [.tmp (nat_lit 84), .const (.bool true), .tmp (nat_lit 97)], (some (nat_lit 98)), none⟩])
 (.cond (.tmp (nat_lit 98)) (.region [
  .ins ⟨(.p .mv), [], none, none⟩])
 .skip)))))))))))))
 (.seq (.seq (.region [
  .ins ⟨(.p .mv), [.const (.int .i64 (.negSucc (nat_lit 0)))], (some (nat_lit 4)), none⟩])
 .ret)
 (.seq .skip
 (.seq (.cond (.const (.bool true)) (.seq (.region [
  .ins ⟨(.p .mv), [.tmp (nat_lit 0)], (some (nat_lit 99)), none⟩,
  .ins ⟨(.p .mv), [.tmp (nat_lit 9)], (some (nat_lit 100)), none⟩,
  .ins ⟨(.p .mv), [.tmp (nat_lit 8)], (some (nat_lit 101)), none⟩,
  .ins ⟨(.p (.bini .sub)), [.tmp (nat_lit 100), .tmp (nat_lit 101)], (some (nat_lit 102)), none⟩,
  .ins ⟨(.p (.sliceStr true false)), [.tmp (nat_lit 99), .tmp (nat_lit 102)], (some (nat_lit 103)), none⟩,
  .ins ⟨(.p .mv), [.tmp (nat_lit 1)], (some (nat_lit 104)), none⟩,
  .ins ⟨(.p .mv), [], (some (nat_lit 105)), none⟩,
  .ins ⟨(.c .value), [.const (.func (.func (nat_lit 316)) [] []), .tmp (nat_lit 103), .tmp (nat_lit 105)], (some (nat_lit 106)), none⟩,
  .ins ⟨(.p .mv), [.tmp (nat_lit 106)], (some (nat_lit 13)), none⟩])
 (.seq (.region [
  .ins ⟨(.p .mv), [.tmp (nat_lit 13)], (some (nat_lit 107)), none⟩,
  .ins ⟨(.p (.bini .geq)), [.tmp (nat_lit 107), .const (.int .i64 (.ofNat (nat_lit 0)))], (some (nat_lit 108)), none⟩])
 (.cond (.tmp (nat_lit 108)) (.seq (.region [
  .ins ⟨(.p .mv), [.tmp (nat_lit 9)], (some (nat_lit 109)), none⟩,
  .ins ⟨(.p .mv), [.tmp (nat_lit 13)], (some (nat_lit 110)), none⟩,
  .ins ⟨(.p (.bini .add)), [.tmp (nat_lit 109), .tmp (nat_lit 110)], (some (nat_lit 111)), none⟩,
  .ins ⟨(.p .mv), [.tmp (nat_lit 8)], (some (nat_lit 112)), none⟩,
  .ins ⟨(.p (.bini .sub)), [.tmp (nat_lit 111), .tmp (nat_lit 112)], (some (nat_lit 113)), none⟩,
  .ins ⟨(.p .mv), [.tmp (nat_lit 113)], (some (nat_lit 4)), none⟩])
 .ret)
 .skip)))
 (.scope (.seq (.region [
  .ins ⟨(.p .mv), [.tmp (nat_lit 7)], (some (nat_lit 114)), none⟩,
  .ins ⟨(.p .mv), [.tmp (nat_lit 8)], (some (nat_lit 115)), none⟩,
  .ins ⟨(.p .indexStr), [.tmp (nat_lit 114), .tmp (nat_lit 115)], (some (nat_lit 116)), none⟩,
  .ins ⟨(.p .mv), [.tmp (nat_lit 116)], (some (nat_lit 14)), none⟩])
 (.seq (.region [
  .ins ⟨(.p .mv), [.tmp (nat_lit 7)], (some (nat_lit 117)), none⟩,
  .ins ⟨(.p .mv), [.tmp (nat_lit 8)], (some (nat_lit 118)), none⟩,
  .ins ⟨(.p (.bini .sub)), [.tmp (nat_lit 118), .const (.int .i64 (.ofNat (nat_lit 1)))], (some (nat_lit 119)), none⟩,
  .ins ⟨(.p .indexStr), [.tmp (nat_lit 117), .tmp (nat_lit 119)], (some (nat_lit 120)), none⟩,
  .ins ⟨(.p .mv), [.tmp (nat_lit 120)], (some (nat_lit 15)), none⟩])
 (.seq .skip
 (.block (nat_lit 5) (.loop (.seq (.seq (.region [
  .ins ⟨(.p .mv), [.tmp (nat_lit 9)], (some (nat_lit 121)), none⟩,
  .ins ⟨(.p .mv), [.tmp (nat_lit 0)], (some (nat_lit 122)), none⟩,
  .ins ⟨(.p .lenStr), [.tmp (nat_lit 122)], (some (nat_lit 123)), none⟩,
  .ins ⟨(.p (.bini .lss)), [.tmp (nat_lit 121), .tmp (nat_lit 123)], (some (nat_lit 124)), none⟩])
 (.cond (.tmp (nat_lit 124)) .skip
 (.exit (nat_lit 5))))
 (.seq (.block (nat_lit 6) (.seq (.region [
  .ins ⟨(.p .mv), [.tmp (nat_lit 0)], (some (nat_lit 127)), none⟩,
  .ins ⟨(.p .mv), [.tmp (nat_lit 9)], (some (nat_lit 128)), none⟩,
  .ins ⟨(.p .indexStr), [.tmp (nat_lit 127), .tmp (nat_lit 128)], (some (nat_lit 129)), none⟩,
  .ins ⟨(.p .mv), [.tmp (nat_lit 14)], (some (nat_lit 130)), none⟩,
  .ins ⟨(.p (.bini .eql)), [.tmp (nat_lit 129), .tmp (nat_lit 130)], (some (nat_lit 131)), none⟩,
  .ins ⟨(.p .mv), [.tmp (nat_lit 131)], (some (nat_lit 132)), none⟩,
  .ins ⟨(.p .mv), [.tmp (nat_lit 0)], (some (nat_lit 133)), (some ((nat_lit 132), true))⟩,
  .ins ⟨(.p .mv), [.tmp (nat_lit 9)], (some (nat_lit 134)), (some ((nat_lit 132), true))⟩,
  .ins ⟨(.p (.bini .sub)), [.tmp (nat_lit 134), .const (.int .i64 (.ofNat (nat_lit 1)))], (some (nat_lit 135)), (some ((nat_lit 132), true))⟩,
  .ins ⟨(.p .indexStr), [.tmp (nat_lit 133), .tmp (nat_lit 135)], (some (nat_lit 136)), (some ((nat_lit 132), true))⟩,
  .ins ⟨(.p .mv), [.tmp (nat_lit 15)], (some (nat_lit 137)), (some ((nat_lit 132), true))⟩,
  .ins ⟨(.p (.bini .eql)), [.tmp (nat_lit 136), .tmp (nat_lit 137)], (some (nat_lit 138)), (some ((nat_lit 132), true))⟩,
  .ins ⟨(.p .pick), [.tmp (nat_lit 132), .tmp (nat_lit 138), .const (.bool false)], (some (nat_lit 139)), none⟩])
 (.cond (.tmp (nat_lit 139)) (.seq (.seq (.region [
  .ins ⟨(.p .mv), [.const (.int .i64 (.ofNat (nat_lit 2)))], (some (nat_lit 16)), none⟩])
 (.block (nat_lit 7) (.loop (.seq (.seq (.region [
  .ins ⟨(.p .mv), [.tmp (nat_lit 16)], (some (nat_lit 140)), none⟩,
  .ins ⟨(.p .mv), [.tmp (nat_lit 7)], (some (nat_lit 141)), none⟩,
  .ins ⟨(.p .lenStr), [.tmp (nat_lit 141)], (some (nat_lit 142)), none⟩,
  .ins ⟨(.p (.bini .lss)), [.tmp (nat_lit 140), .tmp (nat_lit 142)], (some (nat_lit 143)), none⟩])
 (.cond (.tmp (nat_lit 143)) .skip
 (.exit (nat_lit 7))))
 (.seq (.block (nat_lit 8) (.seq (.region [
  .ins ⟨(.p .mv), [.tmp (nat_lit 0)], (some (nat_lit 146)), none⟩,
  .ins ⟨(.p .mv), [.tmp (nat_lit 9)], (some (nat_lit 147)), none⟩,
  .ins ⟨(.p .mv), [.tmp (nat_lit 16)], (some (nat_lit 148)), none⟩,
  .ins ⟨(.p (.bini .sub)), [.tmp (nat_lit 147), .tmp (nat_lit 148)], (some (nat_lit 149)), none⟩,
  .ins ⟨(.p .indexStr), [.tmp (nat_lit 146), .tmp (nat_lit 149)], (some (nat_lit 150)), none⟩,
  .ins ⟨(.p .mv), [.tmp (nat_lit 7)], (some (nat_lit 151)), none⟩,
  .ins ⟨(.p .mv), [.tmp (nat_lit 8)], (some (nat_lit 152)), none⟩,
  .ins ⟨(.p .mv), [.tmp (nat_lit 16)], (some (nat_lit 153)), none⟩,
  .ins ⟨(.p (.bini .sub)), [.tmp (nat_lit 152), .tmp (nat_lit 153)], (some (nat_lit 154)), none⟩,
  .ins ⟨(.p .indexStr), [.tmp (nat_lit 151), .tmp (nat_lit 154)], (some (nat_lit 155)), none⟩,
  .ins ⟨(.p (.bini .neq)), [.tmp (nat_lit 150), .tmp (nat_lit 155)], (some (nat_lit 156)), none⟩])
 (.cond (.tmp (nat_lit 156)) (.exit (nat_lit 6))
 .skip)))
 (.region [
  .ins ⟨(.p .mv), [.tmp (nat_lit 16)], (some (nat_lit 144)), none⟩,
  .ins ⟨(.p (.bini .add)), [.tmp (nat_lit 144), .const (.int .i64 (.ofNat (nat_lit 1)))], (some (nat_lit 145)), none⟩,
  .ins ⟨(.p .mv), [.tmp (nat_lit 145)], (some (nat_lit 16)), none⟩]))))))
 (.seq (.region [
  .ins ⟨(.p .mv), [.tmp (nat_lit 9)], (some (nat_lit 157)), none⟩,
  .ins ⟨(.p .mv), [.tmp (nat_lit 8)], (some (nat_lit 158)), none⟩,
  .ins ⟨(.p (.bini .sub)), [.tmp (nat_lit 157), .tmp (nat_lit 158)], (some (nat_lit 159)), none⟩,
  .ins ⟨(.p .mv), [.tmp (nat_lit 159)], (some (nat_lit 4)), none⟩])
 .ret))
 .skip)))
 (.region [
  .ins ⟨(.p .mv), [.tmp (nat_lit 9)], (some (nat_lit 125)), none⟩,
  .ins ⟨(.p (.bini .add)), [.tmp (nat_lit 125), .const (.int .i64 (.ofNat (nat_lit 1)))], (some (nat_lit 126)), none⟩,
  .ins ⟨(.p .mv), [.tmp (nat_lit 126)], (some (nat_lit 9)), none⟩]))))))))))
 (.seq (.region [
  .ins ⟨(.p .mv), [.const (.int .i64 (.negSucc (nat_lit 0)))], (some (nat_lit 4)), none⟩])
 .ret))))))))))))))))))⟩

def c322 : Code' := .fn ⟨(nat_lit 5), [.tmp (nat_lit 2)],
 (.seq (.region [
  .ins ⟨(.p .mv), [.const (.bool false)], (some (nat_lit 2)), none⟩])
 (.seq (.region [
  .ins ⟨(.p .mv), [.tmp (nat_lit 0)], (some (nat_lit 3)), none⟩,
  .ins ⟨(.p (.bini .gtr)), [.tmp (nat_lit 3), .const (.int .i64 (.ofNat (nat_lit 8)))], (some (nat_lit 4)), none⟩,
  .ins ⟨(.p .mv), [.tmp (nat_lit 4)], (some (nat_lit 2)), none⟩])
 .ret))⟩

def c323 : Code' := .fn ⟨(nat_lit 31), [.tmp (nat_lit 4), .tmp (nat_lit 5)],
 (.seq (.region [
  .ins ⟨(.p .mv), [.const (.int .i64 (.ofNat (nat_lit 0)))], (some (nat_lit 4)), none⟩,
  .ins ⟨(.p .mv), [.const (.int .i64 (.ofNat (nat_lit 0)))], (some (nat_lit 5)), none⟩])
 (.seq (.region [
  .ins ⟨(.p .mv), [.tmp (nat_lit 0)], (some (nat_lit 10)), none⟩,
  .ins ⟨(.p .nilck), [.tmp (nat_lit 10)], (some (nat_lit 11)), none⟩,
  .ins ⟨(.p (.fieldAddr (nat_lit 1))), [.tmp (nat_lit 11)], (some (nat_lit 12)), none⟩,
  .ins ⟨(.r (.load false (nat_lit 1))), [.tmp (nat_lit 12)], (some (nat_lit 13)), none⟩,
  .ins ⟨(.p .mv), [.tmp (nat_lit 1)], (some (nat_lit 14)), none⟩,
  .ins ⟨(.c .value), [.const (.func (.func (nat_lit 333)) [] []), .tmp (nat_lit 13), .tmp (nat_lit 14)], (some (nat_lit 15)), none⟩,
  .ins ⟨(.p .mv), [.tmp (nat_lit 15)], (some (nat_lit 9)), none⟩,
  .ins ⟨(.p (.extract (nat_lit 0))), [.tmp (nat_lit 9)], (some (nat_lit 16)), none⟩,
  .ins ⟨(.p (.extract (nat_lit 1))), [.tmp (nat_lit 9)], (some (nat_lit 17)), none⟩,
  .ins ⟨(.p (.extract (nat_lit 2))), [.tmp (nat_lit 9)], (some (nat_lit 18)), none⟩,
  .ins ⟨(.p .mv), [.tmp (nat_lit 16)], (some (nat_lit 6)), none⟩,
  .ins ⟨(.p .mv), [.tmp (nat_lit 17)], (some (nat_lit 7)), none⟩,
  .ins ⟨(.p .mv), [.tmp (nat_lit 18)], (some (nat_lit 8)), none⟩])
 (.seq (.seq (.region [
  .ins ⟨(.p .mv), [.tmp (nat_lit 8)], (some (nat_lit 19)), none⟩,
  .ins ⟨(.p (.bini .neq)), [.tmp (nat_lit 19), .const (.int .i64 (.ofNat (nat_lit 0)))], (some (nat_lit 20)), none⟩])
 (.cond (.tmp (nat_lit 20)) (.seq (.region [
  .ins ⟨(.p .mv), [.const (.int .i64 (.ofNat (nat_lit 0)))], (some (nat_lit 4)), none⟩,
  .ins ⟨(.p .mv), [.const (.int .i64 (.ofNat (nat_lit 4)))], (some (nat_lit 5)), none⟩])
 .ret)
 .skip))
 (.seq (.region [
  .ins ⟨(.p .mv), [.tmp (nat_lit 0)], (some (nat_lit 21)), none⟩,
  .ins ⟨(.p .mv), [.tmp (nat_lit 0)], (some (nat_lit 22)), none⟩,
  .ins ⟨(.p .nilck), [.tmp (nat_lit 22)], (some (nat_lit 23)), none⟩,
  .ins ⟨(.p (.fieldAddr (nat_lit 1))), [.tmp (nat_lit 23)], (some (nat_lit 24)), none⟩,
  .ins ⟨(.r (.load false (nat_lit 1))), [.tmp (nat_lit 24)], (some (nat_lit 25)), none⟩,
  .ins ⟨(.p .mv), [.tmp (nat_lit 7)], (some (nat_lit 26)), none⟩,
  .ins ⟨(.p (.slice (nat_lit 1) true false)), [.tmp (nat_lit 25), .tmp (nat_lit 26)], (some (nat_lit 27)), none⟩,
  .ins ⟨(.p .nilck), [.tmp (nat_lit 21)], (some (nat_lit 28)), none⟩,
  .ins ⟨(.p (.fieldAddr (nat_lit 1))), [.tmp (nat_lit 28)], (some (nat_lit 29)), none⟩,
  .ins ⟨(.l (.store (nat_lit 1))), [.tmp (nat_lit 29), .tmp (nat_lit 27)], none, none⟩])
 (.seq (.region [
  .ins ⟨(.p .mv), [.tmp (nat_lit 6)], (some (nat_lit 30)), none⟩,
  .ins ⟨(.p .mv), [.tmp (nat_lit 30)], (some (nat_lit 4)), none⟩,
  .ins ⟨(.p .mv), [.const (.int .i64 (.ofNat (nat_lit 0)))], (some (nat_lit 5)), none⟩])
 .ret)))))⟩

def c324 : Code' := .fn ⟨(nat_lit 24), [.cell (nat_lit 4) true (nat_lit 3), .tmp (nat_lit 5)],
 (.seq (.region [
  .ins ⟨(.a (.alloc [(.str (bs [])), (.str (bs [])), (.bool false)])), [], (some (nat_lit 4)), none⟩,
  .ins ⟨(.p .mv), [.const (.int .i64 (.ofNat (nat_lit 0)))], (some (nat_lit 5)), none⟩])
 (.seq (.seq (.region [
  .ins ⟨(.p .mv), [.tmp (nat_lit 1)], (some (nat_lit 6)), none⟩,
  .ins ⟨(.p (.bini .leq)), [.tmp (nat_lit 6), .const (.int .i64 (.ofNat (nat_lit 61)))], (some (nat_lit 7)), none⟩])
 (.cond (.tmp (nat_lit 7)) (.seq (.region [
  .ins ⟨(.p .mv), [.tmp (nat_lit 1)], (some (nat_lit 8)), none⟩,
  .ins ⟨(.c .value), [.const (.func (.func (nat_lit 334)) [] []), .tmp (nat_lit 8)], (some (nat_lit 9)), none⟩,
  .ins ⟨(.p (.extract (nat_lit 0))), [.tmp (nat_lit 9)], (some (nat_lit 10)), none⟩,
  .ins ⟨(.p (.extract (nat_lit 1))), [.tmp (nat_lit 9)], (some (nat_lit 11)), none⟩,
  .ins ⟨(.l (.store (nat_lit 3))), [.tmp (nat_lit 4), .tmp (nat_lit 10)], none, none⟩,
  .ins ⟨(.p .mv), [.tmp (nat_lit 11)], (some (nat_lit 5)), none⟩])
 .ret)
 .skip))
 (.seq (.region [
  .ins ⟨(.p .mv), [.tmp (nat_lit 0)], (some (nat_lit 12)), none⟩,
  .ins ⟨(.p .nilck), [.tmp (nat_lit 12)], (some (nat_lit 13)), none⟩,
  .ins ⟨(.p (.fieldAddr (nat_lit 0))), [.tmp (nat_lit 13)], (some (nat_lit 14)), none⟩,
  .ins ⟨(.r (.load false (nat_lit 1))), [.tmp (nat_lit 14)], (some (nat_lit 15)), none⟩,
  .ins ⟨(.p .nilck), [.tmp (nat_lit 15)], (some (nat_lit 16)), none⟩,
  .ins ⟨(.p (.fieldAddr (nat_lit 0))), [.tmp (nat_lit 16)], (some (nat_lit 17)), none⟩,
  .ins ⟨(.r (.load false (nat_lit 1))), [.tmp (nat_lit 17)], (some (nat_lit 18)), none⟩,
  .ins ⟨(.p .mv), [.tmp (nat_lit 1)], (some (nat_lit 19)), none⟩,
  .ins ⟨(.p (.bini .sub)), [.tmp (nat_lit 19), .const (.int .i64 (.ofNat (nat_lit 61)))], (some (nat_lit 20)), none⟩,
  .ins ⟨(.c .value), [.const (.func (.func (nat_lit 335)) [] []), .tmp (nat_lit 18), .tmp (nat_lit 20)], (some (nat_lit 21)), none⟩,
  .ins ⟨(.p (.extract (nat_lit 0))), [.tmp (nat_lit 21)], (some (nat_lit 22)), none⟩,
  .ins ⟨(.p (.extract (nat_lit 1))), [.tmp (nat_lit 21)], (some (nat_lit 23)), none⟩,
  .ins ⟨(.l (.store (nat_lit 3))), [.tmp (nat_lit 4), .tmp (nat_lit 22)], none, none⟩,
  .ins ⟨(.p .mv), [.tmp (nat_lit 23)], (some (nat_lit 5)), none⟩])
 .ret)))⟩

def c326 : Code' := .fn ⟨(nat_lit 19), [],
 (.seq (.region [
  .ins ⟨(.c .value), [.const (.func (.func (nat_lit 327)) [] [])], (some (nat_lit 4)), none⟩,
  .ins ⟨(.p .lenSl), [.tmp (nat_lit 4)], (some (nat_lit 5)), none⟩,
  .ins ⟨(.p .mv), [.const (.int .i64 (.ofNat (nat_lit 0)))], (some (nat_lit 6)), none⟩])
 (.block (nat_lit 0) (.loop (.seq (.region [
  .ins ⟨(.p (.bini .lss)), [.tmp (nat_lit 6), .tmp (nat_lit 5)], (some (nat_lit 7)), none⟩])
 (.seq (.cond (.tmp (nat_lit 7)) .skip
 (.exit (nat_lit 0)))
 (.seq (.block (nat_lit 1) (.seq (.region [
  .ins ⟨(.p .mv), [.tmp (nat_lit 6)], (some (nat_lit 8)), none⟩,
  .ins ⟨(.p (.indexAddr (nat_lit 1))), [.tmp (nat_lit 4), .tmp (nat_lit 6)], (some (nat_lit 9)), none⟩,
  .ins ⟨(.r (.load false (nat_lit 1))), [.tmp (nat_lit 9)], (some (nat_lit 10)), none⟩,
  .ins ⟨(.p .mv), [.tmp (nat_lit 8)], (some (nat_lit 2)), none⟩,
  .ins ⟨(.p .mv), [.tmp (nat_lit 10)], (some (nat_lit 3)), none⟩])
 (.seq (.region [
  .ins ⟨(.p .mv), [.tmp (nat_lit 0)], (some (nat_lit 11)), none⟩,
  .ins ⟨(.p .mv), [.tmp (nat_lit 2)], (some (nat_lit 12)), none⟩,
  .ins ⟨(.p (.bini .add)), [.tmp (nat_lit 12), .const (.int .i64 (.ofNat (nat_lit 1)))], (some (nat_lit 13)), none⟩,
  .ins ⟨(.p .mv), [.tmp (nat_lit 3)], (some (nat_lit 14)), none⟩,
  .ins ⟨(.c .value), [.const (.func (.func (nat_lit 328)) [] []), .tmp (nat_lit 14)], (some (nat_lit 15)), none⟩,
  .ins ⟨(.c .value), [.tmp (nat_lit 11), .tmp (nat_lit 13), .tmp (nat_lit 15)], (some (nat_lit 16)), none⟩,
  .ins ⟨(.p (.un .not)), [.tmp (nat_lit 16)], (some (nat_lit 17)), none⟩])
 (.cond (.tmp (nat_lit 17)) .ret
 .skip))))
 (.region [
  .ins ⟨(.p (.bini .add)), [.tmp (nat_lit 6), .const (.int .i64 (.ofNat (nat_lit 1)))], (some (nat_lit 18)), none⟩,
  .ins ⟨(.p .mv), [.tmp (nat_lit 18)], (some (nat_lit 6)), none⟩])))))))⟩

def c327 : Code' := .fn ⟨(nat_lit 2), [.tmp (nat_lit 0)],
 (.seq (.region [
  .ins ⟨(.p .mv), [.const (.slice none (nat_lit 0) (nat_lit 0) (nat_lit 0))], (some (nat_lit 0)), none⟩])
 (.seq (.region [
  .ins ⟨(.a (.buildSlice [(.str (bs [])), (.str (bs [])), (.str (bs [])), (.str (bs [])), (.str (bs [])), (.str (bs [])), (.str (bs [])), (.str (bs [])), (.str (bs [])), (.str (bs [])), (.str (bs [])), (.str (bs [])), (.str (bs [])), (.str (bs [])), (.str (bs [])), (.str (bs [])), (.str (bs [])), (.str (bs [])), (.str (bs [])), (.str (bs [])), (.str (bs [])), (.str (bs [])), (.str (bs [])), (.str (bs [])), (.str (bs [])), (.str (bs [])), (.str (bs [])), (.str (bs [])), (.str (bs [])), (.str (bs [])), (.str (bs [])), (.str (bs [])), (.str (bs [])), (.str (bs [])), (.str (bs [])), (.str (bs [])), (.str (bs [])), (.str (bs [])), (.str (bs [])), (.str (bs [])), (.str (bs [])), (.str (bs [])), (.str (bs [])), (.str (bs [])), (.str (bs [])), (.str (bs [])), (.str (bs [])), (.str (bs [])), (.str (bs [])), (.str (bs [])), (.str (bs [])), (.str (bs [])), (.str (bs [])), (.str (bs [])), (.str (bs [])), (.str (bs [])), (.str (bs [])), (.str (bs [])), (.str (bs [])), (.str (bs [])), (.str (bs []))] (nat_lit 61) [((nat_lit 0), (nat_lit 1)), ((nat_lit 1), (nat_lit 1)), ((nat_lit 2), (nat_lit 1)), ((nat_lit 3), (nat_lit 1)), ((nat_lit 4), (nat_lit 1)), ((nat_lit 5), (nat_lit 1)), ((nat_lit 6), (nat_lit 1)), ((nat_lit 7), (nat_lit 1)), ((nat_lit 8), (nat_lit 1)), ((nat_lit 9), (nat_lit 1)), ((nat_lit 10), (nat_lit 1)), ((nat_lit 11), (nat_lit 1)), ((nat_lit 12), (nat_lit 1)), ((nat_lit 13), (nat_lit 1)), ((nat_lit 14), (nat_lit 1)), ((nat_lit 15), (nat_lit 1)), ((nat_lit 16), (nat_lit 1)), ((nat_lit 17), (nat_lit 1)), ((nat_lit 18), (nat_lit 1)), ((nat_lit 19), (nat_lit 1)), ((nat_lit 20), (nat_lit 1)), ((nat_lit 21), (nat_lit 1)), ((nat_lit 22), (nat_lit 1)), ((nat_lit 23), (nat_lit 1)), ((nat_lit 24), (nat_lit 1)), ((nat_lit 25), (nat_lit 1)), ((nat_lit 26), (nat_lit 1)), ((nat_lit 27), (nat_lit 1)), ((nat_lit 28), (nat_lit 1)), ((nat_lit 29), (nat_lit 1)), ((nat_lit 30), (nat_lit 1)), ((nat_lit 31), (nat_lit 1)), ((nat_lit 32), (nat_lit 1)), ((nat_lit 33), (nat_lit 1)), ((nat_lit 34), (nat_lit 1)), ((nat_lit 35), (nat_lit 1)), ((nat_lit 36), (nat_lit 1)), ((nat_lit 37), (nat_lit 1)), ((nat_lit 38), (nat_lit 1)), ((nat_lit 39), (nat_lit 1)), ((nat_lit 40), (nat_lit 1)), ((nat_lit 41), (nat_lit 1)), ((nat_lit 42), (nat_lit 1)), ((nat_lit 43), (nat_lit 1)), ((nat_lit 44), (nat_lit 1)), ((nat_lit 45), (nat_lit 1)), ((nat_lit 46), (nat_lit 1)), ((nat_lit 47), (nat_lit 1)), ((nat_lit 48), (nat_lit 1)), ((nat_lit 49), (nat_lit 1)), ((nat_lit 50), (nat_lit 1)), ((nat_lit 51), (nat_lit 1)), ((nat_lit 52), (nat_lit 1)), ((nat_lit 53), (nat_lit 1)), ((nat_lit 54), (nat_lit 1)), ((nat_lit 55), (nat_lit 1)), ((nat_lit 56), (nat_lit 1)), ((nat_lit 57), (nat_lit 1)), ((nat_lit 58), (nat_lit 1)), ((nat_lit 59), (nat_lit 1)), ((nat_lit 60), (nat_lit 1))])), [.const (.str (bs [(nat_lit 58), (nat_lit 97), (nat_lit 117), (nat_lit 116), (nat_lit 104), (nat_lit 111), (nat_lit 114), (nat_lit 105), (nat_lit 116), (nat_lit 121)])), .const (.str (bs [(nat_lit 58), (nat_lit 109), (nat_lit 101), (nat_lit 116), (nat_lit 104), (nat_lit 111), (nat_lit 100), (nat_lit 32), (nat_lit 71), (nat_lit 69), (nat_lit 84)])), .const (.str (bs [(nat_lit 58), (nat_lit 109), (nat_lit 101), (nat_lit 116), (nat_lit 104), (nat_lit 111), (nat_lit 100), (nat_lit 32), (nat_lit 80), (nat_lit 79), (nat_lit 83), (nat_lit 84)])), .const (.str (bs [(nat_lit 58), (nat_lit 112), (nat_lit 97), (nat_lit 116), (nat_lit 104), (nat_lit 32), (nat_lit 47)])), .const (.str (bs [(nat_lit 58), (nat_lit 112), (nat_lit 97), (nat_lit 116), (nat_lit 104), (nat_lit 32), (nat_lit 47), (nat_lit 105), (nat_lit 110), (nat_lit 100), (nat_lit 101), (nat_lit 120), (nat_lit 46), (nat_lit 104), (nat_lit 116), (nat_lit 109), (nat_lit 108)])), .const (.str (bs [(nat_lit 58), (nat_lit 115), (nat_lit 99), (nat_lit 104), (nat_lit 101), (nat_lit 109), (nat_lit 101), (nat_lit 32), (nat_lit 104), (nat_lit 116), (nat_lit 116), (nat_lit 112)])), .const (.str (bs [(nat_lit 58), (nat_lit 115), (nat_lit 99), (nat_lit 104), (nat_lit 101), (nat_lit 109), (nat_lit 101), (nat_lit 32), (nat_lit 104), (nat_lit 116), (nat_lit 116), (nat_lit 112), (nat_lit 115)])), .const (.str (bs [(nat_lit 58), (nat_lit 115), (nat_lit 116), (nat_lit 97), (nat_lit 116), (nat_lit 117), (nat_lit 115), (nat_lit 32), (nat_lit 50), (nat_lit 48), (nat_lit 48)])), .const (.str (bs [(nat_lit 58), (nat_lit 115), (nat_lit 116), (nat_lit 97), (nat_lit 116), (nat_lit 117), (nat_lit 115), (nat_lit 32), (nat_lit 50), (nat_lit 48), (nat_lit 52)])), .const (.str (bs [(nat_lit 58), (nat_lit 115), (nat_lit 116), (nat_lit 97), (nat_lit 116), (nat_lit 117), (nat_lit 115), (nat_lit 32), (nat_lit 50), (nat_lit 48), (nat_lit 54)])), .const (.str (bs [(nat_lit 58), (nat_lit 115), (nat_lit 116), (nat_lit 97), (nat_lit 116), (nat_lit 117), (nat_lit 115), (nat_lit 32), (nat_lit 51), (nat_lit 48), (nat_lit 52)])), .const (.str (bs [(nat_lit 58), (nat_lit 115), (nat_lit 116), (nat_lit 97), (nat_lit 116), (nat_lit 117), (nat_lit 115), (nat_lit 32), (nat_lit 52), (nat_lit 48), (nat_lit 48)])), .const (.str (bs [(nat_lit 58), (nat_lit 115), (nat_lit 116), (nat_lit 97), (nat_lit 116), (nat_lit 117), (nat_lit 115), (nat_lit 32), (nat_lit 52), (nat_lit 48), (nat_lit 52)])), .const (.str (bs [(nat_lit 58), (nat_lit 115), (nat_lit 116), (nat_lit 97), (nat_lit 116), (nat_lit 117), (nat_lit 115), (nat_lit 32), (nat_lit 53), (nat_lit 48), (nat_lit 48)])), .const (.str (bs [(nat_lit 97), (nat_lit 99), (nat_lit 99), (nat_lit 101), (nat_lit 112), (nat_lit 116), (nat_lit 45), (nat_lit 99), (nat_lit 104), (nat_lit 97), (nat_lit 114), (nat_lit 115), (nat_lit 101), (nat_lit 116)])), .const (.str (bs [(nat_lit 97), (nat_lit 99), (nat_lit 99), (nat_lit 101), (nat_lit 112), (nat_lit 116), (nat_lit 45), (nat_lit 101), (nat_lit 110), (nat_lit 99), (nat_lit 111), (nat_lit 100), (nat_lit 105), (nat_lit 110), (nat_lit 103), (nat_lit 32), (nat_lit 103), (nat_lit 122), (nat_lit 105), (nat_lit 112), (nat_lit 44), (nat_lit 32), (nat_lit 100), (nat_lit 101), (nat_lit 102), (nat_lit 108), (nat_lit 97), (nat_lit 116), (nat_lit 101)])), .const (.str (bs [(nat_lit 97), (nat_lit 99), (nat_lit 99), (nat_lit 101), (nat_lit 112), (nat_lit 116), (nat_lit 45), (nat_lit 108), (nat_lit 97), (nat_lit 110), (nat_lit 103), (nat_lit 117), (nat_lit 97), (nat_lit 103), (nat_lit 101)])), .const (.str (bs [(nat_lit 97), (nat_lit 99), (nat_lit 99), (nat_lit 101), (nat_lit 112), (nat_lit 116), (nat_lit 45), (nat_lit 114), (nat_lit 97), (nat_lit 110), (nat_lit 103), (nat_lit 101), (nat_lit 115)])), .const (.str (bs [(nat_lit 97), (nat_lit 99), (nat_lit 99), (nat_lit 101), (nat_lit 112), (nat_lit 116)])), .const (.str (bs [(nat_lit 97), (nat_lit 99), (nat_lit 99), (nat_lit 101), (nat_lit 115), (nat_lit 115), (nat_lit 45), (nat_lit 99), (nat_lit 111), (nat_lit 110), (nat_lit 116), (nat_lit 114), (nat_lit 111), (nat_lit 108), (nat_lit 45), (nat_lit 97), (nat_lit 108), (nat_lit 108), (nat_lit 111), (nat_lit 119), (nat_lit 45), (nat_lit 111), (nat_lit 114), (nat_lit 105), (nat_lit 103), (nat_lit 105), (nat_lit 110)])), .const (.str (bs [(nat_lit 97), (nat_lit 103), (nat_lit 101)])), .const (.str (bs [(nat_lit 97), (nat_lit 108), (nat_lit 108), (nat_lit 111), (nat_lit 119)])), .const (.str (bs [(nat_lit 97), (nat_lit 117), (nat_lit 116), (nat_lit 104), (nat_lit 111), (nat_lit 114), (nat_lit 105), (nat_lit 122), (nat_lit 97), (nat_lit 116), (nat_lit 105), (nat_lit 111), (nat_lit 110)])), .const (.str (bs [(nat_lit 99), (nat_lit 97), (nat_lit 99), (nat_lit 104), (nat_lit 101), (nat_lit 45), (nat_lit 99), (nat_lit 111), (nat_lit 110), (nat_lit 116), (nat_lit 114), (nat_lit 111), (nat_lit 108)])), .const (.str (bs [(nat_lit 99), (nat_lit 111), (nat_lit 110), (nat_lit 116), (nat_lit 101), (nat_lit 110), (nat_lit 116), (nat_lit 45), (nat_lit 100), (nat_lit 105), (nat_lit 115), (nat_lit 112), (nat_lit 111), (nat_lit 115), (nat_lit 105), (nat_lit 116), (nat_lit 105), (nat_lit 111), (nat_lit 110)])), .const (.str (bs [(nat_lit 99), (nat_lit 111), (nat_lit 110), (nat_lit 116), (nat_lit 101), (nat_lit 110), (nat_lit 116), (nat_lit 45), (nat_lit 101), (nat_lit 110), (nat_lit 99), (nat_lit 111), (nat_lit 100), (nat_lit 105), (nat_lit 110), (nat_lit 103)])), .const (.str (bs [(nat_lit 99), (nat_lit 111), (nat_lit 110), (nat_lit 116), (nat_lit 101), (nat_lit 110), (nat_lit 116), (nat_lit 45), (nat_lit 108), (nat_lit 97), (nat_lit 110), (nat_lit 103), (nat_lit 117), (nat_lit 97), (nat_lit 103), (nat_lit 101)])), .const (.str (bs [(nat_lit 99), (nat_lit 111), (nat_lit 110), (nat_lit 116), (nat_lit 101), (nat_lit 110), (nat_lit 116), (nat_lit 45), (nat_lit 108), (nat_lit 101), (nat_lit 110), (nat_lit 103), (nat_lit 116), (nat_lit 104)])), .const (.str (bs [(nat_lit 99), (nat_lit 111), (nat_lit 110), (nat_lit 116), (nat_lit 101), (nat_lit 110), (nat_lit 116), (nat_lit 45), (nat_lit 108), (nat_lit 111), (nat_lit 99), (nat_lit 97), (nat_lit 116), (nat_lit 105), (nat_lit 111), (nat_lit 110)])), .const (.str (bs [(nat_lit 99), (nat_lit 111), (nat_lit 110), (nat_lit 116), (nat_lit 101), (nat_lit 110), (nat_lit 116), (nat_lit 45), (nat_lit 114), (nat_lit 97), (nat_lit 110), (nat_lit 103), (nat_lit 101)])), .const (.str (bs [(nat_lit 99), (nat_lit 111), (nat_lit 110), (nat_lit 116), (nat_lit 101), (nat_lit 110), (nat_lit 116), (nat_lit 45), (nat_lit 116), (nat_lit 121), (nat_lit 112), (nat_lit 101)])), .const (.str (bs [(nat_lit 99), (nat_lit 111), (nat_lit 111), (nat_lit 107), (nat_lit 105), (nat_lit 101)])), .const (.str (bs [(nat_lit 100), (nat_lit 97), (nat_lit 116), (nat_lit 101)])), .const (.str (bs [(nat_lit 101), (nat_lit 116), (nat_lit 97), (nat_lit 103)])), .const (.str (bs [(nat_lit 101), (nat_lit 120), (nat_lit 112), (nat_lit 101), (nat_lit 99), (nat_lit 116)])), .const (.str (bs [(nat_lit 101), (nat_lit 120), (nat_lit 112), (nat_lit 105), (nat_lit 114), (nat_lit 101), (nat_lit 115)])), .const (.str (bs [(nat_lit 102), (nat_lit 114), (nat_lit 111), (nat_lit 109)])), .const (.str (bs [(nat_lit 104), (nat_lit 111), (nat_lit 115), (nat_lit 116)])), .const (.str (bs [(nat_lit 105), (nat_lit 102), (nat_lit 45), (nat_lit 109), (nat_lit 97), (nat_lit 116), (nat_lit 99), (nat_lit 104)])), .const (.str (bs [(nat_lit 105), (nat_lit 102), (nat_lit 45), (nat_lit 109), (nat_lit 111), (nat_lit 100), (nat_lit 105), (nat_lit 102), (nat_lit 105), (nat_lit 101), (nat_lit 100), (nat_lit 45), (nat_lit 115), (nat_lit 105), (nat_lit 110), (nat_lit 99), (nat_lit 101)])), .const (.str (bs [(nat_lit 105), (nat_lit 102), (nat_lit 45), (nat_lit 110), (nat_lit 111), (nat_lit 110), (nat_lit 101), (nat_lit 45), (nat_lit 109), (nat_lit 97), (nat_lit 116), (nat_lit 99), (nat_lit 104)])), .const (.str (bs [(nat_lit 105), (nat_lit 102), (nat_lit 45), (nat_lit 114), (nat_lit 97), (nat_lit 110), (nat_lit 103), (nat_lit 101)])), .const (.str (bs [(nat_lit 105), (nat_lit 102), (nat_lit 45), (nat_lit 117), (nat_lit 110), (nat_lit 109), (nat_lit 111), (nat_lit 100), (nat_lit 105), (nat_lit 102), (nat_lit 105), (nat_lit 101), (nat_lit 100), (nat_lit 45), (nat_lit 115), (nat_lit 105), (nat_lit 110), (nat_lit 99), (nat_lit 101)])), .const (.str (bs [(nat_lit 108), (nat_lit 97), (nat_lit 115), (nat_lit 116), (nat_lit 45), (nat_lit 109), (nat_lit 111), (nat_lit 100), (nat_lit 105), (nat_lit 102), (nat_lit 105), (nat_lit 101), (nat_lit 100)])), .const (.str (bs [(nat_lit 108), (nat_lit 105), (nat_lit 110), (nat_lit 107)])), .const (.str (bs [(nat_lit 108), (nat_lit 111), (nat_lit 99), (nat_lit 97), (nat_lit 116), (nat_lit 105), (nat_lit 111), (nat_lit 110)])), .const (.str (bs [(nat_lit 109), (nat_lit 97), (nat_lit 120), (nat_lit 45), (nat_lit 102), (nat_lit 111), (nat_lit 114), (nat_lit 119), (nat_lit 97), (nat_lit 114), (nat_lit 100), (nat_lit 115)])), .const (.str (bs [(nat_lit 112), (nat_lit 114), (nat_lit 111), (nat_lit 120), (nat_lit 121), (nat_lit 45), (nat_lit 97), (nat_lit 117), (nat_lit 116), (nat_lit 104), (nat_lit 101), (nat_lit 110), (nat_lit 116), (nat_lit 105), (nat_lit 99), (nat_lit 97), (nat_lit 116), (nat_lit 101)])), .const (.str (bs [(nat_lit 112), (nat_lit 114), (nat_lit 111), (nat_lit 120), (nat_lit 121), (nat_lit 45), (nat_lit 97), (nat_lit 117), (nat_lit 116), (nat_lit 104), (nat_lit 111), (nat_lit 114), (nat_lit 105), (nat_lit 122), (nat_lit 97), (nat_lit 116), (nat_lit 105), (nat_lit 111), (nat_lit 110)])), .const (.str (bs [(nat_lit 114), (nat_lit 97), (nat_lit 110), (nat_lit 103), (nat_lit 101)])), .const (.str (bs [(nat_lit 114), (nat_lit 101), (nat_lit 102), (nat_lit 101), (nat_lit 114), (nat_lit 101), (nat_lit 114)])), .const (.str (bs [(nat_lit 114), (nat_lit 101), (nat_lit 102), (nat_lit 114), (nat_lit 101), (nat_lit 115), (nat_lit 104)])), .const (.str (bs [(nat_lit 114), (nat_lit 101), (nat_lit 116), (nat_lit 114), (nat_lit 121), (nat_lit 45), (nat_lit 97), (nat_lit 102), (nat_lit 116), (nat_lit 101), (nat_lit 114)])), .const (.str (bs [(nat_lit 115), (nat_lit 101), (nat_lit 114), (nat_lit 118), (nat_lit 101), (nat_lit 114)])), .const (.str (bs [(nat_lit 115), (nat_lit 101), (nat_lit 116), (nat_lit 45), (nat_lit 99), (nat_lit 111), (nat_lit 111), (nat_lit 107), (nat_lit 105), (nat_lit 101)])), .const (.str (bs [(nat_lit 115), (nat_lit 116), (nat_lit 114), (nat_lit 105), (nat_lit 99), (nat_lit 116), (nat_lit 45), (nat_lit 116), (nat_lit 114), (nat_lit 97), (nat_lit 110), (nat_lit 115), (nat_lit 112), (nat_lit 111), (nat_lit 114), (nat_lit 116), (nat_lit 45), (nat_lit 115), (nat_lit 101), (nat_lit 99), (nat_lit 117), (nat_lit 114), (nat_lit 105), (nat_lit 116), (nat_lit 121)])), .const (.str (bs [(nat_lit 116), (nat_lit 114), (nat_lit 97), (nat_lit 110), (nat_lit 115), (nat_lit 102), (nat_lit 101), (nat_lit 114), (nat_lit 45), (nat_lit 101), (nat_lit 110), (nat_lit 99), (nat_lit 111), (nat_lit 100), (nat_lit 105), (nat_lit 110), (nat_lit 103)])), .const (.str (bs [(nat_lit 117), (nat_lit 115), (nat_lit 101), (nat_lit 114), (nat_lit 45), (nat_lit 97), (nat_lit 103), (nat_lit 101), (nat_lit 110), (nat_lit 116)])), .const (.str (bs [(nat_lit 118), (nat_lit 97), (nat_lit 114), (nat_lit 121)])), .const (.str (bs [(nat_lit 118), (nat_lit 105), (nat_lit 97)])), .const (.str (bs [(nat_lit 119), (nat_lit 119), (nat_lit 119), (nat_lit 45), (nat_lit 97), (nat_lit 117), (nat_lit 116), (nat_lit 104), (nat_lit 101), (nat_lit 110), (nat_lit 116), (nat_lit 105), (nat_lit 99), (nat_lit 97), (nat_lit 116), (nat_lit 101)]))], (some (nat_lit 1)), none⟩,
  .ins ⟨(.p .mv), [.tmp (nat_lit 1)], (some (nat_lit 0)), none⟩])
 .ret))⟩

def c328 : Code' := .fn ⟨(nat_lit 15), [.cell (nat_lit 2) true (nat_lit 3)],
 (.seq (.region [
  .ins ⟨(.a (.alloc [(.str (bs [])), (.str (bs [])), (.bool false)])), [], (some (nat_lit 2)), none⟩])
 (.seq (.region [
  .ins ⟨(.p .mv), [.tmp (nat_lit 0)], (some (nat_lit 7)), none⟩,
  .ins ⟨(.c .value), [.const (.func (.func (nat_lit 201)) [] []), .tmp (nat_lit 7), .const (.str (bs [(nat_lit 32)]))], (some (nat_lit 8)), none⟩,
  .ins ⟨(.p .mv), [.tmp (nat_lit 8)], (some (nat_lit 6)), none⟩,
  .ins ⟨(.p (.extract (nat_lit 0))), [.tmp (nat_lit 6)], (some (nat_lit 9)), none⟩,
  .ins ⟨(.p (.extract (nat_lit 1))), [.tmp (nat_lit 6)], (some (nat_lit 10)), none⟩,
  .ins ⟨(.p (.extract (nat_lit 2))), [.tmp (nat_lit 6)], (some (nat_lit 11)), none⟩,
  .ins ⟨(.p .mv), [.tmp (nat_lit 9)], (some (nat_lit 3)), none⟩,
  .ins ⟨(.p .mv), [.tmp (nat_lit 10)], (some (nat_lit 4)), none⟩,
  .ins ⟨(.p .mv), [.tmp (nat_lit 11)], (some (nat_lit 5)), none⟩])
 (.seq (.region [
  .ins ⟨(.p .mv), [.tmp (nat_lit 3)], (some (nat_lit 12)), none⟩,
  .ins ⟨(.p .mv), [.tmp (nat_lit 4)], (some (nat_lit 13)), none⟩,
  .ins ⟨(.p (.build [(.str (bs [])), (.str (bs [])), (.bool false)] [((nat_lit 0), (nat_lit 1)), ((nat_lit 1), (nat_lit 1))])), [.tmp (nat_lit 12), .tmp (nat_lit 13)], (some (nat_lit 14)), none⟩,
  .ins ⟨(.l (.store (nat_lit 3))), [.tmp (nat_lit 2), .tmp (nat_lit 14)], none, none⟩])
 .ret)))⟩

def c333 : Code' := .fn ⟨(nat_lit 70), [.tmp (nat_lit 4), .tmp (nat_lit 5), .tmp (nat_lit 6)],
 (.seq (.region [
  .ins ⟨(.p .mv), [.const (.int .i64 (.ofNat (nat_lit 0)))], (some (nat_lit 4)), none⟩,
  .ins ⟨(.p .mv), [.const (.int .i64 (.ofNat (nat_lit 0)))], (some (nat_lit 5)), none⟩,
  .ins ⟨(.p .mv), [.const (.int .i64 (.ofNat (nat_lit 0)))], (some (nat_lit 6)), none⟩])
 (.scope (.seq (.seq (.region [
  .ins ⟨(.p .mv), [.tmp (nat_lit 1)], (some (nat_lit 11)), none⟩,
  .ins ⟨(.p (.bini .lss)), [.tmp (nat_lit 11), .const (.int .i64 (.ofNat (nat_lit 1)))], (some (nat_lit 12)), none⟩,
  .ins ⟨(.p .mv), [.tmp (nat_lit 12)], (some (nat_lit 13)), none⟩,
  .ins ⟨(.p .mv), [.tmp (nat_lit 1)], (some (nat_lit 14)), (some ((nat_lit 13), false))⟩,
  .ins ⟨(.p (.bini .gtr)), [.tmp (nat_lit 14), .const (.int .i64 (.ofNat (nat_lit 8)))], (some (nat_lit 15)), (some ((nat_lit 13), false))⟩,
  .ins ⟨(.p .pick), [.tmp (nat_lit 13), .const (.bool true), .tmp (nat_lit 15)], (some (nat_lit 16)), none⟩])
 (.cond (.tmp (nat_lit 16)) (.seq (.region [
  .ins ⟨(.p .mv), [.const (.int .i64 (.ofNat (nat_lit 0)))], (some (nat_lit 4)), none⟩,
  .ins ⟨(.p .mv), [.const (.int .i64 (.ofNat (nat_lit 0)))], (some (nat_lit 5)), none⟩,
  .ins ⟨(.p .mv), [.const (.int .i64 (.ofNat (nat_lit 1)))], (some (nat_lit 6)), none⟩])
 .ret)
 .skip))
 (.seq (.seq (.region [
  .ins ⟨(.p .mv), [.tmp (nat_lit 0)], (some (nat_lit 17)), none⟩,
  .ins ⟨(.p .lenSl), [.tmp (nat_lit 17)], (some (nat_lit 18)), none⟩,
  .ins ⟨(.p (.bini .eql)), [.tmp (nat_lit 18), .const (.int .i64 (.ofNat (nat_lit 0)))], (some (nat_lit 19)), none⟩])
 (.cond (.tmp (nat_lit 19)) (.seq (.region [
  .ins ⟨(.p .mv), [.const (.int .i64 (.ofNat (nat_lit 0)))], (some (nat_lit 4)), none⟩,
  .ins ⟨(.p .mv), [.const (.int .i64 (.ofNat (nat_lit 0)))], (some (nat_lit 5)), none⟩,
  .ins ⟨(.p .mv), [.const (.int .i64 (.ofNat (nat_lit 3)))], (some (nat_lit 6)), none⟩])
 .ret)
 .skip))
 (.seq (.region [
  .ins ⟨(.p .mv), [.tmp (nat_lit 1)], (some (nat_lit 20)), none⟩,
  .ins ⟨(.p (.bini .shl)), [.const (.int .u8 (.ofNat (nat_lit 1))), .tmp (nat_lit 20)], (some (nat_lit 21)), none⟩,
  .ins ⟨(.p (.bini .sub)), [.tmp (nat_lit 21), .const (.int .u8 (.ofNat (nat_lit 1)))], (some (nat_lit 22)), none⟩,
  .ins ⟨(.p .mv), [.tmp (nat_lit 22)], (some (nat_lit 7)), none⟩])
 (.seq (.region [
  .ins ⟨(.p .mv), [.tmp (nat_lit 0)], (some (nat_lit 23)), none⟩,
  .ins ⟨(.p (.indexAddr (nat_lit 1))), [.tmp (nat_lit 23), .const (.int .i64 (.ofNat (nat_lit 0)))], (some (nat_lit 24)), none⟩,
  .ins ⟨(.r (.load false (nat_lit 1))), [.tmp (nat_lit 24)], (some (nat_lit 25)), none⟩,
  .ins ⟨(.p .mv), [.tmp (nat_lit 7)], (some (nat_lit 26)), none⟩,
  .ins ⟨(.p (.bini .and)), [.tmp (nat_lit 25), .tmp (nat_lit 26)], (some (nat_lit 27)), none⟩,
  .ins ⟨(.p (.convInt .i64)), [.tmp (nat_lit 27)], (some (nat_lit 28)), none⟩,
  .ins ⟨(.p .mv), [.tmp (nat_lit 28)], (some (nat_lit 8)), none⟩])
 (.seq (.seq (.region [
  .ins ⟨(.p .mv), [.tmp (nat_lit 0)], (some (nat_lit 29)), none⟩,
  .ins ⟨(.p (.indexAddr (nat_lit 1))), [.tmp (nat_lit 29), .const (.int .i64 (.ofNat (nat_lit 0)))], (some (nat_lit 30)), none⟩,
  .ins ⟨(.r (.load false (nat_lit 1))), [.tmp (nat_lit 30)], (some (nat_lit 31)), none⟩,
  .ins ⟨(.p .mv), [.tmp (nat_lit 7)], (some (nat_lit 32)), none⟩,
  .ins ⟨(.p (.bini .and)), [.tmp (nat_lit 31), .tmp (nat_lit 32)], (some (nat_lit 33)), none⟩,
  .ins ⟨(.p .mv), [.tmp (nat_lit 7)], (some (nat_lit 34)), none⟩,
  .ins ⟨(.p (.bini .lss)), [.tmp (nat_lit 33), .tmp (nat_lit 34)], (some (nat_lit 35)), none⟩])
 (.cond (.tmp (nat_lit 35)) (.seq (.region [
  .ins ⟨(.p .mv), [.tmp (nat_lit 8)], (some (nat_lit 36)), none⟩,
  .ins ⟨(.p .mv), [.tmp (nat_lit 36)], (some (nat_lit 4)), none⟩,
  .ins ⟨(.p .mv), [.const (.int .i64 (.ofNat (nat_lit 1)))], (some (nat_lit 5)), none⟩,
  .ins ⟨(.p .mv), [.const (.int .i64 (.ofNat (nat_lit 0)))], (some (nat_lit 6)), none⟩])
 .ret)
 .skip))
 (.seq .skip
 (.seq (.seq (.region [
  .ins ⟨(.p .mv), [.tmp (nat_lit 0)], (some (nat_lit 37)), none⟩,
  .ins ⟨(.p (.slice (nat_lit 1) true false)), [.tmp (nat_lit 37), .const (.int .i64 (.ofNat (nat_lit 1)))], (some (nat_lit 38)), none⟩,
  .ins ⟨(.p .lenSl), [.tmp (nat_lit 38)], (some (nat_lit 39)), none⟩,
  .ins ⟨(.p .mv), [.const (.int .i64 (.ofNat (nat_lit 0)))], (some (nat_lit 40)), none⟩])
 (.block (nat_lit 0) (.loop (.seq (.region [
  .ins ⟨(.p (.bini .lss)), [.tmp (nat_lit 40), .tmp (nat_lit 39)], (some (nat_lit 41)), none⟩])
 (.seq (.cond (.tmp (nat_lit 41)) .skip
 (.exit (nat_lit 0)))
 (.seq (.block (nat_lit 1) (.seq (.region [
  .ins ⟨(.p .mv), [.tmp (nat_lit 40)], (some (nat_lit 42)), none⟩,
  .ins ⟨(.p (.indexAddr (nat_lit 1))), [.tmp (nat_lit 38), .tmp (nat_lit 40)], (some (nat_lit 43)), none⟩,
  .ins ⟨(.r (.load false (nat_lit 1))), [.tmp (nat_lit 43)], (some (nat_lit 44)), none⟩,
  .ins ⟨(.p .mv), [.tmp (nat_lit 42)], (some (nat_lit 9)), none⟩,
  .ins ⟨(.p .mv), [.tmp (nat_lit 44)], (some (nat_lit 10)), none⟩])
 (.seq (.region [
  .ins ⟨(.p .mv), [.tmp (nat_lit 8)], (some (nat_lit 45)), none⟩,
  .ins ⟨(.p .mv), [.tmp (nat_lit 10)], (some (nat_lit 46)), none⟩,
  .ins ⟨(.p (.bini .and)), [.tmp (nat_lit 46), .const (.int .u8 (.ofNat (nat_lit 127)))], (some (nat_lit 47)), none⟩,
  .ins ⟨(.p (.convInt .i64)), [.tmp (nat_lit 47)], (some (nat_lit 48)), none⟩,
  .ins ⟨(.p .mv), [.tmp (nat_lit 9)], (some (nat_lit 49)), none⟩,
  .ins ⟨(.p (.bini .mul)), [.const (.int .i64 (.ofNat (nat_lit 7))), .tmp (nat_lit 49)], (some (nat_lit 50)), none⟩,
  .ins ⟨(.p (.bini .shl)), [.tmp (nat_lit 48), .tmp (nat_lit 50)], (some (nat_lit 51)), none⟩,
  .ins ⟨(.p (.bini .add)), [.tmp (nat_lit 45), .tmp (nat_lit 51)], (some (nat_lit 52)), none⟩,
  .ins ⟨(.p .mv), [.tmp (nat_lit 52)], (some (nat_lit 8)), none⟩])
 (.seq (.block (nat_lit 2) (.seq (.seq (.region [
  .ins ⟨(.p .mv), [.tmp (nat_lit 8)], (some (nat_lit 54)), none⟩,
  .ins ⟨(.p (.bini .gtr)), [.tmp (nat_lit 54), .const (.int .i64 (.ofNat (nat_lit 2147483647)))], (some (nat_lit 55)), none⟩,
  .ins ⟨(.p .mv), [.tmp (nat_lit 55)], (some (nat_lit 53)), none⟩])
 (.cond (.tmp (nat_lit 53)) .skip
 (.region [
  .ins ⟨(.p .mv), [.tmp (nat_lit 9)], (some (nat_lit 56)), none⟩,
  .ins ⟨(.p (.bini .add)), [.tmp (nat_lit 56), .const (.int .i64 (.ofNat (nat_lit 1)))], (some (nat_lit 57)), none⟩,
  .ins ⟨(.p (.bini .eql)), [.tmp (nat_lit 57), .const (.int .i64 (.ofNat (nat_lit 5)))], (some (nat_lit 58)), none⟩,
  .ins ⟨(.p .mv), [.tmp (nat_lit 58)], (some (nat_lit 59)), none⟩,
  .ins ⟨(.p .mv), [.tmp (nat_lit 10)], (some (nat_lit 60)), (some ((nat_lit 59), true))⟩,
  .ins ⟨(.p (.bini .geq)), [.tmp (nat_lit 60), .const (.int .u8 (.ofNat (nat_lit 128)))], (some (nat_lit 61)), (some ((nat_lit 59), true))⟩,
  .ins ⟨(.p .pick), [.tmp (nat_lit 59), .tmp (nat_lit 61), .const (.bool false)], (some (nat_lit 62)), none⟩,
  .ins ⟨(.p .mv), [.tmp (nat_lit 62)], (some (nat_lit 53)), none⟩])))
 (.cond (.tmp (nat_lit 53)) (.seq (.region [
  .ins ⟨(.p .mv), [.const (.int .i64 (.ofNat (nat_lit 0)))], (some (nat_lit 4)), none⟩,
  .ins ⟨(.p .mv), [.const (.int .i64 (.ofNat (nat_lit 0)))], (some (nat_lit 5)), none⟩,
  .ins ⟨(.p .mv), [.const (.int .i64 (.ofNat (nat_lit 2)))], (some (nat_lit 6)), none⟩])
 .ret)
 (.seq (.region [
  .ins ⟨(.p .mv), [.tmp (nat_lit 10)], (some (nat_lit 64)), none⟩,
  .ins ⟨(.p (.bini .geq)), [.tmp (nat_lit 64), .const (.int .u8 (.ofNat (nat_lit 128)))], (some (nat_lit 65)), none⟩,
  .ins ⟨(.p .mv), [.tmp (nat_lit 65)], (some (nat_lit 63)), none⟩])
 (.cond (.tmp (nat_lit 63)) (.exit (nat_lit 1))
 .skip)))))
 (.seq (.region [
  .ins ⟨(.p .mv), [.tmp (nat_lit 8)], (some (nat_lit 66)), none⟩,
  .ins ⟨(.p .mv), [.tmp (nat_lit 9)], (some (nat_lit 67)), none⟩,
  .ins ⟨(.p (.bini .add)), [.tmp (nat_lit 67), .const (.int .i64 (.ofNat (nat_lit 2)))], (some (nat_lit 68)), none⟩,
  .ins ⟨(.p .mv), [.tmp (nat_lit 66)], (some (nat_lit 4)), none⟩,
  .ins ⟨(.p .mv), [.tmp (nat_lit 68)], (some (nat_lit 5)), none⟩,
  .ins ⟨(.p .mv), [.const (.int .i64 (.ofNat (nat_lit 0)))], (some (nat_lit 6)), none⟩])
 .ret)))))
 (.region [
  .ins ⟨(.p (.bini .add)), [.tmp (nat_lit 40), .const (.int .i64 (.ofNat (nat_lit 1)))], (some (nat_lit 69)), none⟩,
  .ins ⟨(.p .mv), [.tmp (nat_lit 69)], (some (nat_lit 40)), none⟩])))))))
 (.seq (.region [
  .ins ⟨(.p .mv), [.const (.int .i64 (.ofNat (nat_lit 0)))], (some (nat_lit 4)), none⟩,
  .ins ⟨(.p .mv), [.const (.int .i64 (.ofNat (nat_lit 0)))], (some (nat_lit 5)), none⟩,
  .ins ⟨(.p .mv), [.const (.int .i64 (.ofNat (nat_lit 3)))], (some (nat_lit 6)), none⟩])
 .ret))))))))))⟩

def c334 : Code' := .fn ⟨(nat_lit 21), [.cell (nat_lit 2) true (nat_lit 3), .tmp (nat_lit 3)],
 (.seq (.region [
  .ins ⟨(.a (.alloc [(.str (bs [])), (.str (bs [])), (.bool false)])), [], (some (nat_lit 2)), none⟩,
  .ins ⟨(.p .mv), [.const (.int .i64 (.ofNat (nat_lit 0)))], (some (nat_lit 3)), none⟩])
 (.seq (.region [
  .ins ⟨(.c .value), [.const (.func (.func (nat_lit 327)) [] [])], (some (nat_lit 5)), none⟩,
  .ins ⟨(.p .mv), [.tmp (nat_lit 5)], (some (nat_lit 4)), none⟩])
 (.seq (.seq (.region [
  .ins ⟨(.p .mv), [.tmp (nat_lit 0)], (some (nat_lit 6)), none⟩,
  .ins ⟨(.p (.bini .lss)), [.tmp (nat_lit 6), .const (.int .i64 (.ofNat (nat_lit 1)))], (some (nat_lit 7)), none⟩,
  .ins ⟨(.p .mv), [.tmp (nat_lit 7)], (some (nat_lit 8)), none⟩,
  .ins ⟨(.p .mv), [.tmp (nat_lit 0)], (some (nat_lit 9)), (some ((nat_lit 8), false))⟩,
  .ins ⟨(.p .mv), [.tmp (nat_lit 4)], (some (nat_lit 10)), (some ((nat_lit 8), false))⟩,
  .ins ⟨(.p .lenSl), [.tmp (nat_lit 10)], (some (nat_lit 11)), (some ((nat_lit 8), false))⟩,
  .ins ⟨(.p (.bini .gtr)), [.tmp (nat_lit 9), .tmp (nat_lit 11)], (some (nat_lit 12)), (some ((nat_lit 8), false))⟩,
  .ins ⟨(.p .pick), [.tmp (nat_lit 8), .const (.bool true), .tmp (nat_lit 12)], (some (nat_lit 13)), none⟩])
 (.cond (.tmp (nat_lit 13)) (.seq (.region [
  .ins ⟨(.p (.build [(.str (bs [])), (.str (bs [])), (.bool false)] [])), [], (some (nat_lit 14)), none⟩,
  .ins ⟨(.l (.store (nat_lit 3))), [.tmp (nat_lit 2), .tmp (nat_lit 14)], none, none⟩,
  .ins ⟨(.p .mv), [.const (.int .i64 (.ofNat (nat_lit 6)))], (some (nat_lit 3)), none⟩])
 .ret)
 .skip))
 (.seq (.region [
  .ins ⟨(.p .mv), [.tmp (nat_lit 4)], (some (nat_lit 15)), none⟩,
  .ins ⟨(.p .mv), [.tmp (nat_lit 0)], (some (nat_lit 16)), none⟩,
  .ins ⟨(.p (.bini .sub)), [.tmp (nat_lit 16), .const (.int .i64 (.ofNat (nat_lit 1)))], (some (nat_lit 17)), none⟩,
  .ins ⟨(.p (.indexAddr (nat_lit 1))), [.tmp (nat_lit 15), .tmp (nat_lit 17)], (some (nat_lit 18)), none⟩,
  .ins ⟨(.r (.load false (nat_lit 1))), [.tmp (nat_lit 18)], (some (nat_lit 19)), none⟩,
  .ins ⟨(.c .value), [.const (.func (.func (nat_lit 328)) [] []), .tmp (nat_lit 19)], (some (nat_lit 20)), none⟩,
  .ins ⟨(.l (.store (nat_lit 3))), [.tmp (nat_lit 2), .tmp (nat_lit 20)], none, none⟩,
  .ins ⟨(.p .mv), [.const (.int .i64 (.ofNat (nat_lit 0)))], (some (nat_lit 3)), none⟩])
 .ret))))⟩

end Go.Proofs.YtjjdminaacibeaaGreatDoor.Ev.PairLong
