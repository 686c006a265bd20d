/- The code of the functions that the run calls, part 2. -/
import Derived.Test.YtjjdminaacibeaaGreatDoorPairLongC1
namespace Go.Proofs.YtjjdminaacibeaaGreatDoor.Ev.PairLong
set_option maxRecDepth 100000
def c100 : Code' := .fn ⟨(nat_lit 58), [.tmp (nat_lit 4), .tmp (nat_lit 5), .tmp (nat_lit 6)],
 (.seq (.region [
  .ins ⟨(.a .box), [.tmp (nat_lit 1)], (some (nat_lit 3)), none⟩,
  .ins ⟨(.p .mv), [.const (.int .i64 (.ofNat (nat_lit 0)))], (some (nat_lit 4)), none⟩,
  .ins ⟨(.p .mv), [.const (.int .i64 (.ofNat (nat_lit 0)))], (some (nat_lit 5)), none⟩,
  .ins ⟨(.p .mv), [.const (.bool false)], (some (nat_lit 6)), none⟩])
 (.seq (.region [
  .ins ⟨(.p .mv), [.const (.int .i64 (.ofNat (nat_lit 0)))], (some (nat_lit 7)), none⟩])
 (.seq (.seq (.region [
  .ins ⟨(.p .mv), [.const (.int .i64 (.ofNat (nat_lit 1)))], (some (nat_lit 8)), none⟩])
 (.block (nat_lit 0) (.loop (.seq (.seq (.region [
  .ins ⟨(.p .mv), [.tmp (nat_lit 8)], (some (nat_lit 9)), none⟩,
  .ins ⟨(.p (.bini .leq)), [.tmp (nat_lit 9), .const (.int .i64 (.ofNat (nat_lit 5)))], (some (nat_lit 10)), none⟩])
 (.cond (.tmp (nat_lit 10)) .skip
 (.exit (nat_lit 0))))
 (.seq (.block (nat_lit 1) (.seq (.region [
  .ins ⟨(.p .mv), [.tmp (nat_lit 0)], (some (nat_lit 13)), none⟩,
  .ins ⟨(.p .mv), [.tmp (nat_lit 8)], (some (nat_lit 14)), none⟩,
  .ins ⟨(.p .nilck), [.tmp (nat_lit 13)], (some (nat_lit 15)), none⟩,
  .ins ⟨(.p (.fieldAddr (nat_lit 0))), [.tmp (nat_lit 15)], (some (nat_lit 16)), none⟩,
  .ins ⟨(.p (.indexAddrArr (nat_lit 6) (nat_lit 2))), [.tmp (nat_lit 16), .tmp (nat_lit 14)], (some (nat_lit 17)), none⟩,
  .ins ⟨(.p (.fieldAddr (nat_lit 1))), [.tmp (nat_lit 17)], (some (nat_lit 18)), none⟩,
  .ins ⟨(.r (.load false (nat_lit 1))), [.tmp (nat_lit 18)], (some (nat_lit 19)), none⟩,
  .ins ⟨(.p .mv), [.tmp (nat_lit 19)], (some (nat_lit 20)), none⟩,
  .ins ⟨(.p .mv), [.tmp (nat_lit 8)], (some (nat_lit 21)), (some ((nat_lit 20), true))⟩,
  .ins ⟨(.p (.indexAddrArr (nat_lit 6) (nat_lit 1))), [.tmp (nat_lit 3), .tmp (nat_lit 21)], (some (nat_lit 22)), (some ((nat_lit 20), true))⟩,
  .ins ⟨(.r (.load false (nat_lit 1))), [.tmp (nat_lit 22)], (some (nat_lit 23)), (some ((nat_lit 20), true))⟩,
  .ins ⟨(.p (.un .not)), [.tmp (nat_lit 23)], (some (nat_lit 24)), (some ((nat_lit 20), true))⟩,
  .ins ⟨(.p .pick), [.tmp (nat_lit 20), .tmp (nat_lit 24), .const (.bool false)], (some (nat_lit 25)), none⟩,
  .ins ⟨(.p .mv), [.tmp (nat_lit 25)], (some (nat_lit 26)), none⟩,
  .ins ⟨(.p .mv), [.tmp (nat_lit 7)], (some (nat_lit 27)), (some ((nat_lit 26), true))⟩,
  .ins ⟨(.p (.bini .eql)), [.tmp (nat_lit 27), .const (.int .i64 (.ofNat (nat_lit 0)))], (some (nat_lit 28)), (some ((nat_lit 26), true))⟩,
  .ins ⟨(.p .mv), [.tmp (nat_lit 28)], (some (nat_lit 29)), (some ((nat_lit 26), true))⟩,
  .ins ⟨(.p .mv), [.tmp (nat_lit 0)], (some (nat_lit 30)), (some ((nat_lit 29), false))⟩,
  .ins ⟨(.p .mv), [.tmp (nat_lit 8)], (some (nat_lit 31)), (some ((nat_lit 29), false))⟩,
  .ins ⟨(.p .nilck), [.tmp (nat_lit 30)], (some (nat_lit 32)), (some ((nat_lit 29), false))⟩,
  .ins ⟨(.p (.fieldAddr (nat_lit 0))), [.tmp (nat_lit 32)], (some (nat_lit 33)), (some ((nat_lit 29), false))⟩,
  .ins ⟨(.p (.indexAddrArr (nat_lit 6) (nat_lit 2))), [.tmp (nat_lit 33), .tmp (nat_lit 31)], (some (nat_lit 34)), (some ((nat_lit 29), false))⟩,
  .ins ⟨(.p (.fieldAddr (nat_lit 0))), [.tmp (nat_lit 34)], (some (nat_lit 35)), (some ((nat_lit 29), false))⟩,
  .ins ⟨(.r (.load false (nat_lit 1))), [.tmp (nat_lit 35)], (some (nat_lit 36)), (some ((nat_lit 29), false))⟩,
  .ins ⟨(.p .mv), [.tmp (nat_lit 0)], (some (nat_lit 37)), (some ((nat_lit 29), false))⟩,
  .ins ⟨(.p .mv), [.tmp (nat_lit 7)], (some (nat_lit 38)), (some ((nat_lit 29), false))⟩,
  .ins ⟨(.p .nilck), [.tmp (nat_lit 37)], (some (nat_lit 39)), (some ((nat_lit 29), false))⟩,
  .ins ⟨(.p (.fieldAddr (nat_lit 0))), [.tmp (nat_lit 39)], (some (nat_lit 40)), (some ((nat_lit 29), false))⟩,
  .ins ⟨(.p (.indexAddrArr (nat_lit 6) (nat_lit 2))), [.tmp (nat_lit 40), .tmp (nat_lit 38)], (some (nat_lit 41)), (some ((nat_lit 29), false))⟩,
  .ins ⟨(.p (.fieldAddr (nat_lit 0))), [.tmp (nat_lit 41)], (some (nat_lit 42)), (some ((nat_lit 29), false))⟩,
  .ins ⟨(.r (.load false (nat_lit 1))), [.tmp (nat_lit 42)], (some (nat_lit 43)), (some ((nat_lit 29), false))⟩,
  .ins ⟨(.p (.bini .lss)), [.tmp (nat_lit 36), .tmp (nat_lit 43)], (some (nat_lit 44)), (some ((nat_lit 29), false))⟩,
  .ins ⟨(.p .pick), [.tmp (nat_lit 29), .const (.bool true), .tmp (nat_lit 44)], (some (nat_lit 45)), (some ((nat_lit 26), true))⟩,
  .ins ⟨(.p .pick), [.tmp (nat_lit 26), .tmp (nat_lit 45), .const (.bool false)], (some (nat_lit 46)), none⟩])
 (.cond (.tmp (nat_lit 46)) (.region [
  .ins ⟨(.p .mv), [.tmp (nat_lit 8)], (some (nat_lit 47)), none⟩,
  .ins ⟨(.p .mv), [.tmp (nat_lit 47)], (some (nat_lit 7)), none⟩])
 .skip)))
 (.region [
  .ins ⟨(.p .mv), [.tmp (nat_lit 8)], (some (nat_lit 11)), none⟩,
  .ins ⟨(.p (.bini .add)), [.tmp (nat_lit 11), .const (.int .i64 (.ofNat (nat_lit 1)))], (some (nat_lit 12)), none⟩,
  .ins ⟨(.p .mv), [.tmp (nat_lit 12)], (some (nat_lit 8)), none⟩]))))))
 (.seq (.region [
  .ins ⟨(.p .mv), [.tmp (nat_lit 7)], (some (nat_lit 48)), none⟩,
  .ins ⟨(.p .mv), [.tmp (nat_lit 0)], (some (nat_lit 49)), none⟩,
  .ins ⟨(.p .mv), [.tmp (nat_lit 7)], (some (nat_lit 50)), none⟩,
  .ins ⟨(.p .nilck), [.tmp (nat_lit 49)], (some (nat_lit 51)), none⟩,
  .ins ⟨(.p (.fieldAddr (nat_lit 0))), [.tmp (nat_lit 51)], (some (nat_lit 52)), none⟩,
  .ins ⟨(.p (.indexAddrArr (nat_lit 6) (nat_lit 2))), [.tmp (nat_lit 52), .tmp (nat_lit 50)], (some (nat_lit 53)), none⟩,
  .ins ⟨(.p (.fieldAddr (nat_lit 0))), [.tmp (nat_lit 53)], (some (nat_lit 54)), none⟩,
  .ins ⟨(.r (.load false (nat_lit 1))), [.tmp (nat_lit 54)], (some (nat_lit 55)), none⟩,
  .ins ⟨(.p .mv), [.tmp (nat_lit 7)], (some (nat_lit 56)), none⟩,
  .ins ⟨(.p (.bini .gtr)), [.tmp (nat_lit 56), .const (.int .i64 (.ofNat (nat_lit 0)))], (some (nat_lit 57)), none⟩,
  .ins ⟨(.p .mv), [.tmp (nat_lit 48)], (some (nat_lit 4)), none⟩,
  .ins ⟨(.p .mv), [.tmp (nat_lit 55)], (some (nat_lit 5)), none⟩,
  .ins ⟨(.p .mv), [.tmp (nat_lit 57)], (some (nat_lit 6)), none⟩])
 .ret))))⟩

def c105 : Code' := .fn ⟨(nat_lit 33), [.tmp (nat_lit 6)],
 (.seq (.region [
  .ins ⟨(.p .mv), [.const (.slice none (nat_lit 0) (nat_lit 0) (nat_lit 0))], (some (nat_lit 6)), none⟩])
 (.seq (.region [
  .ins ⟨(.p .mv), [.tmp (nat_lit 0)], (some (nat_lit 8)), none⟩,
  .ins ⟨(.p .mv), [.tmp (nat_lit 1)], (some (nat_lit 9)), none⟩,
  .ins ⟨(.p .mv), [.tmp (nat_lit 2)], (some (nat_lit 10)), none⟩,
  .ins ⟨(.p .mv), [.tmp (nat_lit 0)], (some (nat_lit 11)), none⟩,
  .ins ⟨(.p .lenSl), [.tmp (nat_lit 11)], (some (nat_lit 12)), none⟩,
  .ins ⟨(.p (.slice3 (nat_lit 1) true)), [.tmp (nat_lit 8), .tmp (nat_lit 9), .tmp (nat_lit 10), .tmp (nat_lit 12)], (some (nat_lit 13)), none⟩])
 (.seq (.seq (.region [
  .ins ⟨(.p .mv), [.tmp (nat_lit 1)], (some (nat_lit 14)), none⟩,
  .ins ⟨(.p .mv), [.tmp (nat_lit 2)], (some (nat_lit 15)), none⟩,
  .ins ⟨(.p (.bini .eql)), [.tmp (nat_lit 14), .tmp (nat_lit 15)], (some (nat_lit 16)), none⟩])
 (.cond (.tmp (nat_lit 16)) (.seq (.region [
  .ins ⟨(.p .mv), [.tmp (nat_lit 0)], (some (nat_lit 17)), none⟩,
  .ins ⟨(.p .mv), [.tmp (nat_lit 17)], (some (nat_lit 6)), none⟩])
 .ret)
 .skip))
 (.seq (.region [
  .ins ⟨(.p .mv), [.tmp (nat_lit 0)], (some (nat_lit 18)), none⟩,
  .ins ⟨(.p .lenSl), [.tmp (nat_lit 18)], (some (nat_lit 19)), none⟩,
  .ins ⟨(.p .mv), [.tmp (nat_lit 19)], (some (nat_lit 7)), none⟩])
 (.seq (.region [
  .ins ⟨(.p .mv), [.tmp (nat_lit 0)], (some (nat_lit 20)), none⟩,
  .ins ⟨(.p .mv), [.tmp (nat_lit 1)], (some (nat_lit 21)), none⟩,
  .ins ⟨(.p (.slice (nat_lit 1) false true)), [.tmp (nat_lit 20), .tmp (nat_lit 21)], (some (nat_lit 22)), none⟩,
  .ins ⟨(.p .mv), [.tmp (nat_lit 0)], (some (nat_lit 23)), none⟩,
  .ins ⟨(.p .mv), [.tmp (nat_lit 2)], (some (nat_lit 24)), none⟩,
  .ins ⟨(.p (.slice (nat_lit 1) true false)), [.tmp (nat_lit 23), .tmp (nat_lit 24)], (some (nat_lit 25)), none⟩,
  .ins ⟨(.l (.append [(.int .u8 (.ofNat (nat_lit 0)))] (nat_lit 1) (nat_lit 1))), [.tmp (nat_lit 22), .tmp (nat_lit 25)], (some (nat_lit 26)), none⟩,
  .ins ⟨(.p .mv), [.tmp (nat_lit 26)], (some (nat_lit 0)), none⟩])
 (.seq (.region [
  .ins ⟨(.p .mv), [.tmp (nat_lit 0)], (some (nat_lit 27)), none⟩,
  .ins ⟨(.p .mv), [.tmp (nat_lit 0)], (some (nat_lit 28)), none⟩,
  .ins ⟨(.p .lenSl), [.tmp (nat_lit 28)], (some (nat_lit 29)), none⟩,
  .ins ⟨(.p .mv), [.tmp (nat_lit 7)], (some (nat_lit 30)), none⟩,
  .ins ⟨(.p (.slice (nat_lit 1) true true)), [.tmp (nat_lit 27), .tmp (nat_lit 29), .tmp (nat_lit 30)], (some (nat_lit 31)), none⟩,
  .ins ⟨(.l (.clear [(.int .u8 (.ofNat (nat_lit 0)))])), [.tmp (nat_lit 31)], none, none⟩])
 (.seq (.region [
  .ins ⟨(.p .mv), [.tmp (nat_lit 0)], (some (nat_lit 32)), none⟩,
  .ins ⟨(.p .mv), [.tmp (nat_lit 32)], (some (nat_lit 6)), none⟩])
 .ret)))))))⟩

def c106 : Code' := .fn ⟨(nat_lit 11), [.tmp (nat_lit 2)],
 (.seq (.region [
  .ins ⟨(.p .mv), [.const (.int .i64 (.ofNat (nat_lit 0)))], (some (nat_lit 2)), none⟩])
 (.seq (.block (nat_lit 0) (.seq (.region [
  .ins ⟨(.p .mv), [.tmp (nat_lit 0)], (some (nat_lit 4)), none⟩,
  .ins ⟨(.p (.eqnil .ptr false)), [.tmp (nat_lit 4), .const (.ptr none)], (some (nat_lit 5)), none⟩,
  .ins ⟨(.p .mv), [.tmp (nat_lit 5)], (some (nat_lit 3)), none⟩])
 (.cond (.tmp (nat_lit 3)) (.seq (.region [
  .ins ⟨(.p .mv), [.const (.int .i64 (.ofNat (nat_lit 1)))], (some (nat_lit 2)), none⟩])
 .ret)
 (.seq (.region [
  .ins ⟨(.p .mv), [.tmp (nat_lit 0)], (some (nat_lit 7)), none⟩,
  .ins ⟨(.p .nilck), [.tmp (nat_lit 7)], (some (nat_lit 8)), none⟩,
  .ins ⟨(.p (.fieldAddr (nat_lit 15))), [.tmp (nat_lit 8)], (some (nat_lit 9)), none⟩,
  .ins ⟨(.r (.load false (nat_lit 1))), [.tmp (nat_lit 9)], (some (nat_lit 10)), none⟩,
  .ins ⟨(.p .mv), [.tmp (nat_lit 10)], (some (nat_lit 6)), none⟩])
 (.cond (.tmp (nat_lit 6)) (.seq (.region [
  .ins ⟨(.p .mv), [.const (.int .i64 (.ofNat (nat_lit 11)))], (some (nat_lit 2)), none⟩])
 .ret)
 .skip)))))
 (.seq (.region [
  .ins ⟨(.p .mv), [.const (.int .i64 (.ofNat (nat_lit 0)))], (some (nat_lit 2)), none⟩])
 .ret)))⟩

def c107 : Code' := .fn ⟨(nat_lit 47), [.tmp (nat_lit 2)],
 (.seq (.region [
  .ins ⟨(.p .mv), [.const (.int .i64 (.ofNat (nat_lit 0)))], (some (nat_lit 2)), none⟩])
 (.seq (.region [
  .ins ⟨(.p .mv), [.tmp (nat_lit 0)], (some (nat_lit 10)), none⟩,
  .ins ⟨(.c .value), [.const (.func (.func (nat_lit 166)) [] []), .tmp (nat_lit 10)], (some (nat_lit 11)), none⟩,
  .ins ⟨(.p .mv), [.tmp (nat_lit 11)], (some (nat_lit 9)), none⟩,
  .ins ⟨(.p (.extract (nat_lit 0))), [.tmp (nat_lit 9)], (some (nat_lit 12)), none⟩,
  .ins ⟨(.p (.extract (nat_lit 1))), [.tmp (nat_lit 9)], (some (nat_lit 13)), none⟩,
  .ins ⟨(.p .mv), [.tmp (nat_lit 12)], (some (nat_lit 3)), none⟩,
  .ins ⟨(.p .mv), [.tmp (nat_lit 13)], (some (nat_lit 4)), none⟩])
 (.seq (.seq (.region [
  .ins ⟨(.p .mv), [.tmp (nat_lit 4)], (some (nat_lit 14)), none⟩,
  .ins ⟨(.p (.un .not)), [.tmp (nat_lit 14)], (some (nat_lit 15)), none⟩,
  .ins ⟨(.p .mv), [.tmp (nat_lit 15)], (some (nat_lit 16)), none⟩,
  .ins ⟨(.p .mv), [.tmp (nat_lit 3)], (some (nat_lit 17)), (some ((nat_lit 16), false))⟩,
  .ins ⟨(.r (.lookup (.str (bs [])) false)), [.tmp (nat_lit 17), .const (.str (bs [(nat_lit 58), (nat_lit 109), (nat_lit 101), (nat_lit 116), (nat_lit 104), (nat_lit 111), (nat_lit 100)]))], (some (nat_lit 18)), (some ((nat_lit 16), false))⟩,
  .ins ⟨(.p (.bins .eql)), [.tmp (nat_lit 18), .const (.str (bs []))], (some (nat_lit 19)), (some ((nat_lit 16), false))⟩,
  .ins ⟨(.p .pick), [.tmp (nat_lit 16), .const (.bool true), .tmp (nat_lit 19)], (some (nat_lit 20)), none⟩,
  .ins ⟨(.p .mv), [.tmp (nat_lit 20)], (some (nat_lit 21)), none⟩,
  .ins ⟨(.p .mv), [.tmp (nat_lit 3)], (some (nat_lit 22)), (some ((nat_lit 21), false))⟩,
  .ins ⟨(.r (.lookup (.str (bs [])) false)), [.tmp (nat_lit 22), .const (.str (bs [(nat_lit 58), (nat_lit 115), (nat_lit 99), (nat_lit 104), (nat_lit 101), (nat_lit 109), (nat_lit 101)]))], (some (nat_lit 23)), (some ((nat_lit 21), false))⟩,
  .ins ⟨(.p (.bins .eql)), [.tmp (nat_lit 23), .const (.str (bs []))], (some (nat_lit 24)), (some ((nat_lit 21), false))⟩,
  .ins ⟨(.p .pick), [.tmp (nat_lit 21), .const (.bool true), .tmp (nat_lit 24)], (some (nat_lit 25)), none⟩])
 (.cond (.tmp (nat_lit 25)) (.seq (.region [
  .ins ⟨(.p .mv), [.const (.int .i64 (.ofNat (nat_lit 5)))], (some (nat_lit 2)), none⟩])
 .ret)
 .skip))
 (.seq (.region [
  .ins ⟨(.p .mv), [.const (.int .i64 (.ofNat (nat_lit 3)))], (some (nat_lit 5)), none⟩])
 (.seq (.seq (.region [
  .ins ⟨(.p .mv), [.tmp (nat_lit 3)], (some (nat_lit 27)), none⟩,
  .ins ⟨(.r (.lookup (.str (bs [])) true)), [.tmp (nat_lit 27), .const (.str (bs [(nat_lit 58), (nat_lit 97), (nat_lit 117), (nat_lit 116), (nat_lit 104), (nat_lit 111), (nat_lit 114), (nat_lit 105), (nat_lit 116), (nat_lit 121)]))], (some (nat_lit 28)), none⟩,
  .ins ⟨(.p .mv), [.tmp (nat_lit 28)], (some (nat_lit 26)), none⟩,
  .ins ⟨(.p (.extract (nat_lit 0))), [.tmp (nat_lit 26)], (some (nat_lit 29)), none⟩,
  .ins ⟨(.p (.extract (nat_lit 1))), [.tmp (nat_lit 26)], (some (nat_lit 30)), none⟩,
  .ins ⟨(.p .mv), [.tmp (nat_lit 29)], (some (nat_lit 6)), none⟩,
  .ins ⟨(.p .mv), [.tmp (nat_lit 30)], (some (nat_lit 7)), none⟩])
 (.seq (.region [
  .ins ⟨(.p .mv), [.tmp (nat_lit 7)], (some (nat_lit 31)), none⟩])
 (.cond (.tmp (nat_lit 31)) (.region [
  .ins ⟨(.p .mv), [.const (.int .i64 (.ofNat (nat_lit 4)))], (some (nat_lit 5)), none⟩])
 .skip)))
 (.seq (.seq (.region [
  .ins ⟨(.p .mv), [.tmp (nat_lit 3)], (some (nat_lit 32)), none⟩,
  .ins ⟨(.r (.lookup (.str (bs [])) false)), [.tmp (nat_lit 32), .const (.str (bs [(nat_lit 58), (nat_lit 112), (nat_lit 97), (nat_lit 116), (nat_lit 104)]))], (some (nat_lit 33)), none⟩,
  .ins ⟨(.p .mv), [.tmp (nat_lit 33)], (some (nat_lit 8)), none⟩])
 (.seq (.region [
  .ins ⟨(.p .mv), [.tmp (nat_lit 3)], (some (nat_lit 34)), none⟩,
  .ins ⟨(.r .lenMap), [.tmp (nat_lit 34)], (some (nat_lit 35)), none⟩,
  .ins ⟨(.p .mv), [.tmp (nat_lit 5)], (some (nat_lit 36)), none⟩,
  .ins ⟨(.p (.bini .neq)), [.tmp (nat_lit 35), .tmp (nat_lit 36)], (some (nat_lit 37)), none⟩,
  .ins ⟨(.p .mv), [.tmp (nat_lit 37)], (some (nat_lit 38)), none⟩,
  .ins ⟨(.p .mv), [.tmp (nat_lit 8)], (some (nat_lit 39)), (some ((nat_lit 38), false))⟩,
  .ins ⟨(.c .value), [.const (.func (.func (nat_lit 167)) [] []), .tmp (nat_lit 39), .const (.str (bs [(nat_lit 47)]))], (some (nat_lit 40)), (some ((nat_lit 38), false))⟩,
  .ins ⟨(.p (.un .not)), [.tmp (nat_lit 40)], (some (nat_lit 41)), (some ((nat_lit 38), false))⟩,
  .ins ⟨(.p .mv), [.tmp (nat_lit 41)], (some (nat_lit 42)), (some ((nat_lit 38), false))⟩,
  .ins ⟨(.p .mv), [.tmp (nat_lit 8)], (some (nat_lit 43)), (some ((nat_lit 42), true))⟩,
  .ins ⟨(.p (.bins .neq)), [.tmp (nat_lit 43), .const (.str (bs [(nat_lit 42)]))], (some (nat_lit 44)), (some ((nat_lit 42), true))⟩,
  .ins ⟨(.p .pick), [.tmp (nat_lit 42), .tmp (nat_lit 44), .const (.bool false)], (some (nat_lit 45)), (some ((nat_lit 38), false))⟩,
  .ins ⟨(.p .pick), [.tmp (nat_lit 38), .const (.bool true), .tmp (nat_lit 45)], (some (nat_lit 46)), none⟩])
 (.cond (.tmp (nat_lit 46)) (.seq (.region [
  .ins ⟨(.p .mv), [.const (.int .i64 (.ofNat (nat_lit 5)))], (some (nat_lit 2)), none⟩])
 .ret)
 .skip)))
 (.seq (.region [
  .ins ⟨(.p .mv), [.const (.int .i64 (.ofNat (nat_lit 0)))], (some (nat_lit 2)), none⟩])
 .ret)))))))⟩

def c108 : Code' := .fn ⟨(nat_lit 38), [.tmp (nat_lit 4)],
 (.seq (.region [
  .ins ⟨(.p .mv), [.const (.int .i64 (.ofNat (nat_lit 0)))], (some (nat_lit 4)), none⟩])
 (.seq (.region [
  .ins ⟨(.p .mv), [.tmp (nat_lit 1)], (some (nat_lit 8)), none⟩,
  .ins ⟨(.c .value), [.const (.func (.func (nat_lit 168)) [] []), .tmp (nat_lit 8)], (some (nat_lit 9)), none⟩,
  .ins ⟨(.p .mv), [.tmp (nat_lit 9)], (some (nat_lit 5)), none⟩])
 (.seq (.seq (.region [
  .ins ⟨(.p .mv), [.tmp (nat_lit 1)], (some (nat_lit 10)), none⟩,
  .ins ⟨(.p .lenSl), [.tmp (nat_lit 10)], (some (nat_lit 11)), none⟩,
  .ins ⟨(.p .mv), [.const (.int .i64 (.ofNat (nat_lit 0)))], (some (nat_lit 12)), none⟩])
 (.block (nat_lit 0) (.loop (.seq (.region [
  .ins ⟨(.p (.bini .lss)), [.tmp (nat_lit 12), .tmp (nat_lit 11)], (some (nat_lit 13)), none⟩])
 (.seq (.cond (.tmp (nat_lit 13)) .skip
 (.exit (nat_lit 0)))
 (.seq (.block (nat_lit 1) (.seq (.region [
  .ins ⟨(.p (.indexAddr (nat_lit 3))), [.tmp (nat_lit 10), .tmp (nat_lit 12)], (some (nat_lit 14)), none⟩,
  .ins ⟨(.r (.load true (nat_lit 3))), [.tmp (nat_lit 14)], (some (nat_lit 15)), none⟩,
  .ins ⟨(.a (.alloc [(.str (bs [])), (.str (bs [])), (.bool false)])), [], (some (nat_lit 7)), none⟩,
  .ins ⟨(.l (.store (nat_lit 3))), [.tmp (nat_lit 7), .tmp (nat_lit 15)], none, none⟩])
 (.seq (.region [
  .ins ⟨(.p (.fieldAddr (nat_lit 0))), [.tmp (nat_lit 7)], (some (nat_lit 16)), none⟩,
  .ins ⟨(.r (.load false (nat_lit 1))), [.tmp (nat_lit 16)], (some (nat_lit 17)), none⟩,
  .ins ⟨(.p .lenStr), [.tmp (nat_lit 17)], (some (nat_lit 18)), none⟩,
  .ins ⟨(.p (.bini .gtr)), [.tmp (nat_lit 18), .const (.int .i64 (.ofNat (nat_lit 65536)))], (some (nat_lit 19)), none⟩,
  .ins ⟨(.p .mv), [.tmp (nat_lit 19)], (some (nat_lit 20)), none⟩,
  .ins ⟨(.p (.fieldAddr (nat_lit 1))), [.tmp (nat_lit 7)], (some (nat_lit 21)), (some ((nat_lit 20), false))⟩,
  .ins ⟨(.r (.load false (nat_lit 1))), [.tmp (nat_lit 21)], (some (nat_lit 22)), (some ((nat_lit 20), false))⟩,
  .ins ⟨(.p .lenStr), [.tmp (nat_lit 22)], (some (nat_lit 23)), (some ((nat_lit 20), false))⟩,
  .ins ⟨(.p (.bini .gtr)), [.tmp (nat_lit 23), .const (.int .i64 (.ofNat (nat_lit 65536)))], (some (nat_lit 24)), (some ((nat_lit 20), false))⟩,
  .ins ⟨(.p .pick), [.tmp (nat_lit 20), .const (.bool true), .tmp (nat_lit 24)], (some (nat_lit 25)), none⟩])
 (.cond (.tmp (nat_lit 25)) (.seq (.region [
  .ins ⟨(.p .mv), [.const (.int .i64 (.ofNat (nat_lit 2)))], (some (nat_lit 4)), none⟩])
 .ret)
 .skip))))
 (.region [
  .ins ⟨(.p (.bini .add)), [.tmp (nat_lit 12), .const (.int .i64 (.ofNat (nat_lit 1)))], (some (nat_lit 26)), none⟩,
  .ins ⟨(.p .mv), [.tmp (nat_lit 26)], (some (nat_lit 12)), none⟩])))))))
 (.seq (.block (nat_lit 2) (.seq (.region [
  .ins ⟨(.p .mv), [.tmp (nat_lit 5)], (some (nat_lit 28)), none⟩,
  .ins ⟨(.p (.bini .gtr)), [.tmp (nat_lit 28), .const (.int .i64 (.ofNat (nat_lit 32768)))], (some (nat_lit 29)), none⟩,
  .ins ⟨(.p .mv), [.tmp (nat_lit 29)], (some (nat_lit 27)), none⟩])
 (.cond (.tmp (nat_lit 27)) (.seq (.region [
  .ins ⟨(.p .mv), [.const (.int .i64 (.ofNat (nat_lit 2)))], (some (nat_lit 4)), none⟩])
 .ret)
 (.seq (.region [
  .ins ⟨(.p .mv), [.tmp (nat_lit 5)], (some (nat_lit 31)), none⟩,
  .ins ⟨(.p .mv), [.tmp (nat_lit 0)], (some (nat_lit 32)), none⟩,
  .ins ⟨(.p .nilck), [.tmp (nat_lit 32)], (some (nat_lit 33)), none⟩,
  .ins ⟨(.p (.fieldAddr (nat_lit 2))), [.tmp (nat_lit 33)], (some (nat_lit 34)), none⟩,
  .ins ⟨(.p (.fieldAddr (nat_lit 4))), [.tmp (nat_lit 34)], (some (nat_lit 35)), none⟩,
  .ins ⟨(.r (.load false (nat_lit 1))), [.tmp (nat_lit 35)], (some (nat_lit 36)), none⟩,
  .ins ⟨(.p (.bini .gtr)), [.tmp (nat_lit 31), .tmp (nat_lit 36)], (some (nat_lit 37)), none⟩,
  .ins ⟨(.p .mv), [.tmp (nat_lit 37)], (some (nat_lit 30)), none⟩])
 (.cond (.tmp (nat_lit 30)) (.seq (.region [
  .ins ⟨(.p .mv), [.const (.int .i64 (.ofNat (nat_lit 9)))], (some (nat_lit 4)), none⟩])
 .ret)
 .skip)))))
 (.seq (.region [
  .ins ⟨(.p .mv), [.const (.int .i64 (.ofNat (nat_lit 0)))], (some (nat_lit 4)), none⟩])
 .ret)))))⟩

def c109 : Code' := .fn ⟨(nat_lit 30), [.tmp (nat_lit 2)],
 (.seq (.region [
  .ins ⟨(.p .mv), [.const (.bool false)], (some (nat_lit 2)), none⟩])
 (.seq (.region [
  .ins ⟨(.p .mv), [.tmp (nat_lit 0)], (some (nat_lit 3)), none⟩,
  .ins ⟨(.p .nilck), [.tmp (nat_lit 3)], (some (nat_lit 4)), none⟩,
  .ins ⟨(.p (.fieldAddr (nat_lit 13))), [.tmp (nat_lit 4)], (some (nat_lit 5)), none⟩,
  .ins ⟨(.r (.load false (nat_lit 1))), [.tmp (nat_lit 5)], (some (nat_lit 6)), none⟩,
  .ins ⟨(.p .mv), [.tmp (nat_lit 0)], (some (nat_lit 8)), none⟩,
  .ins ⟨(.p .nilck), [.tmp (nat_lit 8)], (some (nat_lit 9)), none⟩,
  .ins ⟨(.p (.fieldAddr (nat_lit 2))), [.tmp (nat_lit 9)], (some (nat_lit 10)), none⟩,
  .ins ⟨(.p (.fieldAddr (nat_lit 1))), [.tmp (nat_lit 10)], (some (nat_lit 11)), none⟩,
  .ins ⟨(.r (.load false (nat_lit 1))), [.tmp (nat_lit 11)], (some (nat_lit 12)), none⟩,
  .ins ⟨(.c .value), [.const (.func (.func (nat_lit 125)) [] []), .tmp (nat_lit 6)], (some (nat_lit 7)), none⟩,
  .ins ⟨(.p (.bini .geq)), [.tmp (nat_lit 7), .tmp (nat_lit 12)], (some (nat_lit 13)), none⟩,
  .ins ⟨(.p .mv), [.tmp (nat_lit 13)], (some (nat_lit 14)), none⟩,
  .ins ⟨(.p .mv), [.tmp (nat_lit 0)], (some (nat_lit 15)), (some ((nat_lit 14), false))⟩,
  .ins ⟨(.p .nilck), [.tmp (nat_lit 15)], (some (nat_lit 16)), (some ((nat_lit 14), false))⟩,
  .ins ⟨(.p (.fieldAddr (nat_lit 18))), [.tmp (nat_lit 16)], (some (nat_lit 17)), (some ((nat_lit 14), false))⟩,
  .ins ⟨(.r (.load false (nat_lit 1))), [.tmp (nat_lit 17)], (some (nat_lit 18)), (some ((nat_lit 14), false))⟩,
  .ins ⟨(.p (.un .not)), [.tmp (nat_lit 18)], (some (nat_lit 19)), (some ((nat_lit 14), false))⟩,
  .ins ⟨(.p .mv), [.tmp (nat_lit 19)], (some (nat_lit 20)), (some ((nat_lit 14), false))⟩,
  .ins ⟨(.p .mv), [.tmp (nat_lit 0)], (some (nat_lit 21)), (some ((nat_lit 20), true))⟩,
  .ins ⟨(.p .nilck), [.tmp (nat_lit 21)], (some (nat_lit 22)), (some ((nat_lit 20), true))⟩,
  .ins ⟨(.p (.fieldAddr (nat_lit 19))), [.tmp (nat_lit 22)], (some (nat_lit 23)), (some ((nat_lit 20), true))⟩,
  .ins ⟨(.r (.load false (nat_lit 1))), [.tmp (nat_lit 23)], (some (nat_lit 24)), (some ((nat_lit 20), true))⟩,
  .ins ⟨(.p (.bini .sub)), [.tmp (nat_lit 24), .const (.int .i64 (.ofNat (nat_lit 1)))], (some (nat_lit 25)), (some ((nat_lit 20), true))⟩,
  .ins ⟨(.p (.bini .quo)), [.tmp (nat_lit 25), .const (.int .i64 (.ofNat (nat_lit 2)))], (some (nat_lit 26)), (some ((nat_lit 20), true))⟩,
  .ins ⟨(.p (.bini .geq)), [.tmp (nat_lit 26), .const (.int .i64 (.ofNat (nat_lit 100)))], (some (nat_lit 27)), (some ((nat_lit 20), true))⟩,
  .ins ⟨(.p .pick), [.tmp (nat_lit 20), .tmp (nat_lit 27), .const (.bool false)], (some (nat_lit 28)), (some ((nat_lit 14), false))⟩,
  .ins ⟨(.p .pick), [.tmp (nat_lit 14), .const (.bool true), .tmp (nat_lit 28)], (some (nat_lit 29)), none⟩,
  .ins ⟨(.p .mv), [.tmp (nat_lit 29)], (some (nat_lit 2)), none⟩,
  .again ⟨(.r (.load false (nat_lit 1))), [.tmp (nat_lit 11)], (some (nat_lit 12)), none⟩])
 .ret))⟩

def c110 : Code' := .fn ⟨(nat_lit 19), [.tmp (nat_lit 2)],
 (.seq (.region [
  .ins ⟨(.p .mv), [.const (.ptr none)], (some (nat_lit 2)), none⟩])
 (.seq (.region [
  .ins ⟨(.p .mv), [.tmp (nat_lit 0)], (some (nat_lit 4)), none⟩,
  .ins ⟨(.p .nilck), [.tmp (nat_lit 4)], (some (nat_lit 5)), none⟩,
  .ins ⟨(.p (.fieldAddr (nat_lit 1))), [.tmp (nat_lit 5)], (some (nat_lit 6)), none⟩,
  .ins ⟨(.r (.load false (nat_lit 1))), [.tmp (nat_lit 6)], (some (nat_lit 7)), none⟩,
  .ins ⟨(.p .mv), [.tmp (nat_lit 0)], (some (nat_lit 11)), none⟩,
  .ins ⟨(.p .nilck), [.tmp (nat_lit 11)], (some (nat_lit 12)), none⟩,
  .ins ⟨(.p (.fieldAddr (nat_lit 2))), [.tmp (nat_lit 12)], (some (nat_lit 13)), none⟩,
  .ins ⟨(.p (.fieldAddr (nat_lit 2))), [.tmp (nat_lit 13)], (some (nat_lit 14)), none⟩,
  .ins ⟨(.r (.load false (nat_lit 1))), [.tmp (nat_lit 14)], (some (nat_lit 15)), none⟩,
  .ins ⟨(.c .value), [.const (.func (.func (nat_lit 169)) [] [])], (some (nat_lit 3)), none⟩,
  .again ⟨(.r (.load false (nat_lit 1))), [.tmp (nat_lit 6)], (some (nat_lit 7)), none⟩,
  .again ⟨(.r (.load false (nat_lit 1))), [.tmp (nat_lit 14)], (some (nat_lit 15)), none⟩,
  .ins ⟨(.c .value), [.const (.func (.func (nat_lit 171)) [] []), .tmp (nat_lit 7)], (some (nat_lit 8)), none⟩,
  .ins ⟨(.p (.field (nat_lit 2) (nat_lit 1) false)), [.tmp (nat_lit 8)], (some (nat_lit 9)), none⟩,
  .again ⟨(.r (.load false (nat_lit 1))), [.tmp (nat_lit 14)], (some (nat_lit 15)), none⟩,
  .ins ⟨(.c .value), [.const (.func (.func (nat_lit 170)) [] []), .tmp (nat_lit 9)], (some (nat_lit 10)), none⟩,
  .again ⟨(.r (.load false (nat_lit 1))), [.tmp (nat_lit 14)], (some (nat_lit 15)), none⟩,
  .ins ⟨(.c .value), [.const (.func (.func (nat_lit 172)) [] []), .tmp (nat_lit 15)], (some (nat_lit 16)), none⟩,
  .ins ⟨(.p (.build [(.ptr none), (.ptr none), (.ptr none), (.bool false), (.bool false), (.slice none (nat_lit 0) (nat_lit 0) (nat_lit 0)), (.bool false)] [((nat_lit 0), (nat_lit 1)), ((nat_lit 1), (nat_lit 1)), ((nat_lit 2), (nat_lit 1))])), [.tmp (nat_lit 3), .tmp (nat_lit 10), .tmp (nat_lit 16)], (some (nat_lit 17)), none⟩,
  .ins ⟨(.a .box), [.tmp (nat_lit 17)], (some (nat_lit 18)), none⟩,
  .ins ⟨(.p .mv), [.tmp (nat_lit 18)], (some (nat_lit 2)), none⟩])
 .ret))⟩

def c111 : Code' := .fn ⟨(nat_lit 30), [.tmp (nat_lit 6)],
 (.seq (.region [
  .ins ⟨(.p .mv), [.const (.int .i64 (.ofNat (nat_lit 0)))], (some (nat_lit 6)), none⟩])
 (.seq (.seq (.region [
  .ins ⟨(.p .mv), [.tmp (nat_lit 0)], (some (nat_lit 8)), none⟩,
  .ins ⟨(.p .mv), [.tmp (nat_lit 1)], (some (nat_lit 9)), none⟩,
  .ins ⟨(.c .value), [.const (.func (.func (nat_lit 173)) [] []), .tmp (nat_lit 8), .tmp (nat_lit 9)], (some (nat_lit 10)), none⟩,
  .ins ⟨(.p .mv), [.tmp (nat_lit 10)], (some (nat_lit 7)), none⟩])
 (.seq (.region [
  .ins ⟨(.p .mv), [.tmp (nat_lit 7)], (some (nat_lit 11)), none⟩,
  .ins ⟨(.p (.bini .neq)), [.tmp (nat_lit 11), .const (.int .i64 (.ofNat (nat_lit 0)))], (some (nat_lit 12)), none⟩])
 (.cond (.tmp (nat_lit 12)) (.seq (.region [
  .ins ⟨(.p .mv), [.tmp (nat_lit 7)], (some (nat_lit 13)), none⟩,
  .ins ⟨(.p .mv), [.tmp (nat_lit 13)], (some (nat_lit 6)), none⟩])
 .ret)
 .skip)))
 (.seq (.region [
  .ins ⟨(.p .mv), [.tmp (nat_lit 0)], (some (nat_lit 14)), none⟩,
  .ins ⟨(.p .mv), [.tmp (nat_lit 1)], (some (nat_lit 15)), none⟩,
  .ins ⟨(.p .nilck), [.tmp (nat_lit 14)], (some (nat_lit 16)), none⟩,
  .ins ⟨(.p (.fieldAddr (nat_lit 2))), [.tmp (nat_lit 16)], (some (nat_lit 17)), none⟩,
  .ins ⟨(.l (.store (nat_lit 1))), [.tmp (nat_lit 17), .tmp (nat_lit 15)], none, none⟩])
 (.seq (.region [
  .ins ⟨(.p .mv), [.tmp (nat_lit 0)], (some (nat_lit 18)), none⟩,
  .ins ⟨(.p .mv), [.tmp (nat_lit 0)], (some (nat_lit 19)), none⟩,
  .ins ⟨(.p .nilck), [.tmp (nat_lit 19)], (some (nat_lit 20)), none⟩,
  .ins ⟨(.p (.fieldAddr (nat_lit 0))), [.tmp (nat_lit 20)], (some (nat_lit 21)), none⟩,
  .ins ⟨(.r (.load false (nat_lit 1))), [.tmp (nat_lit 21)], (some (nat_lit 22)), none⟩,
  .ins ⟨(.p .mv), [.tmp (nat_lit 1)], (some (nat_lit 23)), none⟩,
  .ins ⟨(.p .mv), [.tmp (nat_lit 2)], (some (nat_lit 24)), none⟩,
  .ins ⟨(.p (.build [(.int .i64 (.ofNat (nat_lit 0))), (.ptr none)] [((nat_lit 0), (nat_lit 1)), ((nat_lit 1), (nat_lit 1))])), [.tmp (nat_lit 23), .tmp (nat_lit 24)], (some (nat_lit 25)), none⟩,
  .ins ⟨(.a (.buildSlice [(.int .i64 (.ofNat (nat_lit 0))), (.ptr none)] (nat_lit 1) [((nat_lit 0), (nat_lit 2))])), [.tmp (nat_lit 25)], (some (nat_lit 26)), none⟩,
  .ins ⟨(.l (.append [(.int .i64 (.ofNat (nat_lit 0))), (.ptr none)] (nat_lit 2) (nat_lit 16))), [.tmp (nat_lit 22), .tmp (nat_lit 26)], (some (nat_lit 27)), none⟩,
  .ins ⟨(.p .nilck), [.tmp (nat_lit 18)], (some (nat_lit 28)), none⟩,
  .ins ⟨(.p (.fieldAddr (nat_lit 0))), [.tmp (nat_lit 28)], (some (nat_lit 29)), none⟩,
  .ins ⟨(.l (.store (nat_lit 1))), [.tmp (nat_lit 29), .tmp (nat_lit 27)], none, none⟩])
 (.seq (.region [
  .ins ⟨(.p .mv), [.const (.int .i64 (.ofNat (nat_lit 0)))], (some (nat_lit 6)), none⟩])
 .ret)))))⟩

def c112 : Code' := .fn ⟨(nat_lit 48), [],
 (.seq (.region [
  .ins ⟨(.a .box), [.tmp (nat_lit 0)], (some (nat_lit 5)), none⟩])
 (.seq (.region [
  .ins ⟨(.r (.load false (nat_lit 1))), [.tmp (nat_lit 5)], (some (nat_lit 14)), none⟩,
  .ins ⟨(.p .nilck), [.tmp (nat_lit 14)], (some (nat_lit 15)), none⟩,
  .ins ⟨(.p (.fieldAddr (nat_lit 9))), [.tmp (nat_lit 15)], (some (nat_lit 16)), none⟩,
  .ins ⟨(.r (.load false (nat_lit 1))), [.tmp (nat_lit 16)], (some (nat_lit 17)), none⟩,
  .ins ⟨(.p .mv), [.tmp (nat_lit 3)], (some (nat_lit 18)), none⟩,
  .ins ⟨(.c .value), [.const (.func (.func (nat_lit 174)) [] []), .tmp (nat_lit 17), .tmp (nat_lit 18)], (some (nat_lit 19)), none⟩,
  .ins ⟨(.p .mv), [.tmp (nat_lit 19)], (some (nat_lit 13)), none⟩,
  .ins ⟨(.p (.extract (nat_lit 0))), [.tmp (nat_lit 13)], (some (nat_lit 20)), none⟩,
  .ins ⟨(.p (.extract (nat_lit 1))), [.tmp (nat_lit 13)], (some (nat_lit 21)), none⟩,
  .ins ⟨(.p .mv), [.tmp (nat_lit 20)], (some (nat_lit 10)), none⟩,
  .ins ⟨(.p .mv), [.tmp (nat_lit 21)], (some (nat_lit 11)), none⟩])
 (.seq (.seq (.region [
  .ins ⟨(.p .mv), [.tmp (nat_lit 1)], (some (nat_lit 22)), none⟩,
  .ins ⟨(.p .mv), [.tmp (nat_lit 4)], (some (nat_lit 23)), none⟩,
  .ins ⟨(.p .mv), [.tmp (nat_lit 10)], (some (nat_lit 24)), none⟩,
  .ins ⟨(.r (.load false (nat_lit 1))), [.tmp (nat_lit 5)], (some (nat_lit 25)), none⟩,
  .ins ⟨(.p .nilck), [.tmp (nat_lit 25)], (some (nat_lit 26)), none⟩,
  .ins ⟨(.p (.fieldAddr (nat_lit 2))), [.tmp (nat_lit 26)], (some (nat_lit 27)), none⟩,
  .ins ⟨(.p (.fieldAddr (nat_lit 3))), [.tmp (nat_lit 27)], (some (nat_lit 28)), none⟩,
  .ins ⟨(.r (.load false (nat_lit 1))), [.tmp (nat_lit 28)], (some (nat_lit 29)), none⟩,
  .ins ⟨(.c .value), [.const (.func (.func (nat_lit 175)) [] []), .tmp (nat_lit 22), .tmp (nat_lit 23), .tmp (nat_lit 24), .tmp (nat_lit 29)], (some (nat_lit 30)), none⟩])
 (.block (nat_lit 0) (.rangeFunc (.tmp (nat_lit 30)) [(nat_lit 31)] (.region [
  .ins ⟨(.a (.alloc [(.int .i64 (.ofNat (nat_lit 0))), (.int .i64 (.ofNat (nat_lit 0))), (.int .i64 (.ofNat (nat_lit 0))), (.slice none (nat_lit 0) (nat_lit 0) (nat_lit 0))])), [], (some (nat_lit 12)), none⟩,
  .ins ⟨(.l (.store (nat_lit 4))), [.tmp (nat_lit 12), .tmp (nat_lit 31)], none, none⟩])
 (.block (nat_lit 1) (.region [
  .ins ⟨(.r (.load false (nat_lit 1))), [.tmp (nat_lit 5)], (some (nat_lit 32)), none⟩,
  .ins ⟨(.r (.load true (nat_lit 4))), [.tmp (nat_lit 12)], (some (nat_lit 33)), none⟩,
  .ins ⟨(.c .value), [.const (.func (.func (nat_lit 176)) [] []), .tmp (nat_lit 32), .tmp (nat_lit 33)], (some (nat_lit 34)), none⟩])))))
 (.seq (.region [
  .ins ⟨(.p .mv), [.tmp (nat_lit 2)], (some (nat_lit 35)), none⟩,
  .ins ⟨(.p .nilck), [.tmp (nat_lit 35)], (some (nat_lit 36)), none⟩,
  .ins ⟨(.p (.fieldAddr (nat_lit 4))), [.tmp (nat_lit 36)], (some (nat_lit 37)), none⟩,
  .ins ⟨(.l (.store (nat_lit 1))), [.tmp (nat_lit 37), .const (.bool true)], none, none⟩])
 (.seq (.region [
  .ins ⟨(.p .mv), [.tmp (nat_lit 2)], (some (nat_lit 38)), none⟩,
  .ins ⟨(.p .nilck), [.tmp (nat_lit 38)], (some (nat_lit 39)), none⟩,
  .ins ⟨(.p (.fieldAddr (nat_lit 0))), [.tmp (nat_lit 39)], (some (nat_lit 40)), none⟩,
  .ins ⟨(.r (.load false (nat_lit 1))), [.tmp (nat_lit 40)], (some (nat_lit 41)), none⟩,
  .ins ⟨(.p .mv), [.tmp (nat_lit 4)], (some (nat_lit 42)), none⟩,
  .ins ⟨(.c .value), [.const (.func (.func (nat_lit 145)) [] []), .tmp (nat_lit 41), .const (.int .i64 (.ofNat (nat_lit 1))), .tmp (nat_lit 42)], (some (nat_lit 43)), none⟩])
 (.region [
  .ins ⟨(.r (.load false (nat_lit 1))), [.tmp (nat_lit 5)], (some (nat_lit 44)), none⟩,
  .ins ⟨(.p .mv), [.tmp (nat_lit 1)], (some (nat_lit 45)), none⟩,
  .ins ⟨(.p .mv), [.tmp (nat_lit 2)], (some (nat_lit 46)), none⟩,
  .ins ⟨(.c .value), [.const (.func (.func (nat_lit 177)) [] []), .tmp (nat_lit 44), .tmp (nat_lit 45), .tmp (nat_lit 46)], (some (nat_lit 47)), none⟩]))))))⟩

def c113 : Code' := .fn ⟨(nat_lit 43), [.tmp (nat_lit 4), .tmp (nat_lit 5)],
 (.seq (.region [
  .ins ⟨(.a .box), [.tmp (nat_lit 1)], (some (nat_lit 3)), none⟩,
  .ins ⟨(.p .mv), [.const (.slice none (nat_lit 0) (nat_lit 0) (nat_lit 0))], (some (nat_lit 4)), none⟩,
  .ins ⟨(.p .mv), [.const (.int .i64 (.ofNat (nat_lit 0)))], (some (nat_lit 5)), none⟩])
 (.seq (.seq (.region [
  .ins ⟨(.p .mv), [.tmp (nat_lit 0)], (some (nat_lit 7)), none⟩,
  .ins ⟨(.p (.bini .neq)), [.tmp (nat_lit 7), .const (.int .i64 (.ofNat (nat_lit 1)))], (some (nat_lit 8)), none⟩,
  .ins ⟨(.p .mv), [.tmp (nat_lit 8)], (some (nat_lit 9)), none⟩,
  .ins ⟨(.p .mv), [.tmp (nat_lit 0)], (some (nat_lit 10)), (some ((nat_lit 9), true))⟩,
  .ins ⟨(.p (.bini .neq)), [.tmp (nat_lit 10), .const (.int .i64 (.ofNat (nat_lit 2)))], (some (nat_lit 11)), (some ((nat_lit 9), true))⟩,
  .ins ⟨(.p .pick), [.tmp (nat_lit 9), .tmp (nat_lit 11), .const (.bool false)], (some (nat_lit 12)), none⟩,
  .ins ⟨(.p .mv), [.tmp (nat_lit 12)], (some (nat_lit 13)), none⟩,
  .ins ⟨(.r (.load true (nat_lit 5))), [.tmp (nat_lit 3)], (some (nat_lit 14)), (some ((nat_lit 13), false))⟩,
  .ins ⟨(.c .value), [.const (.func (.func (nat_lit 178)) [] []), .tmp (nat_lit 14)], (some (nat_lit 15)), (some ((nat_lit 13), false))⟩,
  .ins ⟨(.p (.bini .neq)), [.tmp (nat_lit 15), .const (.int .i64 (.ofNat (nat_lit 0)))], (some (nat_lit 16)), (some ((nat_lit 13), false))⟩,
  .ins ⟨(.p .pick), [.tmp (nat_lit 13), .const (.bool true), .tmp (nat_lit 16)], (some (nat_lit 17)), none⟩])
 (.cond (.tmp (nat_lit 17)) (.seq (.region [
  .ins ⟨(.p .mv), [.const (.slice none (nat_lit 0) (nat_lit 0) (nat_lit 0))], (some (nat_lit 4)), none⟩,
  .ins ⟨(.p .mv), [.const (.int .i64 (.ofNat (nat_lit 1)))], (some (nat_lit 5)), none⟩])
 .ret)
 .skip))
 (.seq (.region [
  .ins ⟨(.p (.fieldAddr (nat_lit 0))), [.tmp (nat_lit 3)], (some (nat_lit 18)), none⟩,
  .ins ⟨(.r (.load false (nat_lit 1))), [.tmp (nat_lit 18)], (some (nat_lit 19)), none⟩,
  .ins ⟨(.p (.build [(.int .i64 (.ofNat (nat_lit 0))), (.int .i64 (.ofNat (nat_lit 0)))] [((nat_lit 0), (nat_lit 1)), ((nat_lit 1), (nat_lit 1))])), [.const (.int .i64 (.ofNat (nat_lit 1))), .tmp (nat_lit 19)], (some (nat_lit 20)), none⟩,
  .ins ⟨(.a (.buildSlice [(.int .i64 (.ofNat (nat_lit 0))), (.int .i64 (.ofNat (nat_lit 0)))] (nat_lit 1) [((nat_lit 0), (nat_lit 2))])), [.tmp (nat_lit 20)], (some (nat_lit 21)), none⟩,
  .ins ⟨(.p .mv), [.tmp (nat_lit 21)], (some (nat_lit 6)), none⟩])
 (.seq (.seq (.region [
  .ins ⟨(.p .mv), [.tmp (nat_lit 0)], (some (nat_lit 22)), none⟩,
  .ins ⟨(.p (.bini .eql)), [.tmp (nat_lit 22), .const (.int .i64 (.ofNat (nat_lit 1)))], (some (nat_lit 23)), none⟩])
 (.cond (.tmp (nat_lit 23)) (.region [
  .ins ⟨(.p .mv), [.tmp (nat_lit 6)], (some (nat_lit 24)), none⟩,
  .ins ⟨(.p (.build [(.int .i64 (.ofNat (nat_lit 0))), (.int .i64 (.ofNat (nat_lit 0)))] [((nat_lit 0), (nat_lit 1))])), [.const (.int .i64 (.ofNat (nat_lit 2)))], (some (nat_lit 25)), none⟩,
  .ins ⟨(.a (.buildSlice [(.int .i64 (.ofNat (nat_lit 0))), (.int .i64 (.ofNat (nat_lit 0)))] (nat_lit 1) [((nat_lit 0), (nat_lit 2))])), [.tmp (nat_lit 25)], (some (nat_lit 26)), none⟩,
  .ins ⟨(.l (.append [(.int .i64 (.ofNat (nat_lit 0))), (.int .i64 (.ofNat (nat_lit 0)))] (nat_lit 2) (nat_lit 16))), [.tmp (nat_lit 24), .tmp (nat_lit 26)], (some (nat_lit 27)), none⟩,
  .ins ⟨(.p .mv), [.tmp (nat_lit 27)], (some (nat_lit 6)), none⟩])
 .skip))
 (.seq (.region [
  .ins ⟨(.p .mv), [.tmp (nat_lit 6)], (some (nat_lit 28)), none⟩,
  .ins ⟨(.p (.fieldAddr (nat_lit 1))), [.tmp (nat_lit 3)], (some (nat_lit 29)), none⟩,
  .ins ⟨(.r (.load false (nat_lit 1))), [.tmp (nat_lit 29)], (some (nat_lit 30)), none⟩,
  .ins ⟨(.p (.build [(.int .i64 (.ofNat (nat_lit 0))), (.int .i64 (.ofNat (nat_lit 0)))] [((nat_lit 0), (nat_lit 1)), ((nat_lit 1), (nat_lit 1))])), [.const (.int .i64 (.ofNat (nat_lit 3))), .tmp (nat_lit 30)], (some (nat_lit 31)), none⟩,
  .ins ⟨(.p (.fieldAddr (nat_lit 2))), [.tmp (nat_lit 3)], (some (nat_lit 32)), none⟩,
  .ins ⟨(.r (.load false (nat_lit 1))), [.tmp (nat_lit 32)], (some (nat_lit 33)), none⟩,
  .ins ⟨(.p (.build [(.int .i64 (.ofNat (nat_lit 0))), (.int .i64 (.ofNat (nat_lit 0)))] [((nat_lit 0), (nat_lit 1)), ((nat_lit 1), (nat_lit 1))])), [.const (.int .i64 (.ofNat (nat_lit 4))), .tmp (nat_lit 33)], (some (nat_lit 34)), none⟩,
  .ins ⟨(.p (.fieldAddr (nat_lit 3))), [.tmp (nat_lit 3)], (some (nat_lit 35)), none⟩,
  .ins ⟨(.r (.load false (nat_lit 1))), [.tmp (nat_lit 35)], (some (nat_lit 36)), none⟩,
  .ins ⟨(.p (.build [(.int .i64 (.ofNat (nat_lit 0))), (.int .i64 (.ofNat (nat_lit 0)))] [((nat_lit 0), (nat_lit 1)), ((nat_lit 1), (nat_lit 1))])), [.const (.int .i64 (.ofNat (nat_lit 5))), .tmp (nat_lit 36)], (some (nat_lit 37)), none⟩,
  .ins ⟨(.p (.fieldAddr (nat_lit 4))), [.tmp (nat_lit 3)], (some (nat_lit 38)), none⟩,
  .ins ⟨(.r (.load false (nat_lit 1))), [.tmp (nat_lit 38)], (some (nat_lit 39)), none⟩,
  .ins ⟨(.p (.build [(.int .i64 (.ofNat (nat_lit 0))), (.int .i64 (.ofNat (nat_lit 0)))] [((nat_lit 0), (nat_lit 1)), ((nat_lit 1), (nat_lit 1))])), [.const (.int .i64 (.ofNat (nat_lit 6))), .tmp (nat_lit 39)], (some (nat_lit 40)), none⟩,
  .ins ⟨(.a (.buildSlice [(.int .i64 (.ofNat (nat_lit 0))), (.int .i64 (.ofNat (nat_lit 0))), (.int .i64 (.ofNat (nat_lit 0))), (.int .i64 (.ofNat (nat_lit 0))), (.int .i64 (.ofNat (nat_lit 0))), (.int .i64 (.ofNat (nat_lit 0))), (.int .i64 (.ofNat (nat_lit 0))), (.int .i64 (.ofNat (nat_lit 0)))] (nat_lit 4) [((nat_lit 0), (nat_lit 2)), ((nat_lit 2), (nat_lit 2)), ((nat_lit 4), (nat_lit 2)), ((nat_lit 6), (nat_lit 2))])), [.tmp (nat_lit 31), .tmp (nat_lit 34), .tmp (nat_lit 37), .tmp (nat_lit 40)], (some (nat_lit 41)), none⟩,
  .ins ⟨(.l (.append [(.int .i64 (.ofNat (nat_lit 0))), (.int .i64 (.ofNat (nat_lit 0)))] (nat_lit 2) (nat_lit 16))), [.tmp (nat_lit 28), .tmp (nat_lit 41)], (some (nat_lit 42)), none⟩,
  .ins ⟨(.p .mv), [.tmp (nat_lit 42)], (some (nat_lit 4)), none⟩,
  .ins ⟨(.p .mv), [.const (.int .i64 (.ofNat (nat_lit 0)))], (some (nat_lit 5)), none⟩])
 .ret)))))⟩

def c115 : Code' := .fn ⟨(nat_lit 27), [.tmp (nat_lit 4), .tmp (nat_lit 5)],
 (.seq (.region [
  .ins ⟨(.p .mv), [.const (.ptr none)], (some (nat_lit 4)), none⟩,
  .ins ⟨(.p .mv), [.const (.int .i64 (.ofNat (nat_lit 0)))], (some (nat_lit 5)), none⟩])
 (.seq (.block (nat_lit 0) (.seq (.region [
  .ins ⟨(.p .mv), [.tmp (nat_lit 0)], (some (nat_lit 9)), none⟩,
  .ins ⟨(.p (.eqnil .ptr false)), [.tmp (nat_lit 9), .const (.ptr none)], (some (nat_lit 10)), none⟩,
  .ins ⟨(.p .mv), [.tmp (nat_lit 10)], (some (nat_lit 8)), none⟩])
 (.cond (.tmp (nat_lit 8)) (.seq (.region [
  .ins ⟨(.p .mv), [.const (.ptr none)], (some (nat_lit 4)), none⟩,
  .ins ⟨(.p .mv), [.const (.int .i64 (.ofNat (nat_lit 1)))], (some (nat_lit 5)), none⟩])
 .ret)
 (.seq (.region [
  .ins ⟨(.p .mv), [.tmp (nat_lit 0)], (some (nat_lit 12)), none⟩,
  .ins ⟨(.p .nilck), [.tmp (nat_lit 12)], (some (nat_lit 13)), none⟩,
  .ins ⟨(.p (.fieldAddr (nat_lit 15))), [.tmp (nat_lit 13)], (some (nat_lit 14)), none⟩,
  .ins ⟨(.r (.load false (nat_lit 1))), [.tmp (nat_lit 14)], (some (nat_lit 15)), none⟩,
  .ins ⟨(.p .mv), [.tmp (nat_lit 15)], (some (nat_lit 11)), none⟩])
 (.cond (.tmp (nat_lit 11)) (.seq (.region [
  .ins ⟨(.p .mv), [.const (.ptr none)], (some (nat_lit 4)), none⟩,
  .ins ⟨(.p .mv), [.const (.int .i64 (.ofNat (nat_lit 11)))], (some (nat_lit 5)), none⟩])
 .ret)
 .skip)))))
 (.seq (.seq (.region [
  .ins ⟨(.p .mv), [.tmp (nat_lit 0)], (some (nat_lit 17)), none⟩,
  .ins ⟨(.p .nilck), [.tmp (nat_lit 17)], (some (nat_lit 18)), none⟩,
  .ins ⟨(.p (.fieldAddr (nat_lit 13))), [.tmp (nat_lit 18)], (some (nat_lit 19)), none⟩,
  .ins ⟨(.r (.load false (nat_lit 1))), [.tmp (nat_lit 19)], (some (nat_lit 20)), none⟩,
  .ins ⟨(.p .mv), [.tmp (nat_lit 1)], (some (nat_lit 21)), none⟩,
  .ins ⟨(.c .value), [.const (.func (.func (nat_lit 183)) [] []), .tmp (nat_lit 20), .tmp (nat_lit 21)], (some (nat_lit 22)), none⟩,
  .ins ⟨(.p .mv), [.tmp (nat_lit 22)], (some (nat_lit 16)), none⟩,
  .ins ⟨(.p (.extract (nat_lit 0))), [.tmp (nat_lit 16)], (some (nat_lit 23)), none⟩,
  .ins ⟨(.p (.extract (nat_lit 1))), [.tmp (nat_lit 16)], (some (nat_lit 24)), none⟩,
  .ins ⟨(.p .mv), [.tmp (nat_lit 23)], (some (nat_lit 6)), none⟩,
  .ins ⟨(.p .mv), [.tmp (nat_lit 24)], (some (nat_lit 7)), none⟩])
 (.seq (.region [
  .ins ⟨(.p .mv), [.tmp (nat_lit 7)], (some (nat_lit 25)), none⟩])
 (.cond (.tmp (nat_lit 25)) (.seq (.region [
  .ins ⟨(.p .mv), [.tmp (nat_lit 6)], (some (nat_lit 26)), none⟩,
  .ins ⟨(.p .mv), [.tmp (nat_lit 26)], (some (nat_lit 4)), none⟩,
  .ins ⟨(.p .mv), [.const (.int .i64 (.ofNat (nat_lit 0)))], (some (nat_lit 5)), none⟩])
 .ret)
 .skip)))
 (.seq (.region [
  .ins ⟨(.p .mv), [.const (.ptr none)], (some (nat_lit 4)), none⟩,
  .ins ⟨(.p .mv), [.const (.int .i64 (.ofNat (nat_lit 13)))], (some (nat_lit 5)), none⟩])
 .ret))))⟩

def c116 : Code' := .fn ⟨(nat_lit 53), [.tmp (nat_lit 2)],
 (.seq (.region [
  .ins ⟨(.p .mv), [.const (.int .i64 (.ofNat (nat_lit 0)))], (some (nat_lit 2)), none⟩])
 (.seq (.region [
  .ins ⟨(.p .mv), [.tmp (nat_lit 0)], (some (nat_lit 7)), none⟩,
  .ins ⟨(.c .value), [.const (.func (.func (nat_lit 166)) [] []), .tmp (nat_lit 7)], (some (nat_lit 8)), none⟩,
  .ins ⟨(.p .mv), [.tmp (nat_lit 8)], (some (nat_lit 6)), none⟩,
  .ins ⟨(.p (.extract (nat_lit 0))), [.tmp (nat_lit 6)], (some (nat_lit 9)), none⟩,
  .ins ⟨(.p (.extract (nat_lit 1))), [.tmp (nat_lit 6)], (some (nat_lit 10)), none⟩,
  .ins ⟨(.p .mv), [.tmp (nat_lit 9)], (some (nat_lit 3)), none⟩,
  .ins ⟨(.p .mv), [.tmp (nat_lit 10)], (some (nat_lit 4)), none⟩])
 (.seq (.region [
  .ins ⟨(.p .mv), [.tmp (nat_lit 3)], (some (nat_lit 11)), none⟩,
  .ins ⟨(.r (.lookup (.str (bs [])) false)), [.tmp (nat_lit 11), .const (.str (bs [(nat_lit 58), (nat_lit 115), (nat_lit 116), (nat_lit 97), (nat_lit 116), (nat_lit 117), (nat_lit 115)]))], (some (nat_lit 12)), none⟩,
  .ins ⟨(.p .mv), [.tmp (nat_lit 12)], (some (nat_lit 5)), none⟩])
 (.seq (.seq (.region [
  .ins ⟨(.p .mv), [.tmp (nat_lit 4)], (some (nat_lit 13)), none⟩,
  .ins ⟨(.p (.un .not)), [.tmp (nat_lit 13)], (some (nat_lit 14)), none⟩,
  .ins ⟨(.p .mv), [.tmp (nat_lit 14)], (some (nat_lit 15)), none⟩,
  .ins ⟨(.p .mv), [.tmp (nat_lit 3)], (some (nat_lit 16)), (some ((nat_lit 15), false))⟩,
  .ins ⟨(.r .lenMap), [.tmp (nat_lit 16)], (some (nat_lit 17)), (some ((nat_lit 15), false))⟩,
  .ins ⟨(.p (.bini .neq)), [.tmp (nat_lit 17), .const (.int .i64 (.ofNat (nat_lit 1)))], (some (nat_lit 18)), (some ((nat_lit 15), false))⟩,
  .ins ⟨(.p .pick), [.tmp (nat_lit 15), .const (.bool true), .tmp (nat_lit 18)], (some (nat_lit 19)), none⟩,
  .ins ⟨(.p .mv), [.tmp (nat_lit 19)], (some (nat_lit 20)), none⟩,
  .ins ⟨(.p .mv), [.tmp (nat_lit 5)], (some (nat_lit 21)), (some ((nat_lit 20), false))⟩,
  .ins ⟨(.p .lenStr), [.tmp (nat_lit 21)], (some (nat_lit 22)), (some ((nat_lit 20), false))⟩,
  .ins ⟨(.p (.bini .neq)), [.tmp (nat_lit 22), .const (.int .i64 (.ofNat (nat_lit 3)))], (some (nat_lit 23)), (some ((nat_lit 20), false))⟩,
  .ins ⟨(.p .pick), [.tmp (nat_lit 20), .const (.bool true), .tmp (nat_lit 23)], (some (nat_lit 24)), none⟩,
  .ins ⟨(.p .mv), [.tmp (nat_lit 24)], (some (nat_lit 25)), none⟩,
  .ins ⟨(.p .mv), [.tmp (nat_lit 5)], (some (nat_lit 26)), (some ((nat_lit 25), false))⟩,
  .ins ⟨(.p .indexStr), [.tmp (nat_lit 26), .const (.int .i64 (.ofNat (nat_lit 0)))], (some (nat_lit 27)), (some ((nat_lit 25), false))⟩,
  .ins ⟨(.p (.bini .lss)), [.tmp (nat_lit 27), .const (.int .u8 (.ofNat (nat_lit 50)))], (some (nat_lit 28)), (some ((nat_lit 25), false))⟩,
  .ins ⟨(.p .pick), [.tmp (nat_lit 25), .const (.bool true), .tmp (nat_lit 28)], (some (nat_lit 29)), none⟩,
  .ins ⟨(.p .mv), [.tmp (nat_lit 29)], (some (nat_lit 30)), none⟩,
  .ins ⟨(.p .mv), [.tmp (nat_lit 5)], (some (nat_lit 31)), (some ((nat_lit 30), false))⟩,
  .ins ⟨(.p .indexStr), [.tmp (nat_lit 31), .const (.int .i64 (.ofNat (nat_lit 0)))], (some (nat_lit 32)), (some ((nat_lit 30), false))⟩,
  .ins ⟨(.p (.bini .gtr)), [.tmp (nat_lit 32), .const (.int .u8 (.ofNat (nat_lit 53)))], (some (nat_lit 33)), (some ((nat_lit 30), false))⟩,
  .ins ⟨(.p .pick), [.tmp (nat_lit 30), .const (.bool true), .tmp (nat_lit 33)], (some (nat_lit 34)), none⟩])
 (.cond (.tmp (nat_lit 34)) (.seq (.region [
  .ins ⟨(.p .mv), [.const (.int .i64 (.ofNat (nat_lit 5)))], (some (nat_lit 2)), none⟩])
 .ret)
 .skip))
 (.seq (.seq (.region [
  .ins ⟨(.p .mv), [.tmp (nat_lit 5)], (some (nat_lit 35)), none⟩,
  .ins ⟨(.p .indexStr), [.tmp (nat_lit 35), .const (.int .i64 (.ofNat (nat_lit 1)))], (some (nat_lit 36)), none⟩,
  .ins ⟨(.p (.bini .lss)), [.tmp (nat_lit 36), .const (.int .u8 (.ofNat (nat_lit 48)))], (some (nat_lit 37)), none⟩,
  .ins ⟨(.p .mv), [.tmp (nat_lit 37)], (some (nat_lit 38)), none⟩,
  .ins ⟨(.p .mv), [.tmp (nat_lit 5)], (some (nat_lit 39)), (some ((nat_lit 38), false))⟩,
  .ins ⟨(.p .indexStr), [.tmp (nat_lit 39), .const (.int .i64 (.ofNat (nat_lit 1)))], (some (nat_lit 40)), (some ((nat_lit 38), false))⟩,
  .ins ⟨(.p (.bini .gtr)), [.tmp (nat_lit 40), .const (.int .u8 (.ofNat (nat_lit 57)))], (some (nat_lit 41)), (some ((nat_lit 38), false))⟩,
  .ins ⟨(.p .pick), [.tmp (nat_lit 38), .const (.bool true), .tmp (nat_lit 41)], (some (nat_lit 42)), none⟩,
  .ins ⟨(.p .mv), [.tmp (nat_lit 42)], (some (nat_lit 43)), none⟩,
  .ins ⟨(.p .mv), [.tmp (nat_lit 5)], (some (nat_lit 44)), (some ((nat_lit 43), false))⟩,
  .ins ⟨(.p .indexStr), [.tmp (nat_lit 44), .const (.int .i64 (.ofNat (nat_lit 2)))], (some (nat_lit 45)), (some ((nat_lit 43), false))⟩,
  .ins ⟨(.p (.bini .lss)), [.tmp (nat_lit 45), .const (.int .u8 (.ofNat (nat_lit 48)))], (some (nat_lit 46)), (some ((nat_lit 43), false))⟩,
  .ins ⟨(.p .pick), [.tmp (nat_lit 43), .const (.bool true), .tmp (nat_lit 46)], (some (nat_lit 47)), none⟩,
  .ins ⟨(.p .mv), [.tmp (nat_lit 47)], (some (nat_lit 48)), none⟩,
  .ins ⟨(.p .mv), [.tmp (nat_lit 5)], (some (nat_lit 49)), (some ((nat_lit 48), false))⟩,
  .ins ⟨(.p .indexStr), [.tmp (nat_lit 49), .const (.int .i64 (.ofNat (nat_lit 2)))], (some (nat_lit 50)), (some ((nat_lit 48), false))⟩,
  .ins ⟨(.p (.bini .gtr)), [.tmp (nat_lit 50), .const (.int .u8 (.ofNat (nat_lit 57)))], (some (nat_lit 51)), (some ((nat_lit 48), false))⟩,
  .ins ⟨(.p .pick), [.tmp (nat_lit 48), .const (.bool true), .tmp (nat_lit 51)], (some (nat_lit 52)), none⟩])
 (.cond (.tmp (nat_lit 52)) (.seq (.region [
  .ins ⟨(.p .mv), [.const (.int .i64 (.ofNat (nat_lit 5)))], (some (nat_lit 2)), none⟩])
 .ret)
 .skip))
 (.seq (.region [
  .ins ⟨(.p .mv), [.const (.int .i64 (.ofNat (nat_lit 0)))], (some (nat_lit 2)), none⟩])
 .ret))))))⟩

def c118 : Code' := .fn ⟨(nat_lit 23), [],
 (.seq (.region [
  .ins ⟨(.a .box), [.tmp (nat_lit 4)], (some (nat_lit 9)), none⟩])
 (.seq (.region [
  .ins ⟨(.p .mv), [.tmp (nat_lit 1)], (some (nat_lit 13)), none⟩,
  .ins ⟨(.p .mv), [.tmp (nat_lit 2)], (some (nat_lit 14)), none⟩,
  .ins ⟨(.p .mv), [.tmp (nat_lit 3)], (some (nat_lit 15)), none⟩,
  .ins ⟨(.r (.load true (nat_lit 11))), [.tmp (nat_lit 9)], (some (nat_lit 16)), none⟩,
  .ins ⟨(.c .value), [.const (.func (.func (nat_lit 180)) [] []), .tmp (nat_lit 13), .tmp (nat_lit 14), .tmp (nat_lit 15), .tmp (nat_lit 16)], (some (nat_lit 17)), none⟩,
  .ins ⟨(.p .mv), [.tmp (nat_lit 17)], (some (nat_lit 12)), none⟩,
  .ins ⟨(.p (.extract (nat_lit 0))), [.tmp (nat_lit 12)], (some (nat_lit 18)), none⟩,
  .ins ⟨(.p (.extract (nat_lit 1))), [.tmp (nat_lit 12)], (some (nat_lit 19)), none⟩,
  .ins ⟨(.a (.alloc [(.int .i64 (.ofNat (nat_lit 0))), (.int .i64 (.ofNat (nat_lit 0))), (.int .i64 (.ofNat (nat_lit 0))), (.slice none (nat_lit 0) (nat_lit 0) (nat_lit 0))])), [], (some (nat_lit 10)), none⟩,
  .ins ⟨(.l (.store (nat_lit 4))), [.tmp (nat_lit 10), .tmp (nat_lit 18)], none, none⟩,
  .ins ⟨(.p .mv), [.tmp (nat_lit 19)], (some (nat_lit 11)), none⟩])
 (.region [
  .ins ⟨(.p .mv), [.tmp (nat_lit 0)], (some (nat_lit 20)), none⟩,
  .ins ⟨(.r (.load true (nat_lit 4))), [.tmp (nat_lit 10)], (some (nat_lit 21)), none⟩,
  .ins ⟨(.c .value), [.const (.func (.func (nat_lit 176)) [] []), .tmp (nat_lit 20), .tmp (nat_lit 21)], (some (nat_lit 22)), none⟩])))⟩

def c119 : Code' := .fn ⟨(nat_lit 39), [.tmp (nat_lit 6)],
 (.seq (.region [
  .ins ⟨(.p .mv), [.const (.int .i64 (.ofNat (nat_lit 0)))], (some (nat_lit 6)), none⟩])
 (.seq (.seq (.region [
  .ins ⟨(.p .mv), [.tmp (nat_lit 0)], (some (nat_lit 9)), none⟩,
  .ins ⟨(.p (.eqnil .ptr false)), [.tmp (nat_lit 9), .const (.ptr none)], (some (nat_lit 10)), none⟩,
  .ins ⟨(.p .mv), [.tmp (nat_lit 10)], (some (nat_lit 11)), none⟩,
  .ins ⟨(.p .mv), [.tmp (nat_lit 2)], (some (nat_lit 12)), (some ((nat_lit 11), false))⟩,
  .ins ⟨(.c .value), [.const (.func (.func (nat_lit 184)) [] []), .tmp (nat_lit 12)], (some (nat_lit 13)), (some ((nat_lit 11), false))⟩,
  .ins ⟨(.p (.un .not)), [.tmp (nat_lit 13)], (some (nat_lit 14)), (some ((nat_lit 11), false))⟩,
  .ins ⟨(.p .pick), [.tmp (nat_lit 11), .const (.bool true), .tmp (nat_lit 14)], (some (nat_lit 15)), none⟩])
 (.cond (.tmp (nat_lit 15)) (.seq (.region [
  .ins ⟨(.p .mv), [.const (.int .i64 (.ofNat (nat_lit 1)))], (some (nat_lit 6)), none⟩])
 .ret)
 .skip))
 (.seq (.region [
  .ins ⟨(.p .mv), [.tmp (nat_lit 0)], (some (nat_lit 17)), none⟩,
  .ins ⟨(.p .mv), [.tmp (nat_lit 1)], (some (nat_lit 18)), none⟩,
  .ins ⟨(.c .value), [.const (.func (.func (nat_lit 185)) [] []), .tmp (nat_lit 17), .tmp (nat_lit 18)], (some (nat_lit 19)), none⟩,
  .ins ⟨(.p .mv), [.tmp (nat_lit 19)], (some (nat_lit 16)), none⟩,
  .ins ⟨(.p (.extract (nat_lit 0))), [.tmp (nat_lit 16)], (some (nat_lit 20)), none⟩,
  .ins ⟨(.p (.extract (nat_lit 1))), [.tmp (nat_lit 16)], (some (nat_lit 21)), none⟩,
  .ins ⟨(.p .mv), [.tmp (nat_lit 20)], (some (nat_lit 7)), none⟩,
  .ins ⟨(.p .mv), [.tmp (nat_lit 21)], (some (nat_lit 8)), none⟩])
 (.seq (.seq (.region [
  .ins ⟨(.p .mv), [.tmp (nat_lit 8)], (some (nat_lit 22)), none⟩,
  .ins ⟨(.p (.un .not)), [.tmp (nat_lit 22)], (some (nat_lit 23)), none⟩])
 (.cond (.tmp (nat_lit 23)) (.seq (.region [
  .ins ⟨(.p .mv), [.const (.int .i64 (.ofNat (nat_lit 13)))], (some (nat_lit 6)), none⟩])
 .ret)
 .skip))
 (.seq (.region [
  .ins ⟨(.p .mv), [.tmp (nat_lit 0)], (some (nat_lit 24)), none⟩,
  .ins ⟨(.p .mv), [.tmp (nat_lit 0)], (some (nat_lit 25)), none⟩,
  .ins ⟨(.p .nilck), [.tmp (nat_lit 25)], (some (nat_lit 26)), none⟩,
  .ins ⟨(.p (.fieldAddr (nat_lit 0))), [.tmp (nat_lit 26)], (some (nat_lit 27)), none⟩,
  .ins ⟨(.r (.load false (nat_lit 1))), [.tmp (nat_lit 27)], (some (nat_lit 28)), none⟩,
  .ins ⟨(.p .mv), [.tmp (nat_lit 7)], (some (nat_lit 29)), none⟩,
  .ins ⟨(.p .mv), [.tmp (nat_lit 7)], (some (nat_lit 30)), none⟩,
  .ins ⟨(.p (.bini .add)), [.tmp (nat_lit 30), .const (.int .i64 (.ofNat (nat_lit 1)))], (some (nat_lit 31)), none⟩,
  .ins ⟨(.c .value), [.const (.func (.func (nat_lit 186)) [] []), .tmp (nat_lit 28), .tmp (nat_lit 29), .tmp (nat_lit 31)], (some (nat_lit 32)), none⟩,
  .ins ⟨(.p .nilck), [.tmp (nat_lit 24)], (some (nat_lit 33)), none⟩,
  .ins ⟨(.p (.fieldAddr (nat_lit 0))), [.tmp (nat_lit 33)], (some (nat_lit 34)), none⟩,
  .ins ⟨(.l (.store (nat_lit 1))), [.tmp (nat_lit 34), .tmp (nat_lit 32)], none, none⟩])
 (.seq (.region [
  .ins ⟨(.p .mv), [.tmp (nat_lit 0)], (some (nat_lit 35)), none⟩,
  .ins ⟨(.p .mv), [.tmp (nat_lit 1)], (some (nat_lit 36)), none⟩,
  .ins ⟨(.p .mv), [.tmp (nat_lit 2)], (some (nat_lit 37)), none⟩,
  .ins ⟨(.c .value), [.const (.func (.func (nat_lit 187)) [] []), .tmp (nat_lit 35), .tmp (nat_lit 36), .tmp (nat_lit 37)], (some (nat_lit 38)), none⟩])
 (.seq (.region [
  .ins ⟨(.p .mv), [.const (.int .i64 (.ofNat (nat_lit 0)))], (some (nat_lit 6)), none⟩])
 .ret)))))))⟩

def c121 : Code' := .fn ⟨(nat_lit 9), [.tmp (nat_lit 2)],
 (.seq (.region [
  .ins ⟨(.p .mv), [.const (.bool false)], (some (nat_lit 2)), none⟩])
 (.seq (.region [
  .ins ⟨(.p .mv), [.tmp (nat_lit 0)], (some (nat_lit 3)), none⟩,
  .ins ⟨(.p (.bini .geq)), [.tmp (nat_lit 3), .const (.int .i64 (.ofNat (nat_lit 1)))], (some (nat_lit 4)), none⟩,
  .ins ⟨(.p .mv), [.tmp (nat_lit 4)], (some (nat_lit 5)), none⟩,
  .ins ⟨(.p .mv), [.tmp (nat_lit 0)], (some (nat_lit 6)), (some ((nat_lit 5), true))⟩,
  .ins ⟨(.p (.bini .leq)), [.tmp (nat_lit 6), .const (.int .i64 (.ofNat (nat_lit 5)))], (some (nat_lit 7)), (some ((nat_lit 5), true))⟩,
  .ins ⟨(.p .pick), [.tmp (nat_lit 5), .tmp (nat_lit 7), .const (.bool false)], (some (nat_lit 8)), none⟩,
  .ins ⟨(.p .mv), [.tmp (nat_lit 8)], (some (nat_lit 2)), none⟩])
 .ret))⟩

def c125 : Code' := .fn ⟨(nat_lit 10), [.tmp (nat_lit 2)],
 (.seq (.region [
  .ins ⟨(.p .mv), [.const (.int .i64 (.ofNat (nat_lit 0)))], (some (nat_lit 2)), none⟩])
 (.seq (.seq (.region [
  .ins ⟨(.p .mv), [.tmp (nat_lit 0)], (some (nat_lit 3)), none⟩,
  .ins ⟨(.p (.eqnil .ptr false)), [.tmp (nat_lit 3), .const (.ptr none)], (some (nat_lit 4)), none⟩])
 (.cond (.tmp (nat_lit 4)) (.seq (.region [
  .ins ⟨(.p .mv), [.const (.int .i64 (.ofNat (nat_lit 0)))], (some (nat_lit 2)), none⟩])
 .ret)
 .skip))
 (.seq (.region [
  .ins ⟨(.p .mv), [.tmp (nat_lit 0)], (some (nat_lit 5)), none⟩,
  .ins ⟨(.p .nilck), [.tmp (nat_lit 5)], (some (nat_lit 6)), none⟩,
  .ins ⟨(.p (.fieldAddr (nat_lit 0))), [.tmp (nat_lit 6)], (some (nat_lit 7)), none⟩,
  .ins ⟨(.r (.load false (nat_lit 1))), [.tmp (nat_lit 7)], (some (nat_lit 8)), none⟩,
  .ins ⟨(.p .lenSl), [.tmp (nat_lit 8)], (some (nat_lit 9)), none⟩,
  .ins ⟨(.p .mv), [.tmp (nat_lit 9)], (some (nat_lit 2)), none⟩])
 .ret)))⟩

def c126 : Code' := .fn ⟨(nat_lit 9), [.tmp (nat_lit 2)],
 (.seq (.region [
  .ins ⟨(.p .mv), [.const (.bool false)], (some (nat_lit 2)), none⟩])
 (.seq (.region [
  .ins ⟨(.p .mv), [.tmp (nat_lit 0)], (some (nat_lit 3)), none⟩,
  .ins ⟨(.p (.bini .geq)), [.tmp (nat_lit 3), .const (.int .i64 (.ofNat (nat_lit 0)))], (some (nat_lit 4)), none⟩,
  .ins ⟨(.p .mv), [.tmp (nat_lit 4)], (some (nat_lit 5)), none⟩,
  .ins ⟨(.p .mv), [.tmp (nat_lit 0)], (some (nat_lit 6)), (some ((nat_lit 5), true))⟩,
  .ins ⟨(.p (.bini .leq)), [.tmp (nat_lit 6), .const (.int .i64 (.ofNat (nat_lit 1099511627776)))], (some (nat_lit 7)), (some ((nat_lit 5), true))⟩,
  .ins ⟨(.p .pick), [.tmp (nat_lit 5), .tmp (nat_lit 7), .const (.bool false)], (some (nat_lit 8)), none⟩,
  .ins ⟨(.p .mv), [.tmp (nat_lit 8)], (some (nat_lit 2)), none⟩])
 .ret))⟩

def c127 : Code' := .fn ⟨(nat_lit 62), [.tmp (nat_lit 4), .tmp (nat_lit 5)],
 (.seq (.region [
  .ins ⟨(.a .box), [.tmp (nat_lit 1)], (some (nat_lit 3)), none⟩,
  .ins ⟨(.p .mv), [.const (.ptr none)], (some (nat_lit 4)), none⟩,
  .ins ⟨(.p .mv), [.const (.int .i64 (.ofNat (nat_lit 0)))], (some (nat_lit 5)), none⟩])
 (.seq (.region [
  .ins ⟨(.p .mv), [.tmp (nat_lit 0)], (some (nat_lit 10)), none⟩,
  .ins ⟨(.r (.load true (nat_lit 5))), [.tmp (nat_lit 3)], (some (nat_lit 11)), none⟩,
  .ins ⟨(.c .value), [.const (.func (.func (nat_lit 113)) [] []), .tmp (nat_lit 10), .tmp (nat_lit 11)], (some (nat_lit 12)), none⟩,
  .ins ⟨(.p .mv), [.tmp (nat_lit 12)], (some (nat_lit 9)), none⟩,
  .ins ⟨(.p (.extract (nat_lit 0))), [.tmp (nat_lit 9)], (some (nat_lit 13)), none⟩,
  .ins ⟨(.p (.extract (nat_lit 1))), [.tmp (nat_lit 9)], (some (nat_lit 14)), none⟩,
  .ins ⟨(.p .mv), [.tmp (nat_lit 13)], (some (nat_lit 6)), none⟩,
  .ins ⟨(.p .mv), [.tmp (nat_lit 14)], (some (nat_lit 7)), none⟩])
 (.seq (.seq (.region [
  .ins ⟨(.p .mv), [.tmp (nat_lit 7)], (some (nat_lit 15)), none⟩,
  .ins ⟨(.p (.bini .neq)), [.tmp (nat_lit 15), .const (.int .i64 (.ofNat (nat_lit 0)))], (some (nat_lit 16)), none⟩])
 (.cond (.tmp (nat_lit 16)) (.seq (.region [
  .ins ⟨(.p .mv), [.tmp (nat_lit 7)], (some (nat_lit 17)), none⟩,
  .ins ⟨(.p .mv), [.const (.ptr none)], (some (nat_lit 4)), none⟩,
  .ins ⟨(.p .mv), [.tmp (nat_lit 17)], (some (nat_lit 5)), none⟩])
 .ret)
 .skip))
 (.seq (.region [
  .ins ⟨(.p .mv), [.tmp (nat_lit 0)], (some (nat_lit 18)), none⟩,
  .ins ⟨(.c .value), [.const (.func (.func (nat_lit 188)) [] [])], (some (nat_lit 19)), none⟩,
  .ins ⟨(.c .value), [.const (.func (.func (nat_lit 189)) [] [])], (some (nat_lit 20)), none⟩,
  .ins ⟨(.c .value), [.const (.func (.func (nat_lit 190)) [] [])], (some (nat_lit 21)), none⟩,
  .ins ⟨(.c .value), [.const (.func (.func (nat_lit 191)) [] [])], (some (nat_lit 22)), none⟩,
  .ins ⟨(.c .value), [.const (.func (.func (nat_lit 170)) [] []), .const (.int .i64 (.ofNat (nat_lit 65535)))], (some (nat_lit 23)), none⟩,
  .ins ⟨(.c .value), [.const (.func (.func (nat_lit 172)) [] []), .const (.int .i64 (.ofNat (nat_lit 65535)))], (some (nat_lit 24)), none⟩,
  .ins ⟨(.p (.build [(.int .i64 (.ofNat (nat_lit 0))), (.ptr none), (.int .i64 (.ofNat (nat_lit 0))), (.int .i64 (.ofNat (nat_lit 0))), (.int .i64 (.ofNat (nat_lit 0))), (.int .i64 (.ofNat (nat_lit 0))), (.int .i64 (.ofNat (nat_lit 0))), (.ptr none), (.ptr none), (.ptr none), (.ptr none), (.ptr none), (.ptr none), (.ptr none), (.slice none (nat_lit 0) (nat_lit 0) (nat_lit 0)), (.bool false), (.bool false), (.bool false), (.bool false), (.int .i64 (.ofNat (nat_lit 0))), (.int .i64 (.ofNat (nat_lit 0))), (.int .i64 (.ofNat (nat_lit 0))), (.int .i64 (.ofNat (nat_lit 0))), (.slice none (nat_lit 0) (nat_lit 0) (nat_lit 0))] [((nat_lit 0), (nat_lit 1)), ((nat_lit 2), (nat_lit 5)), ((nat_lit 19), (nat_lit 1)), ((nat_lit 21), (nat_lit 1)), ((nat_lit 22), (nat_lit 1)), ((nat_lit 9), (nat_lit 1)), ((nat_lit 12), (nat_lit 1)), ((nat_lit 13), (nat_lit 1)), ((nat_lit 10), (nat_lit 1)), ((nat_lit 11), (nat_lit 1))])), [.tmp (nat_lit 18), .tmp (nat_lit 19), .const (.int .i64 (.ofNat (nat_lit 1))), .const (.int .i64 (.negSucc (nat_lit 0))), .const (.int .i64 (.negSucc (nat_lit 0))), .tmp (nat_lit 20), .tmp (nat_lit 21), .tmp (nat_lit 22), .tmp (nat_lit 23), .tmp (nat_lit 24)], (some (nat_lit 25)), none⟩,
  .ins ⟨(.a .box), [.tmp (nat_lit 25)], (some (nat_lit 26)), none⟩,
  .ins ⟨(.p .mv), [.tmp (nat_lit 26)], (some (nat_lit 8)), none⟩])
 (.seq (.region [
  .ins ⟨(.p .mv), [.tmp (nat_lit 8)], (some (nat_lit 28)), none⟩,
  .ins ⟨(.r (.load true (nat_lit 5))), [.tmp (nat_lit 3)], (some (nat_lit 29)), none⟩,
  .ins ⟨(.c .value), [.const (.func (.func (nat_lit 192)) [] []), .tmp (nat_lit 29)], (some (nat_lit 30)), none⟩,
  .ins ⟨(.p .mv), [.tmp (nat_lit 30)], (some (nat_lit 27)), none⟩,
  .ins ⟨(.p (.extract (nat_lit 0))), [.tmp (nat_lit 27)], (some (nat_lit 31)), none⟩,
  .ins ⟨(.p (.extract (nat_lit 1))), [.tmp (nat_lit 27)], (some (nat_lit 32)), none⟩,
  .ins ⟨(.p .nilck), [.tmp (nat_lit 28)], (some (nat_lit 33)), none⟩,
  .ins ⟨(.p (.fieldAddr (nat_lit 1))), [.tmp (nat_lit 33)], (some (nat_lit 34)), none⟩,
  .ins ⟨(.l (.store (nat_lit 1))), [.tmp (nat_lit 34), .tmp (nat_lit 31)], none, none⟩])
 (.seq (.region [
  .ins ⟨(.p .mv), [.tmp (nat_lit 8)], (some (nat_lit 36)), none⟩,
  .ins ⟨(.p .mv), [.tmp (nat_lit 0)], (some (nat_lit 37)), none⟩,
  .ins ⟨(.p (.bini .eql)), [.tmp (nat_lit 37), .const (.int .i64 (.ofNat (nat_lit 2)))], (some (nat_lit 38)), none⟩,
  .ins ⟨(.c .value), [.const (.func (.func (nat_lit 193)) [] []), .tmp (nat_lit 38), .const (.int .i64 (.ofNat (nat_lit 16384)))], (some (nat_lit 39)), none⟩,
  .ins ⟨(.p .mv), [.tmp (nat_lit 39)], (some (nat_lit 35)), none⟩,
  .ins ⟨(.p (.extract (nat_lit 0))), [.tmp (nat_lit 35)], (some (nat_lit 40)), none⟩,
  .ins ⟨(.p (.extract (nat_lit 1))), [.tmp (nat_lit 35)], (some (nat_lit 41)), none⟩,
  .ins ⟨(.p .nilck), [.tmp (nat_lit 36)], (some (nat_lit 42)), none⟩,
  .ins ⟨(.p (.fieldAddr (nat_lit 7))), [.tmp (nat_lit 42)], (some (nat_lit 43)), none⟩,
  .ins ⟨(.l (.store (nat_lit 1))), [.tmp (nat_lit 43), .tmp (nat_lit 40)], none, none⟩])
 (.seq (.region [
  .ins ⟨(.p .mv), [.tmp (nat_lit 8)], (some (nat_lit 45)), none⟩,
  .ins ⟨(.c .value), [.const (.func (.func (nat_lit 194)) [] []), .const (.int .i64 (.ofNat (nat_lit 4096)))], (some (nat_lit 46)), none⟩,
  .ins ⟨(.p .mv), [.tmp (nat_lit 46)], (some (nat_lit 44)), none⟩,
  .ins ⟨(.p (.extract (nat_lit 0))), [.tmp (nat_lit 44)], (some (nat_lit 47)), none⟩,
  .ins ⟨(.p (.extract (nat_lit 1))), [.tmp (nat_lit 44)], (some (nat_lit 48)), none⟩,
  .ins ⟨(.p .nilck), [.tmp (nat_lit 45)], (some (nat_lit 49)), none⟩,
  .ins ⟨(.p (.fieldAddr (nat_lit 8))), [.tmp (nat_lit 49)], (some (nat_lit 50)), none⟩,
  .ins ⟨(.l (.store (nat_lit 1))), [.tmp (nat_lit 50), .tmp (nat_lit 47)], none, none⟩])
 (.seq (.seq (.region [
  .ins ⟨(.p .mv), [.tmp (nat_lit 0)], (some (nat_lit 51)), none⟩,
  .ins ⟨(.p (.bini .eql)), [.tmp (nat_lit 51), .const (.int .i64 (.ofNat (nat_lit 1)))], (some (nat_lit 52)), none⟩])
 (.cond (.tmp (nat_lit 52)) (.region [
  .ins ⟨(.p .mv), [.tmp (nat_lit 8)], (some (nat_lit 53)), none⟩,
  .ins ⟨(.c .value), [.const (.func (.func (nat_lit 195)) [] [])], (some (nat_lit 54)), none⟩,
  .ins ⟨(.p .nilck), [.tmp (nat_lit 53)], (some (nat_lit 55)), none⟩,
  .ins ⟨(.p (.fieldAddr (nat_lit 14))), [.tmp (nat_lit 55)], (some (nat_lit 56)), none⟩,
  .ins ⟨(.l (.store (nat_lit 1))), [.tmp (nat_lit 56), .tmp (nat_lit 54)], none, none⟩])
 .skip))
 (.seq (.region [
  .ins ⟨(.p .mv), [.tmp (nat_lit 8)], (some (nat_lit 57)), none⟩,
  .ins ⟨(.p .mv), [.tmp (nat_lit 6)], (some (nat_lit 58)), none⟩,
  .ins ⟨(.p (.build [(.slice none (nat_lit 0) (nat_lit 0) (nat_lit 0)), (.int .i64 (.ofNat (nat_lit 0))), (.bool false), (.bool false), (.int .i64 (.ofNat (nat_lit 0))), (.int .i64 (.ofNat (nat_lit 0))), (.int .i64 (.ofNat (nat_lit 0))), (.int .i64 (.ofNat (nat_lit 0))), (.int .i64 (.ofNat (nat_lit 0))), (.slice none (nat_lit 0) (nat_lit 0) (nat_lit 0)), (.int .i64 (.ofNat (nat_lit 0)))] [((nat_lit 9), (nat_lit 1))])), [.tmp (nat_lit 58)], (some (nat_lit 59)), none⟩,
  .ins ⟨(.c .value), [.const (.func (.func (nat_lit 118)) [] []), .tmp (nat_lit 57), .const (.int .i64 (.ofNat (nat_lit 4))), .const (.int .i64 (.ofNat (nat_lit 0))), .const (.int .i64 (.ofNat (nat_lit 0))), .tmp (nat_lit 59)], (some (nat_lit 60)), none⟩])
 (.seq (.region [
  .ins ⟨(.p .mv), [.tmp (nat_lit 8)], (some (nat_lit 61)), none⟩,
  .ins ⟨(.p .mv), [.tmp (nat_lit 61)], (some (nat_lit 4)), none⟩,
  .ins ⟨(.p .mv), [.const (.int .i64 (.ofNat (nat_lit 0)))], (some (nat_lit 5)), none⟩])
 .ret))))))))))⟩

def c128 : Code' := .fn ⟨(nat_lit 3), [.tmp (nat_lit 0)],
 (.seq (.region [
  .ins ⟨(.p .mv), [.const (.ptr none)], (some (nat_lit 0)), none⟩])
 (.seq (.region [
  .ins ⟨(.p (.build [(.int .i64 (.ofNat (nat_lit 0))), (.bool false), (.int .i64 (.ofNat (nat_lit 0))), (.bool false), (.int .i64 (.ofNat (nat_lit 0))), (.bool false), (.int .i64 (.ofNat (nat_lit 0))), (.bool false), (.int .i64 (.ofNat (nat_lit 0))), (.bool false), (.int .i64 (.ofNat (nat_lit 0))), (.bool false)] [])), [], (some (nat_lit 1)), none⟩,
  .ins ⟨(.a .box), [.tmp (nat_lit 1)], (some (nat_lit 2)), none⟩,
  .ins ⟨(.p .mv), [.tmp (nat_lit 2)], (some (nat_lit 0)), none⟩])
 .ret))⟩

def c129 : Code' := .fn ⟨(nat_lit 13), [.tmp (nat_lit 2), .tmp (nat_lit 3)],
 (.seq (.region [
  .ins ⟨(.p .mv), [.const (.ptr none)], (some (nat_lit 2)), none⟩,
  .ins ⟨(.p .mv), [.const (.int .i64 (.ofNat (nat_lit 0)))], (some (nat_lit 3)), none⟩])
 (.seq (.seq (.region [
  .ins ⟨(.p .mv), [.tmp (nat_lit 0)], (some (nat_lit 4)), none⟩,
  .ins ⟨(.p (.bini .neq)), [.tmp (nat_lit 4), .const (.int .i64 (.ofNat (nat_lit 1)))], (some (nat_lit 5)), none⟩,
  .ins ⟨(.p .mv), [.tmp (nat_lit 5)], (some (nat_lit 6)), none⟩,
  .ins ⟨(.p .mv), [.tmp (nat_lit 0)], (some (nat_lit 7)), (some ((nat_lit 6), true))⟩,
  .ins ⟨(.p (.bini .neq)), [.tmp (nat_lit 7), .const (.int .i64 (.ofNat (nat_lit 2)))], (some (nat_lit 8)), (some ((nat_lit 6), true))⟩,
  .ins ⟨(.p .pick), [.tmp (nat_lit 6), .tmp (nat_lit 8), .const (.bool false)], (some (nat_lit 9)), none⟩])
 (.cond (.tmp (nat_lit 9)) (.seq (.region [
  .ins ⟨(.p .mv), [.const (.ptr none)], (some (nat_lit 2)), none⟩,
  .ins ⟨(.p .mv), [.const (.int .i64 (.ofNat (nat_lit 1)))], (some (nat_lit 3)), none⟩])
 .ret)
 .skip))
 (.seq (.region [
  .ins ⟨(.p .mv), [.tmp (nat_lit 0)], (some (nat_lit 10)), none⟩,
  .ins ⟨(.p (.build [(.int .i64 (.ofNat (nat_lit 0))), (.int .i64 (.ofNat (nat_lit 0)))] [((nat_lit 0), (nat_lit 1))])), [.tmp (nat_lit 10)], (some (nat_lit 11)), none⟩,
  .ins ⟨(.a .box), [.tmp (nat_lit 11)], (some (nat_lit 12)), none⟩,
  .ins ⟨(.p .mv), [.tmp (nat_lit 12)], (some (nat_lit 2)), none⟩,
  .ins ⟨(.p .mv), [.const (.int .i64 (.ofNat (nat_lit 0)))], (some (nat_lit 3)), none⟩])
 .ret)))⟩

def c130 : Code' := .fn ⟨(nat_lit 93), [.tmp (nat_lit 4), .tmp (nat_lit 5)],
 (.seq (.region [
  .ins ⟨(.a .box), [.tmp (nat_lit 1)], (some (nat_lit 3)), none⟩,
  .ins ⟨(.p .mv), [.const (.slice none (nat_lit 0) (nat_lit 0) (nat_lit 0))], (some (nat_lit 4)), none⟩,
  .ins ⟨(.p .mv), [.const (.int .i64 (.ofNat (nat_lit 0)))], (some (nat_lit 5)), none⟩])
 (.seq (.region [
  .ins ⟨(.p .mv), [.tmp (nat_lit 0)], (some (nat_lit 12)), none⟩,
  .ins ⟨(.p (.fieldAddr (nat_lit 1))), [.tmp (nat_lit 3)], (some (nat_lit 13)), none⟩,
  .ins ⟨(.r (.load false (nat_lit 1))), [.tmp (nat_lit 13)], (some (nat_lit 14)), none⟩,
  .ins ⟨(.c .value), [.const (.func (.func (nat_lit 75)) [] []), .tmp (nat_lit 12), .tmp (nat_lit 14)], (some (nat_lit 15)), none⟩,
  .ins ⟨(.p .mv), [.tmp (nat_lit 15)], (some (nat_lit 11)), none⟩,
  .ins ⟨(.p (.extract (nat_lit 0))), [.tmp (nat_lit 11)], (some (nat_lit 16)), none⟩,
  .ins ⟨(.p (.extract (nat_lit 1))), [.tmp (nat_lit 11)], (some (nat_lit 17)), none⟩,
  .ins ⟨(.p .mv), [.tmp (nat_lit 16)], (some (nat_lit 6)), none⟩,
  .ins ⟨(.p .mv), [.tmp (nat_lit 17)], (some (nat_lit 7)), none⟩])
 (.seq (.region [
  .ins ⟨(.p (.fieldAddr (nat_lit 2))), [.tmp (nat_lit 3)], (some (nat_lit 18)), none⟩,
  .ins ⟨(.r (.load false (nat_lit 1))), [.tmp (nat_lit 18)], (some (nat_lit 19)), none⟩,
  .ins ⟨(.p (.fieldAddr (nat_lit 6))), [.tmp (nat_lit 3)], (some (nat_lit 20)), none⟩,
  .ins ⟨(.r (.load false (nat_lit 1))), [.tmp (nat_lit 20)], (some (nat_lit 21)), none⟩,
  .ins ⟨(.p (.build [(.int .i64 (.ofNat (nat_lit 0))), (.int .i64 (.ofNat (nat_lit 0))), (.slice none (nat_lit 0) (nat_lit 0) (nat_lit 0)), (.slice none (nat_lit 0) (nat_lit 0) (nat_lit 0)), (.bool false), (.int .i64 (.ofNat (nat_lit 0))), (.int .i64 (.ofNat (nat_lit 0)))] [((nat_lit 1), (nat_lit 1)), ((nat_lit 4), (nat_lit 1))])), [.tmp (nat_lit 19), .tmp (nat_lit 21)], (some (nat_lit 22)), none⟩,
  .ins ⟨(.a (.alloc [(.int .i64 (.ofNat (nat_lit 0))), (.int .i64 (.ofNat (nat_lit 0))), (.slice none (nat_lit 0) (nat_lit 0) (nat_lit 0)), (.slice none (nat_lit 0) (nat_lit 0) (nat_lit 0)), (.bool false), (.int .i64 (.ofNat (nat_lit 0))), (.int .i64 (.ofNat (nat_lit 0)))])), [], (some (nat_lit 8)), none⟩,
  .ins ⟨(.l (.store (nat_lit 7))), [.tmp (nat_lit 8), .tmp (nat_lit 22)], none, none⟩])
 (.seq (.region [
  .ins ⟨(.p .mv), [.const (.slice none (nat_lit 0) (nat_lit 0) (nat_lit 0))], (some (nat_lit 9)), none⟩])
 (.seq (.region [
  .ins ⟨(.p .mv), [.const (.int .i64 (.ofNat (nat_lit 0)))], (some (nat_lit 10)), none⟩])
 (.seq (.seq (.region [
  .ins ⟨(.p (.fieldAddr (nat_lit 0))), [.tmp (nat_lit 3)], (some (nat_lit 23)), none⟩,
  .ins ⟨(.r (.load false (nat_lit 1))), [.tmp (nat_lit 23)], (some (nat_lit 24)), none⟩])
 (.block (nat_lit 0) (.seq (.region [
  .ins ⟨(.p (.bini .eql)), [.tmp (nat_lit 24), .const (.int .i64 (.ofNat (nat_lit 1)))], (some (nat_lit 42)), none⟩,
  .ins ⟨(.p .mv), [.tmp (nat_lit 42)], (some (nat_lit 41)), none⟩])
 (.cond (.tmp (nat_lit 41)) (.seq (.region [
  .ins ⟨(.p (.fieldAddr (nat_lit 1))), [.tmp (nat_lit 3)], (some (nat_lit 43)), none⟩,
  .ins ⟨(.l (.store (nat_lit 1))), [.tmp (nat_lit 43), .const (.int .i64 (.ofNat (nat_lit 1)))], none, none⟩])
 (.seq (.region [
  .ins ⟨(.p (.fieldAddr (nat_lit 4))), [.tmp (nat_lit 3)], (some (nat_lit 44)), none⟩,
  .ins ⟨(.r (.load false (nat_lit 1))), [.tmp (nat_lit 44)], (some (nat_lit 45)), none⟩,
  .ins ⟨(.c .value), [.const (.func (.func (nat_lit 196)) [] []), .tmp (nat_lit 45)], (some (nat_lit 46)), none⟩,
  .ins ⟨(.p (.fieldAddr (nat_lit 0))), [.tmp (nat_lit 8)], (some (nat_lit 47)), none⟩,
  .ins ⟨(.l (.store (nat_lit 1))), [.tmp (nat_lit 47), .const (.int .i64 (.ofNat (nat_lit 15)))], none, none⟩,
  .ins ⟨(.p (.fieldAddr (nat_lit 2))), [.tmp (nat_lit 8)], (some (nat_lit 48)), none⟩,
  .ins ⟨(.l (.store (nat_lit 1))), [.tmp (nat_lit 48), .tmp (nat_lit 46)], none, none⟩])
 (.region [
  .ins ⟨(.p .mv), [.tmp (nat_lit 0)], (some (nat_lit 50)), none⟩,
  .ins ⟨(.p .nilck), [.tmp (nat_lit 50)], (some (nat_lit 51)), none⟩,
  .ins ⟨(.p (.fieldAddr (nat_lit 0))), [.tmp (nat_lit 51)], (some (nat_lit 52)), none⟩,
  .ins ⟨(.r (.load false (nat_lit 1))), [.tmp (nat_lit 52)], (some (nat_lit 53)), none⟩,
  .ins ⟨(.p (.fieldAddr (nat_lit 4))), [.tmp (nat_lit 3)], (some (nat_lit 54)), none⟩,
  .ins ⟨(.r (.load false (nat_lit 1))), [.tmp (nat_lit 54)], (some (nat_lit 55)), none⟩,
  .ins ⟨(.p (.fieldAddr (nat_lit 6))), [.tmp (nat_lit 3)], (some (nat_lit 56)), none⟩,
  .ins ⟨(.r (.load false (nat_lit 1))), [.tmp (nat_lit 56)], (some (nat_lit 57)), none⟩,
  .ins ⟨(.c .value), [.const (.func (.func (nat_lit 10)) [] []), .tmp (nat_lit 53), .tmp (nat_lit 55), .tmp (nat_lit 57)], (some (nat_lit 58)), none⟩,
  .ins ⟨(.p .mv), [.tmp (nat_lit 58)], (some (nat_lit 49)), none⟩,
  .ins ⟨(.p (.extract (nat_lit 0))), [.tmp (nat_lit 49)], (some (nat_lit 59)), none⟩,
  .ins ⟨(.p (.extract (nat_lit 1))), [.tmp (nat_lit 49)], (some (nat_lit 60)), none⟩,
  .ins ⟨(.p (.fieldAddr (nat_lit 1))), [.tmp (nat_lit 8)], (some (nat_lit 61)), none⟩,
  .ins ⟨(.l (.store (nat_lit 1))), [.tmp (nat_lit 61), .tmp (nat_lit 59)], none, none⟩,
  .ins ⟨(.p .mv), [.tmp (nat_lit 60)], (some (nat_lit 10)), none⟩])))
 (.seq (.region [
  .ins ⟨(.p (.bini .eql)), [.tmp (nat_lit 24), .const (.int .i64 (.ofNat (nat_lit 3)))], (some (nat_lit 63)), none⟩,
  .ins ⟨(.p .mv), [.tmp (nat_lit 63)], (some (nat_lit 62)), none⟩])
 (.cond (.tmp (nat_lit 62)) (.seq (.region [
  .ins ⟨(.p (.fieldAddr (nat_lit 1))), [.tmp (nat_lit 3)], (some (nat_lit 64)), none⟩,
  .ins ⟨(.l (.store (nat_lit 1))), [.tmp (nat_lit 64), .const (.int .i64 (.ofNat (nat_lit 2)))], none, none⟩])
 (.seq (.region [
  .ins ⟨(.p (.fieldAddr (nat_lit 4))), [.tmp (nat_lit 3)], (some (nat_lit 65)), none⟩,
  .ins ⟨(.r (.load false (nat_lit 1))), [.tmp (nat_lit 65)], (some (nat_lit 66)), none⟩,
  .ins ⟨(.c .value), [.const (.func (.func (nat_lit 196)) [] []), .tmp (nat_lit 66)], (some (nat_lit 67)), none⟩,
  .ins ⟨(.p (.fieldAddr (nat_lit 0))), [.tmp (nat_lit 8)], (some (nat_lit 68)), none⟩,
  .ins ⟨(.l (.store (nat_lit 1))), [.tmp (nat_lit 68), .const (.int .i64 (.ofNat (nat_lit 17)))], none, none⟩,
  .ins ⟨(.p (.fieldAddr (nat_lit 2))), [.tmp (nat_lit 8)], (some (nat_lit 69)), none⟩,
  .ins ⟨(.l (.store (nat_lit 1))), [.tmp (nat_lit 69), .tmp (nat_lit 67)], none, none⟩])
 (.region [
  .ins ⟨(.p .mv), [.tmp (nat_lit 0)], (some (nat_lit 70)), none⟩,
  .ins ⟨(.p .nilck), [.tmp (nat_lit 70)], (some (nat_lit 71)), none⟩,
  .ins ⟨(.p (.fieldAddr (nat_lit 1))), [.tmp (nat_lit 71)], (some (nat_lit 72)), none⟩,
  .ins ⟨(.r (.load false (nat_lit 1))), [.tmp (nat_lit 72)], (some (nat_lit 73)), none⟩,
  .ins ⟨(.p (.fieldAddr (nat_lit 2))), [.tmp (nat_lit 3)], (some (nat_lit 74)), none⟩,
  .ins ⟨(.r (.load false (nat_lit 1))), [.tmp (nat_lit 74)], (some (nat_lit 75)), none⟩,
  .ins ⟨(.p (.fieldAddr (nat_lit 4))), [.tmp (nat_lit 3)], (some (nat_lit 76)), none⟩,
  .ins ⟨(.r (.load false (nat_lit 1))), [.tmp (nat_lit 76)], (some (nat_lit 77)), none⟩,
  .ins ⟨(.p (.fieldAddr (nat_lit 6))), [.tmp (nat_lit 3)], (some (nat_lit 78)), none⟩,
  .ins ⟨(.r (.load false (nat_lit 1))), [.tmp (nat_lit 78)], (some (nat_lit 79)), none⟩,
  .ins ⟨(.c .value), [.const (.func (.func (nat_lit 11)) [] []), .tmp (nat_lit 73), .tmp (nat_lit 75), .tmp (nat_lit 77), .tmp (nat_lit 79)], (some (nat_lit 80)), none⟩,
  .ins ⟨(.p .mv), [.tmp (nat_lit 80)], (some (nat_lit 10)), none⟩])))
 (.seq (.region [
  .ins ⟨(.p (.fieldAddr (nat_lit 5))), [.tmp (nat_lit 3)], (some (nat_lit 25)), none⟩,
  .ins ⟨(.r (.load false (nat_lit 1))), [.tmp (nat_lit 25)], (some (nat_lit 26)), none⟩,
  .ins ⟨(.c .value), [.const (.func (.func (nat_lit 45)) [] []), .tmp (nat_lit 26)], (some (nat_lit 27)), none⟩,
  .ins ⟨(.p (.fieldAddr (nat_lit 0))), [.tmp (nat_lit 8)], (some (nat_lit 28)), none⟩,
  .ins ⟨(.l (.store (nat_lit 1))), [.tmp (nat_lit 28), .const (.int .i64 (.ofNat (nat_lit 16)))], none, none⟩,
  .ins ⟨(.p (.fieldAddr (nat_lit 3))), [.tmp (nat_lit 8)], (some (nat_lit 29)), none⟩,
  .ins ⟨(.l (.store (nat_lit 1))), [.tmp (nat_lit 29), .tmp (nat_lit 27)], none, none⟩])
 (.region [
  .ins ⟨(.p .mv), [.tmp (nat_lit 6)], (some (nat_lit 31)), none⟩,
  .ins ⟨(.p (.fieldAddr (nat_lit 2))), [.tmp (nat_lit 3)], (some (nat_lit 32)), none⟩,
  .ins ⟨(.r (.load false (nat_lit 1))), [.tmp (nat_lit 32)], (some (nat_lit 33)), none⟩,
  .ins ⟨(.p (.fieldAddr (nat_lit 5))), [.tmp (nat_lit 3)], (some (nat_lit 34)), none⟩,
  .ins ⟨(.r (.load false (nat_lit 1))), [.tmp (nat_lit 34)], (some (nat_lit 35)), none⟩,
  .ins ⟨(.p (.fieldAddr (nat_lit 6))), [.tmp (nat_lit 3)], (some (nat_lit 36)), none⟩,
  .ins ⟨(.r (.load false (nat_lit 1))), [.tmp (nat_lit 36)], (some (nat_lit 37)), none⟩,
  .ins ⟨(.c .value), [.const (.func (.func (nat_lit 12)) [] []), .tmp (nat_lit 31), .tmp (nat_lit 33), .tmp (nat_lit 35), .tmp (nat_lit 37)], (some (nat_lit 38)), none⟩,
  .ins ⟨(.p .mv), [.tmp (nat_lit 38)], (some (nat_lit 30)), none⟩,
  .ins ⟨(.p (.extract (nat_lit 0))), [.tmp (nat_lit 30)], (some (nat_lit 39)), none⟩,
  .ins ⟨(.p (.extract (nat_lit 1))), [.tmp (nat_lit 30)], (some (nat_lit 40)), none⟩,
  .ins ⟨(.p .mv), [.tmp (nat_lit 39)], (some (nat_lit 9)), none⟩,
  .ins ⟨(.p .mv), [.tmp (nat_lit 40)], (some (nat_lit 10)), none⟩]))))))))
 (.seq (.seq (.region [
  .ins ⟨(.p .mv), [.tmp (nat_lit 10)], (some (nat_lit 81)), none⟩,
  .ins ⟨(.p (.bini .neq)), [.tmp (nat_lit 81), .const (.int .i64 (.ofNat (nat_lit 0)))], (some (nat_lit 82)), none⟩])
 (.cond (.tmp (nat_lit 82)) (.seq (.region [
  .ins ⟨(.p .mv), [.tmp (nat_lit 10)], (some (nat_lit 83)), none⟩,
  .ins ⟨(.p .mv), [.const (.slice none (nat_lit 0) (nat_lit 0) (nat_lit 0))], (some (nat_lit 4)), none⟩,
  .ins ⟨(.p .mv), [.tmp (nat_lit 83)], (some (nat_lit 5)), none⟩])
 .ret)
 .skip))
 (.seq (.region [
  .ins ⟨(.p (.fieldAddr (nat_lit 1))), [.tmp (nat_lit 3)], (some (nat_lit 84)), none⟩,
  .ins ⟨(.r (.load false (nat_lit 1))), [.tmp (nat_lit 84)], (some (nat_lit 85)), none⟩,
  .ins ⟨(.r (.load true (nat_lit 7))), [.tmp (nat_lit 8)], (some (nat_lit 86)), none⟩,
  .ins ⟨(.a (.buildSlice [(.int .i64 (.ofNat (nat_lit 0))), (.int .i64 (.ofNat (nat_lit 0))), (.slice none (nat_lit 0) (nat_lit 0) (nat_lit 0)), (.slice none (nat_lit 0) (nat_lit 0) (nat_lit 0)), (.bool false), (.int .i64 (.ofNat (nat_lit 0))), (.int .i64 (.ofNat (nat_lit 0)))] (nat_lit 1) [((nat_lit 0), (nat_lit 7))])), [.tmp (nat_lit 86)], (some (nat_lit 87)), none⟩,
  .ins ⟨(.p (.fieldAddr (nat_lit 1))), [.tmp (nat_lit 3)], (some (nat_lit 89)), none⟩,
  .ins ⟨(.r (.load false (nat_lit 1))), [.tmp (nat_lit 89)], (some (nat_lit 90)), none⟩,
  .ins ⟨(.p .mv), [.tmp (nat_lit 9)], (some (nat_lit 91)), none⟩,
  .ins ⟨(.c .value), [.const (.func (.func (nat_lit 131)) [] []), .const (.slice none (nat_lit 0) (nat_lit 0) (nat_lit 0)), .tmp (nat_lit 85), .tmp (nat_lit 87)], (some (nat_lit 88)), none⟩,
  .again ⟨(.r (.load false (nat_lit 1))), [.tmp (nat_lit 89)], (some (nat_lit 90)), none⟩,
  .ins ⟨(.c .value), [.const (.func (.func (nat_lit 131)) [] []), .tmp (nat_lit 88), .tmp (nat_lit 90), .tmp (nat_lit 91)], (some (nat_lit 92)), none⟩,
  .ins ⟨(.p .mv), [.tmp (nat_lit 92)], (some (nat_lit 4)), none⟩,
  .ins ⟨(.p .mv), [.const (.int .i64 (.ofNat (nat_lit 0)))], (some (nat_lit 5)), none⟩])
 .ret))))))))⟩

def c131 : Code' := .fn ⟨(nat_lit 23), [.tmp (nat_lit 6)],
 (.seq (.region [
  .ins ⟨(.p .mv), [.const (.slice none (nat_lit 0) (nat_lit 0) (nat_lit 0))], (some (nat_lit 6)), none⟩])
 (.seq (.seq (.region [
  .ins ⟨(.p .mv), [.tmp (nat_lit 2)], (some (nat_lit 9)), none⟩,
  .ins ⟨(.p .lenSl), [.tmp (nat_lit 9)], (some (nat_lit 10)), none⟩,
  .ins ⟨(.p .mv), [.const (.int .i64 (.ofNat (nat_lit 0)))], (some (nat_lit 11)), none⟩])
 (.block (nat_lit 0) (.loop (.seq (.region [
  .ins ⟨(.p (.bini .lss)), [.tmp (nat_lit 11), .tmp (nat_lit 10)], (some (nat_lit 12)), none⟩])
 (.seq (.cond (.tmp (nat_lit 12)) .skip
 (.exit (nat_lit 0)))
 (.seq (.block (nat_lit 1) (.seq (.region [
  .ins ⟨(.p (.indexAddr (nat_lit 7))), [.tmp (nat_lit 9), .tmp (nat_lit 11)], (some (nat_lit 13)), none⟩,
  .ins ⟨(.r (.load true (nat_lit 7))), [.tmp (nat_lit 13)], (some (nat_lit 14)), none⟩,
  .ins ⟨(.a (.alloc [(.int .i64 (.ofNat (nat_lit 0))), (.int .i64 (.ofNat (nat_lit 0))), (.slice none (nat_lit 0) (nat_lit 0) (nat_lit 0)), (.slice none (nat_lit 0) (nat_lit 0) (nat_lit 0)), (.bool false), (.int .i64 (.ofNat (nat_lit 0))), (.int .i64 (.ofNat (nat_lit 0)))])), [], (some (nat_lit 8)), none⟩,
  .ins ⟨(.l (.store (nat_lit 7))), [.tmp (nat_lit 8), .tmp (nat_lit 14)], none, none⟩])
 (.region [
  .ins ⟨(.p .mv), [.tmp (nat_lit 0)], (some (nat_lit 15)), none⟩,
  .ins ⟨(.p .mv), [.tmp (nat_lit 1)], (some (nat_lit 16)), none⟩,
  .ins ⟨(.r (.load true (nat_lit 7))), [.tmp (nat_lit 8)], (some (nat_lit 17)), none⟩,
  .ins ⟨(.p (.build [(.int .i64 (.ofNat (nat_lit 0))), (.int .i64 (.ofNat (nat_lit 0))), (.int .i64 (.ofNat (nat_lit 0))), (.slice none (nat_lit 0) (nat_lit 0) (nat_lit 0)), (.slice none (nat_lit 0) (nat_lit 0) (nat_lit 0)), (.bool false), (.int .i64 (.ofNat (nat_lit 0))), (.int .i64 (.ofNat (nat_lit 0)))] [((nat_lit 0), (nat_lit 1)), ((nat_lit 1), (nat_lit 7))])), [.tmp (nat_lit 16), .tmp (nat_lit 17)], (some (nat_lit 18)), none⟩,
  .ins ⟨(.a (.buildSlice [(.int .i64 (.ofNat (nat_lit 0))), (.int .i64 (.ofNat (nat_lit 0))), (.int .i64 (.ofNat (nat_lit 0))), (.slice none (nat_lit 0) (nat_lit 0) (nat_lit 0)), (.slice none (nat_lit 0) (nat_lit 0) (nat_lit 0)), (.bool false), (.int .i64 (.ofNat (nat_lit 0))), (.int .i64 (.ofNat (nat_lit 0)))] (nat_lit 1) [((nat_lit 0), (nat_lit 8))])), [.tmp (nat_lit 18)], (some (nat_lit 19)), none⟩,
  .ins ⟨(.l (.append [(.int .i64 (.ofNat (nat_lit 0))), (.int .i64 (.ofNat (nat_lit 0))), (.int .i64 (.ofNat (nat_lit 0))), (.slice none (nat_lit 0) (nat_lit 0) (nat_lit 0)), (.slice none (nat_lit 0) (nat_lit 0) (nat_lit 0)), (.bool false), (.int .i64 (.ofNat (nat_lit 0))), (.int .i64 (.ofNat (nat_lit 0)))] (nat_lit 8) (nat_lit 96))), [.tmp (nat_lit 15), .tmp (nat_lit 19)], (some (nat_lit 20)), none⟩,
  .ins ⟨(.p .mv), [.tmp (nat_lit 20)], (some (nat_lit 0)), none⟩])))
 (.region [
  .ins ⟨(.p (.bini .add)), [.tmp (nat_lit 11), .const (.int .i64 (.ofNat (nat_lit 1)))], (some (nat_lit 21)), none⟩,
  .ins ⟨(.p .mv), [.tmp (nat_lit 21)], (some (nat_lit 11)), none⟩])))))))
 (.seq (.region [
  .ins ⟨(.p .mv), [.tmp (nat_lit 0)], (some (nat_lit 22)), none⟩,
  .ins ⟨(.p .mv), [.tmp (nat_lit 22)], (some (nat_lit 6)), none⟩])
 .ret)))⟩

def c132 : Code' := .fn ⟨(nat_lit 36), [.tmp (nat_lit 6)],
 (.seq (.region [
  .ins ⟨(.p .mv), [.const (.slice none (nat_lit 0) (nat_lit 0) (nat_lit 0))], (some (nat_lit 6)), none⟩])
 (.seq (.region [
  .ins ⟨(.p .mv), [.tmp (nat_lit 0)], (some (nat_lit 13)), none⟩,
  .ins ⟨(.p .mv), [.tmp (nat_lit 1)], (some (nat_lit 14)), none⟩,
  .ins ⟨(.c .value), [.const (.func (.func (nat_lit 75)) [] []), .tmp (nat_lit 13), .tmp (nat_lit 14)], (some (nat_lit 15)), none⟩,
  .ins ⟨(.p .mv), [.tmp (nat_lit 15)], (some (nat_lit 12)), none⟩,
  .ins ⟨(.p (.extract (nat_lit 0))), [.tmp (nat_lit 12)], (some (nat_lit 16)), none⟩,
  .ins ⟨(.p (.extract (nat_lit 1))), [.tmp (nat_lit 12)], (some (nat_lit 17)), none⟩,
  .ins ⟨(.p .mv), [.tmp (nat_lit 16)], (some (nat_lit 7)), none⟩,
  .ins ⟨(.p .mv), [.tmp (nat_lit 17)], (some (nat_lit 8)), none⟩])
 (.seq (.region [
  .ins ⟨(.p .mv), [.tmp (nat_lit 8)], (some (nat_lit 19)), none⟩,
  .ins ⟨(.p .mv), [.tmp (nat_lit 2)], (some (nat_lit 20)), none⟩,
  .ins ⟨(.c .value), [.const (.func (.func (nat_lit 197)) [] []), .tmp (nat_lit 19), .tmp (nat_lit 20)], (some (nat_lit 21)), none⟩,
  .ins ⟨(.p .mv), [.tmp (nat_lit 21)], (some (nat_lit 18)), none⟩,
  .ins ⟨(.p (.extract (nat_lit 0))), [.tmp (nat_lit 18)], (some (nat_lit 22)), none⟩,
  .ins ⟨(.p (.extract (nat_lit 1))), [.tmp (nat_lit 18)], (some (nat_lit 23)), none⟩,
  .ins ⟨(.p .mv), [.tmp (nat_lit 22)], (some (nat_lit 9)), none⟩,
  .ins ⟨(.p .mv), [.tmp (nat_lit 23)], (some (nat_lit 10)), none⟩])
 (.seq (.region [
  .ins ⟨(.p .mv), [.tmp (nat_lit 1)], (some (nat_lit 24)), none⟩,
  .ins ⟨(.p .mv), [.tmp (nat_lit 7)], (some (nat_lit 25)), none⟩,
  .ins ⟨(.p .mv), [.tmp (nat_lit 9)], (some (nat_lit 26)), none⟩,
  .ins ⟨(.c .value), [.const (.func (.func (nat_lit 6)) [] []), .tmp (nat_lit 25), .tmp (nat_lit 26)], (some (nat_lit 27)), none⟩,
  .ins ⟨(.c .value), [.const (.func (.func (nat_lit 131)) [] []), .const (.slice none (nat_lit 0) (nat_lit 0) (nat_lit 0)), .tmp (nat_lit 24), .tmp (nat_lit 27)], (some (nat_lit 28)), none⟩,
  .ins ⟨(.p .mv), [.tmp (nat_lit 28)], (some (nat_lit 11)), none⟩])
 (.seq (.seq (.region [
  .ins ⟨(.p .mv), [.tmp (nat_lit 10)], (some (nat_lit 29)), none⟩])
 (.cond (.tmp (nat_lit 29)) (.region [
  .ins ⟨(.p .mv), [.tmp (nat_lit 11)], (some (nat_lit 30)), none⟩,
  .ins ⟨(.p .mv), [.tmp (nat_lit 1)], (some (nat_lit 31)), none⟩,
  .ins ⟨(.p .mv), [.tmp (nat_lit 7)], (some (nat_lit 32)), none⟩,
  .ins ⟨(.c .value), [.const (.func (.func (nat_lit 7)) [] []), .tmp (nat_lit 32)], (some (nat_lit 33)), none⟩,
  .ins ⟨(.c .value), [.const (.func (.func (nat_lit 131)) [] []), .tmp (nat_lit 30), .tmp (nat_lit 31), .tmp (nat_lit 33)], (some (nat_lit 34)), none⟩,
  .ins ⟨(.p .mv), [.tmp (nat_lit 34)], (some (nat_lit 11)), none⟩])
 .skip))
 (.seq (.region [
  .ins ⟨(.p .mv), [.tmp (nat_lit 11)], (some (nat_lit 35)), none⟩,
  .ins ⟨(.p .mv), [.tmp (nat_lit 35)], (some (nat_lit 6)), none⟩])
 .ret))))))⟩

def c134 : Code' := .fn ⟨(nat_lit 18), [],
 (.seq (.region [
  .ins ⟨(.p .mv), [.tmp (nat_lit 1)], (some (nat_lit 4)), none⟩,
  .ins ⟨(.p .mv), [.tmp (nat_lit 0)], (some (nat_lit 5)), none⟩,
  .ins ⟨(.c .value), [.const (.func (.func (nat_lit 9)) [] []), .tmp (nat_lit 5), .const (.int .i64 (.ofNat (nat_lit 1073741824)))], (some (nat_lit 6)), none⟩,
  .ins ⟨(.c .value), [.const (.func (.func (nat_lit 198)) [] []), .tmp (nat_lit 4), .tmp (nat_lit 6)], (some (nat_lit 7)), none⟩])
 (.seq (.region [
  .ins ⟨(.p .mv), [.tmp (nat_lit 0)], (some (nat_lit 8)), none⟩,
  .ins ⟨(.c .value), [.const (.func (.func (nat_lit 19)) [] []), .tmp (nat_lit 8)], (some (nat_lit 9)), none⟩,
  .ins ⟨(.p (.bini .neq)), [.tmp (nat_lit 9), .const (.int .i64 (.ofNat (nat_lit 0)))], (some (nat_lit 10)), none⟩,
  .ins ⟨(.p .mv), [.tmp (nat_lit 10)], (some (nat_lit 11)), none⟩,
  .ins ⟨(.p .mv), [.tmp (nat_lit 0)], (some (nat_lit 12)), (some ((nat_lit 11), true))⟩,
  .ins ⟨(.c .value), [.const (.func (.func (nat_lit 20)) [] []), .tmp (nat_lit 12)], (some (nat_lit 13)), (some ((nat_lit 11), true))⟩,
  .ins ⟨(.p (.bini .eql)), [.tmp (nat_lit 13), .const (.int .i64 (.ofNat (nat_lit 0)))], (some (nat_lit 14)), (some ((nat_lit 11), true))⟩,
  .ins ⟨(.p .pick), [.tmp (nat_lit 11), .tmp (nat_lit 14), .const (.bool false)], (some (nat_lit 15)), none⟩])
 (.cond (.tmp (nat_lit 15)) (.region [
  .ins ⟨(.p .mv), [.tmp (nat_lit 1)], (some (nat_lit 16)), none⟩,
  .ins ⟨(.c .value), [.const (.func (.func (nat_lit 199)) [] []), .tmp (nat_lit 16)], (some (nat_lit 17)), none⟩])
 .skip)))⟩

def c141 : Code' := .fn ⟨(nat_lit 28), [.cell (nat_lit 6) true (nat_lit 5), .tmp (nat_lit 7)],
 (.seq (.region [
  .ins ⟨(.a .box), [.tmp (nat_lit 1)], (some (nat_lit 4)), none⟩,
  .ins ⟨(.a (.alloc [(.int .i64 (.ofNat (nat_lit 0))), (.int .i64 (.ofNat (nat_lit 0))), (.int .i64 (.ofNat (nat_lit 0))), (.int .i64 (.ofNat (nat_lit 0))), (.int .i64 (.ofNat (nat_lit 0)))])), [], (some (nat_lit 6)), none⟩,
  .ins ⟨(.p .mv), [.const (.int .i64 (.ofNat (nat_lit 0)))], (some (nat_lit 7)), none⟩])
 (.seq (.region [
  .ins ⟨(.r (.load true (nat_lit 5))), [.tmp (nat_lit 4)], (some (nat_lit 12)), none⟩,
  .ins ⟨(.a (.alloc [(.int .i64 (.ofNat (nat_lit 0))), (.int .i64 (.ofNat (nat_lit 0))), (.int .i64 (.ofNat (nat_lit 0))), (.int .i64 (.ofNat (nat_lit 0))), (.int .i64 (.ofNat (nat_lit 0)))])), [], (some (nat_lit 8)), none⟩,
  .ins ⟨(.l (.store (nat_lit 5))), [.tmp (nat_lit 8), .tmp (nat_lit 12)], none, none⟩])
 (.seq (.seq (.region [
  .ins ⟨(.p .mv), [.tmp (nat_lit 2)], (some (nat_lit 13)), none⟩,
  .ins ⟨(.p .lenSl), [.tmp (nat_lit 13)], (some (nat_lit 14)), none⟩,
  .ins ⟨(.p .mv), [.const (.int .i64 (.ofNat (nat_lit 0)))], (some (nat_lit 15)), none⟩])
 (.block (nat_lit 0) (.loop (.seq (.region [
  .ins ⟨(.p (.bini .lss)), [.tmp (nat_lit 15), .tmp (nat_lit 14)], (some (nat_lit 16)), none⟩])
 (.seq (.cond (.tmp (nat_lit 16)) .skip
 (.exit (nat_lit 0)))
 (.seq (.block (nat_lit 1) (.seq (.region [
  .ins ⟨(.p (.indexAddr (nat_lit 2))), [.tmp (nat_lit 13), .tmp (nat_lit 15)], (some (nat_lit 17)), none⟩,
  .ins ⟨(.r (.load true (nat_lit 2))), [.tmp (nat_lit 17)], (some (nat_lit 18)), none⟩,
  .ins ⟨(.a (.alloc [(.int .i64 (.ofNat (nat_lit 0))), (.int .i64 (.ofNat (nat_lit 0)))])), [], (some (nat_lit 10)), none⟩,
  .ins ⟨(.l (.store (nat_lit 2))), [.tmp (nat_lit 10), .tmp (nat_lit 18)], none, none⟩])
 (.seq (.region [
  .ins ⟨(.p .mv), [.tmp (nat_lit 0)], (some (nat_lit 19)), none⟩,
  .ins ⟨(.r (.load true (nat_lit 2))), [.tmp (nat_lit 10)], (some (nat_lit 20)), none⟩,
  .ins ⟨(.c .value), [.const (.func (.func (nat_lit 212)) [] []), .tmp (nat_lit 19), .tmp (nat_lit 8), .tmp (nat_lit 20)], (some (nat_lit 21)), none⟩,
  .ins ⟨(.p .mv), [.tmp (nat_lit 21)], (some (nat_lit 11)), none⟩])
 (.seq (.region [
  .ins ⟨(.p .mv), [.tmp (nat_lit 11)], (some (nat_lit 22)), none⟩,
  .ins ⟨(.p (.bini .neq)), [.tmp (nat_lit 22), .const (.int .i64 (.ofNat (nat_lit 0)))], (some (nat_lit 23)), none⟩])
 (.cond (.tmp (nat_lit 23)) (.seq (.region [
  .ins ⟨(.r (.load true (nat_lit 5))), [.tmp (nat_lit 4)], (some (nat_lit 24)), none⟩,
  .ins ⟨(.p .mv), [.tmp (nat_lit 11)], (some (nat_lit 25)), none⟩,
  .ins ⟨(.l (.store (nat_lit 5))), [.tmp (nat_lit 6), .tmp (nat_lit 24)], none, none⟩,
  .ins ⟨(.p .mv), [.tmp (nat_lit 25)], (some (nat_lit 7)), none⟩])
 .ret)
 .skip)))))
 (.region [
  .ins ⟨(.p (.bini .add)), [.tmp (nat_lit 15), .const (.int .i64 (.ofNat (nat_lit 1)))], (some (nat_lit 26)), none⟩,
  .ins ⟨(.p .mv), [.tmp (nat_lit 26)], (some (nat_lit 15)), none⟩])))))))
 (.seq (.region [
  .ins ⟨(.r (.load true (nat_lit 5))), [.tmp (nat_lit 8)], (some (nat_lit 27)), none⟩,
  .ins ⟨(.l (.store (nat_lit 5))), [.tmp (nat_lit 6), .tmp (nat_lit 27)], none, none⟩,
  .ins ⟨(.p .mv), [.const (.int .i64 (.ofNat (nat_lit 0)))], (some (nat_lit 7)), none⟩])
 .ret))))⟩

def c143 : Code' := .fn ⟨(nat_lit 24), [.cell (nat_lit 2) true (nat_lit 5)],
 (.seq (.region [
  .ins ⟨(.a (.alloc [(.int .i64 (.ofNat (nat_lit 0))), (.int .i64 (.ofNat (nat_lit 0))), (.int .i64 (.ofNat (nat_lit 0))), (.int .i64 (.ofNat (nat_lit 0))), (.int .i64 (.ofNat (nat_lit 0)))])), [], (some (nat_lit 2)), none⟩])
 (.seq (.region [
  .ins ⟨(.p .mv), [.tmp (nat_lit 0)], (some (nat_lit 4)), none⟩,
  .ins ⟨(.p .nilck), [.tmp (nat_lit 4)], (some (nat_lit 5)), none⟩,
  .ins ⟨(.p (.fieldAddr (nat_lit 1))), [.tmp (nat_lit 5)], (some (nat_lit 6)), none⟩,
  .ins ⟨(.r (.load false (nat_lit 1))), [.tmp (nat_lit 6)], (some (nat_lit 7)), none⟩,
  .ins ⟨(.c .value), [.const (.func (.func (nat_lit 171)) [] []), .tmp (nat_lit 7)], (some (nat_lit 8)), none⟩,
  .ins ⟨(.a (.alloc [(.int .i64 (.ofNat (nat_lit 0))), (.int .i64 (.ofNat (nat_lit 0))), (.int .i64 (.ofNat (nat_lit 0))), (.int .i64 (.ofNat (nat_lit 0))), (.int .i64 (.ofNat (nat_lit 0)))])), [], (some (nat_lit 3)), none⟩,
  .ins ⟨(.l (.store (nat_lit 5))), [.tmp (nat_lit 3), .tmp (nat_lit 8)], none, none⟩])
 (.seq (.region [
  .ins ⟨(.p .mv), [.tmp (nat_lit 0)], (some (nat_lit 9)), none⟩,
  .ins ⟨(.p .nilck), [.tmp (nat_lit 9)], (some (nat_lit 10)), none⟩,
  .ins ⟨(.p (.fieldAddr (nat_lit 7))), [.tmp (nat_lit 10)], (some (nat_lit 11)), none⟩,
  .ins ⟨(.r (.load false (nat_lit 1))), [.tmp (nat_lit 11)], (some (nat_lit 12)), none⟩,
  .ins ⟨(.p (.fieldAddr (nat_lit 3))), [.tmp (nat_lit 3)], (some (nat_lit 13)), none⟩,
  .ins ⟨(.r (.load false (nat_lit 1))), [.tmp (nat_lit 13)], (some (nat_lit 14)), none⟩,
  .ins ⟨(.c .value), [.const (.func (.func (nat_lit 213)) [] []), .tmp (nat_lit 12), .tmp (nat_lit 14)], (some (nat_lit 15)), none⟩])
 (.seq (.region [
  .ins ⟨(.p .mv), [.tmp (nat_lit 0)], (some (nat_lit 16)), none⟩,
  .ins ⟨(.p .nilck), [.tmp (nat_lit 16)], (some (nat_lit 17)), none⟩,
  .ins ⟨(.p (.fieldAddr (nat_lit 8))), [.tmp (nat_lit 17)], (some (nat_lit 18)), none⟩,
  .ins ⟨(.r (.load false (nat_lit 1))), [.tmp (nat_lit 18)], (some (nat_lit 19)), none⟩,
  .ins ⟨(.p (.fieldAddr (nat_lit 0))), [.tmp (nat_lit 3)], (some (nat_lit 20)), none⟩,
  .ins ⟨(.r (.load false (nat_lit 1))), [.tmp (nat_lit 20)], (some (nat_lit 21)), none⟩,
  .ins ⟨(.c .value), [.const (.func (.func (nat_lit 214)) [] []), .tmp (nat_lit 19), .tmp (nat_lit 21)], (some (nat_lit 22)), none⟩])
 (.seq (.region [
  .ins ⟨(.r (.load true (nat_lit 5))), [.tmp (nat_lit 3)], (some (nat_lit 23)), none⟩,
  .ins ⟨(.l (.store (nat_lit 5))), [.tmp (nat_lit 2), .tmp (nat_lit 23)], none, none⟩])
 .ret)))))⟩

def c144 : Code' := .fn ⟨(nat_lit 32), [.tmp (nat_lit 4)],
 (.seq (.region [
  .ins ⟨(.p .mv), [.const (.int .i64 (.ofNat (nat_lit 0)))], (some (nat_lit 4)), none⟩])
 (.seq (.seq (.region [
  .ins ⟨(.p .mv), [.tmp (nat_lit 0)], (some (nat_lit 5)), none⟩,
  .ins ⟨(.p (.eqnil .ptr false)), [.tmp (nat_lit 5), .const (.ptr none)], (some (nat_lit 6)), none⟩,
  .ins ⟨(.p .mv), [.tmp (nat_lit 6)], (some (nat_lit 7)), none⟩,
  .ins ⟨(.p .mv), [.tmp (nat_lit 1)], (some (nat_lit 8)), (some ((nat_lit 7), false))⟩,
  .ins ⟨(.p (.bini .lss)), [.tmp (nat_lit 8), .const (.int .i64 (.ofNat (nat_lit 0)))], (some (nat_lit 9)), (some ((nat_lit 7), false))⟩,
  .ins ⟨(.p .pick), [.tmp (nat_lit 7), .const (.bool true), .tmp (nat_lit 9)], (some (nat_lit 10)), none⟩,
  .ins ⟨(.p .mv), [.tmp (nat_lit 10)], (some (nat_lit 11)), none⟩,
  .ins ⟨(.p .mv), [.tmp (nat_lit 1)], (some (nat_lit 12)), (some ((nat_lit 11), false))⟩,
  .ins ⟨(.p (.bini .geq)), [.tmp (nat_lit 12), .const (.int .i64 (.ofNat (nat_lit 4294967296)))], (some (nat_lit 13)), (some ((nat_lit 11), false))⟩,
  .ins ⟨(.p .pick), [.tmp (nat_lit 11), .const (.bool true), .tmp (nat_lit 13)], (some (nat_lit 14)), none⟩])
 (.cond (.tmp (nat_lit 14)) (.seq (.region [
  .ins ⟨(.p .mv), [.const (.int .i64 (.ofNat (nat_lit 1)))], (some (nat_lit 4)), none⟩])
 .ret)
 .skip))
 (.seq (.region [
  .ins ⟨(.p .mv), [.tmp (nat_lit 0)], (some (nat_lit 15)), none⟩,
  .ins ⟨(.p .mv), [.tmp (nat_lit 1)], (some (nat_lit 16)), none⟩,
  .ins ⟨(.p .min), [.tmp (nat_lit 16), .const (.int .i64 (.ofNat (nat_lit 4096)))], (some (nat_lit 17)), none⟩,
  .ins ⟨(.p .nilck), [.tmp (nat_lit 15)], (some (nat_lit 18)), none⟩,
  .ins ⟨(.p (.fieldAddr (nat_lit 3))), [.tmp (nat_lit 18)], (some (nat_lit 19)), none⟩,
  .ins ⟨(.l (.store (nat_lit 1))), [.tmp (nat_lit 19), .tmp (nat_lit 17)], none, none⟩])
 (.seq (.region [
  .ins ⟨(.p .mv), [.tmp (nat_lit 0)], (some (nat_lit 20)), none⟩,
  .ins ⟨(.p .mv), [.tmp (nat_lit 0)], (some (nat_lit 21)), none⟩,
  .ins ⟨(.p .nilck), [.tmp (nat_lit 21)], (some (nat_lit 22)), none⟩,
  .ins ⟨(.p (.fieldAddr (nat_lit 2))), [.tmp (nat_lit 22)], (some (nat_lit 23)), none⟩,
  .ins ⟨(.r (.load false (nat_lit 1))), [.tmp (nat_lit 23)], (some (nat_lit 24)), none⟩,
  .ins ⟨(.p .mv), [.tmp (nat_lit 0)], (some (nat_lit 25)), none⟩,
  .ins ⟨(.p .nilck), [.tmp (nat_lit 25)], (some (nat_lit 26)), none⟩,
  .ins ⟨(.p (.fieldAddr (nat_lit 3))), [.tmp (nat_lit 26)], (some (nat_lit 27)), none⟩,
  .ins ⟨(.r (.load false (nat_lit 1))), [.tmp (nat_lit 27)], (some (nat_lit 28)), none⟩,
  .ins ⟨(.p .min), [.tmp (nat_lit 24), .tmp (nat_lit 28)], (some (nat_lit 29)), none⟩,
  .ins ⟨(.p .nilck), [.tmp (nat_lit 20)], (some (nat_lit 30)), none⟩,
  .ins ⟨(.p (.fieldAddr (nat_lit 2))), [.tmp (nat_lit 30)], (some (nat_lit 31)), none⟩,
  .ins ⟨(.l (.store (nat_lit 1))), [.tmp (nat_lit 31), .tmp (nat_lit 29)], none, none⟩])
 (.seq (.region [
  .ins ⟨(.p .mv), [.const (.int .i64 (.ofNat (nat_lit 0)))], (some (nat_lit 4)), none⟩])
 .ret)))))⟩

def c145 : Code' := .fn ⟨(nat_lit 52), [.tmp (nat_lit 6)],
 (.seq (.region [
  .ins ⟨(.p .mv), [.const (.int .i64 (.ofNat (nat_lit 0)))], (some (nat_lit 6)), none⟩])
 (.seq (.seq (.region [
  .ins ⟨(.p .mv), [.tmp (nat_lit 0)], (some (nat_lit 7)), none⟩,
  .ins ⟨(.p (.eqnil .ptr false)), [.tmp (nat_lit 7), .const (.ptr none)], (some (nat_lit 8)), none⟩,
  .ins ⟨(.p .mv), [.tmp (nat_lit 8)], (some (nat_lit 9)), none⟩,
  .ins ⟨(.p .mv), [.tmp (nat_lit 1)], (some (nat_lit 10)), (some ((nat_lit 9), false))⟩,
  .ins ⟨(.c .value), [.const (.func (.func (nat_lit 215)) [] []), .tmp (nat_lit 10)], (some (nat_lit 11)), (some ((nat_lit 9), false))⟩,
  .ins ⟨(.p (.un .not)), [.tmp (nat_lit 11)], (some (nat_lit 12)), (some ((nat_lit 9), false))⟩,
  .ins ⟨(.p .pick), [.tmp (nat_lit 9), .const (.bool true), .tmp (nat_lit 12)], (some (nat_lit 13)), none⟩])
 (.cond (.tmp (nat_lit 13)) (.seq (.region [
  .ins ⟨(.p .mv), [.const (.int .i64 (.ofNat (nat_lit 1)))], (some (nat_lit 6)), none⟩])
 .ret)
 .skip))
 (.seq (.seq (.region [
  .ins ⟨(.p .mv), [.tmp (nat_lit 1)], (some (nat_lit 14)), none⟩])
 (.block (nat_lit 0) (.seq (.region [
  .ins ⟨(.p (.bini .eql)), [.tmp (nat_lit 14), .const (.int .i64 (.ofNat (nat_lit 5)))], (some (nat_lit 16)), none⟩,
  .ins ⟨(.p .mv), [.tmp (nat_lit 16)], (some (nat_lit 15)), none⟩])
 (.cond (.tmp (nat_lit 15)) (.seq (.region [
  .ins ⟨(.p .mv), [.const (.int .i64 (.ofNat (nat_lit 0)))], (some (nat_lit 6)), none⟩])
 .ret)
 (.seq (.seq (.region [
  .ins ⟨(.p (.bini .eql)), [.tmp (nat_lit 14), .const (.int .i64 (.ofNat (nat_lit 1)))], (some (nat_lit 18)), none⟩,
  .ins ⟨(.p .mv), [.tmp (nat_lit 18)], (some (nat_lit 17)), none⟩])
 (.cond (.tmp (nat_lit 17)) .skip
 (.region [
  .ins ⟨(.p (.bini .eql)), [.tmp (nat_lit 14), .const (.int .i64 (.ofNat (nat_lit 2)))], (some (nat_lit 19)), none⟩,
  .ins ⟨(.p .mv), [.tmp (nat_lit 19)], (some (nat_lit 17)), none⟩])))
 (.cond (.tmp (nat_lit 17)) (.seq (.region [
  .ins ⟨(.p .mv), [.tmp (nat_lit 0)], (some (nat_lit 20)), none⟩,
  .ins ⟨(.p .mv), [.tmp (nat_lit 1)], (some (nat_lit 21)), none⟩,
  .ins ⟨(.p .mv), [.tmp (nat_lit 2)], (some (nat_lit 22)), none⟩,
  .ins ⟨(.c .value), [.const (.func (.func (nat_lit 216)) [] []), .tmp (nat_lit 20), .tmp (nat_lit 21), .tmp (nat_lit 22)], (some (nat_lit 23)), none⟩,
  .ins ⟨(.p .mv), [.tmp (nat_lit 23)], (some (nat_lit 6)), none⟩])
 .ret)
 .skip))))))
 (.seq (.block (nat_lit 1) (.seq (.region [
  .ins ⟨(.p .mv), [.tmp (nat_lit 0)], (some (nat_lit 25)), none⟩,
  .ins ⟨(.p .nilck), [.tmp (nat_lit 25)], (some (nat_lit 26)), none⟩,
  .ins ⟨(.p (.fieldAddr (nat_lit 0))), [.tmp (nat_lit 26)], (some (nat_lit 27)), none⟩,
  .ins ⟨(.r (.load false (nat_lit 1))), [.tmp (nat_lit 27)], (some (nat_lit 28)), none⟩,
  .ins ⟨(.p (.bini .eql)), [.tmp (nat_lit 28), .const (.int .i64 (.ofNat (nat_lit 0)))], (some (nat_lit 29)), none⟩,
  .ins ⟨(.p .mv), [.tmp (nat_lit 29)], (some (nat_lit 24)), none⟩])
 (.cond (.tmp (nat_lit 24)) (.seq (.region [
  .ins ⟨(.p .mv), [.const (.int .i64 (.ofNat (nat_lit 8)))], (some (nat_lit 6)), none⟩])
 .ret)
 (.seq (.region [
  .ins ⟨(.p .mv), [.tmp (nat_lit 0)], (some (nat_lit 31)), none⟩,
  .ins ⟨(.p .nilck), [.tmp (nat_lit 31)], (some (nat_lit 32)), none⟩,
  .ins ⟨(.p (.fieldAddr (nat_lit 0))), [.tmp (nat_lit 32)], (some (nat_lit 33)), none⟩,
  .ins ⟨(.r (.load false (nat_lit 1))), [.tmp (nat_lit 33)], (some (nat_lit 34)), none⟩,
  .ins ⟨(.p (.bini .eql)), [.tmp (nat_lit 34), .const (.int .i64 (.ofNat (nat_lit 4)))], (some (nat_lit 35)), none⟩,
  .ins ⟨(.p .mv), [.tmp (nat_lit 35)], (some (nat_lit 36)), none⟩,
  .ins ⟨(.p .mv), [.tmp (nat_lit 1)], (some (nat_lit 37)), (some ((nat_lit 36), true))⟩,
  .ins ⟨(.p (.bini .eql)), [.tmp (nat_lit 37), .const (.int .i64 (.ofNat (nat_lit 4)))], (some (nat_lit 38)), (some ((nat_lit 36), true))⟩,
  .ins ⟨(.p .mv), [.tmp (nat_lit 38)], (some (nat_lit 39)), (some ((nat_lit 36), true))⟩,
  .ins ⟨(.p .mv), [.tmp (nat_lit 0)], (some (nat_lit 40)), (some ((nat_lit 39), false))⟩,
  .ins ⟨(.p .nilck), [.tmp (nat_lit 40)], (some (nat_lit 41)), (some ((nat_lit 39), false))⟩,
  .ins ⟨(.p (.fieldAddr (nat_lit 1))), [.tmp (nat_lit 41)], (some (nat_lit 42)), (some ((nat_lit 39), false))⟩,
  .ins ⟨(.r (.load false (nat_lit 1))), [.tmp (nat_lit 42)], (some (nat_lit 43)), (some ((nat_lit 39), false))⟩,
  .ins ⟨(.p (.bini .neq)), [.tmp (nat_lit 43), .const (.int .i64 (.ofNat (nat_lit 2)))], (some (nat_lit 44)), (some ((nat_lit 39), false))⟩,
  .ins ⟨(.p .pick), [.tmp (nat_lit 39), .const (.bool true), .tmp (nat_lit 44)], (some (nat_lit 45)), (some ((nat_lit 36), true))⟩,
  .ins ⟨(.p .pick), [.tmp (nat_lit 36), .tmp (nat_lit 45), .const (.bool false)], (some (nat_lit 46)), none⟩,
  .ins ⟨(.p .mv), [.tmp (nat_lit 46)], (some (nat_lit 30)), none⟩])
 (.cond (.tmp (nat_lit 30)) (.seq (.region [
  .ins ⟨(.p .mv), [.const (.int .i64 (.ofNat (nat_lit 11)))], (some (nat_lit 6)), none⟩])
 .ret)
 (.seq (.region [
  .ins ⟨(.p .mv), [.tmp (nat_lit 1)], (some (nat_lit 48)), none⟩,
  .ins ⟨(.p (.bini .eql)), [.tmp (nat_lit 48), .const (.int .i64 (.ofNat (nat_lit 3)))], (some (nat_lit 49)), none⟩,
  .ins ⟨(.p .mv), [.tmp (nat_lit 49)], (some (nat_lit 47)), none⟩])
 (.cond (.tmp (nat_lit 47)) (.region [
  .ins ⟨(.p .mv), [.tmp (nat_lit 0)], (some (nat_lit 50)), none⟩,
  .ins ⟨(.c .value), [.const (.func (.func (nat_lit 217)) [] []), .tmp (nat_lit 50), .const (.int .i64 (.ofNat (nat_lit 3)))], (some (nat_lit 51)), none⟩])
 .skip)))))))
 (.seq (.region [
  .ins ⟨(.p .mv), [.const (.int .i64 (.ofNat (nat_lit 0)))], (some (nat_lit 6)), none⟩])
 .ret)))))⟩

def c146 : Code' := .fn ⟨(nat_lit 82), [.tmp (nat_lit 6), .tmp (nat_lit 7)],
 (.seq (.region [
  .ins ⟨(.p .mv), [.const (.int .i64 (.ofNat (nat_lit 0)))], (some (nat_lit 6)), none⟩,
  .ins ⟨(.p .mv), [.const (.int .i64 (.ofNat (nat_lit 0)))], (some (nat_lit 7)), none⟩])
 (.seq (.block (nat_lit 0) (.seq (.region [
  .ins ⟨(.p .mv), [.tmp (nat_lit 0)], (some (nat_lit 9)), none⟩,
  .ins ⟨(.p (.eqnil .ptr false)), [.tmp (nat_lit 9), .const (.ptr none)], (some (nat_lit 10)), none⟩,
  .ins ⟨(.p .mv), [.tmp (nat_lit 10)], (some (nat_lit 8)), none⟩])
 (.cond (.tmp (nat_lit 8)) (.seq (.region [
  .ins ⟨(.p .mv), [.const (.int .i64 (.ofNat (nat_lit 1)))], (some (nat_lit 6)), none⟩,
  .ins ⟨(.p .mv), [.const (.int .i64 (.ofNat (nat_lit 0)))], (some (nat_lit 7)), none⟩])
 .ret)
 (.seq (.region [
  .ins ⟨(.p .mv), [.tmp (nat_lit 1)], (some (nat_lit 12)), none⟩,
  .ins ⟨(.c .value), [.const (.func (.func (nat_lit 215)) [] []), .tmp (nat_lit 12)], (some (nat_lit 13)), none⟩,
  .ins ⟨(.p (.un .not)), [.tmp (nat_lit 13)], (some (nat_lit 14)), none⟩,
  .ins ⟨(.p .mv), [.tmp (nat_lit 14)], (some (nat_lit 11)), none⟩])
 (.cond (.tmp (nat_lit 11)) (.seq (.region [
  .ins ⟨(.p .mv), [.const (.int .i64 (.ofNat (nat_lit 3)))], (some (nat_lit 6)), none⟩,
  .ins ⟨(.p .mv), [.const (.int .i64 (.ofNat (nat_lit 1)))], (some (nat_lit 7)), none⟩])
 .ret)
 (.seq (.region [
  .ins ⟨(.p .mv), [.tmp (nat_lit 0)], (some (nat_lit 16)), none⟩,
  .ins ⟨(.p .nilck), [.tmp (nat_lit 16)], (some (nat_lit 17)), none⟩,
  .ins ⟨(.p (.fieldAddr (nat_lit 0))), [.tmp (nat_lit 17)], (some (nat_lit 18)), none⟩,
  .ins ⟨(.r (.load false (nat_lit 1))), [.tmp (nat_lit 18)], (some (nat_lit 19)), none⟩,
  .ins ⟨(.p (.bini .eql)), [.tmp (nat_lit 19), .const (.int .i64 (.ofNat (nat_lit 4)))], (some (nat_lit 20)), none⟩,
  .ins ⟨(.p .mv), [.tmp (nat_lit 20)], (some (nat_lit 15)), none⟩])
 (.cond (.tmp (nat_lit 15)) (.seq (.region [
  .ins ⟨(.p .mv), [.tmp (nat_lit 0)], (some (nat_lit 21)), none⟩,
  .ins ⟨(.p .mv), [.tmp (nat_lit 1)], (some (nat_lit 22)), none⟩,
  .ins ⟨(.c .value), [.const (.func (.func (nat_lit 218)) [] []), .tmp (nat_lit 21), .tmp (nat_lit 22)], (some (nat_lit 23)), none⟩,
  .ins ⟨(.p (.extract (nat_lit 0))), [.tmp (nat_lit 23)], (some (nat_lit 24)), none⟩,
  .ins ⟨(.p (.extract (nat_lit 1))), [.tmp (nat_lit 23)], (some (nat_lit 25)), none⟩,
  .ins ⟨(.p .mv), [.tmp (nat_lit 24)], (some (nat_lit 6)), none⟩,
  .ins ⟨(.p .mv), [.tmp (nat_lit 25)], (some (nat_lit 7)), none⟩])
 .ret)
 (.seq (.region [
  .ins ⟨(.p .mv), [.tmp (nat_lit 1)], (some (nat_lit 27)), none⟩,
  .ins ⟨(.p (.bini .eql)), [.tmp (nat_lit 27), .const (.int .i64 (.ofNat (nat_lit 5)))], (some (nat_lit 28)), none⟩,
  .ins ⟨(.p .mv), [.tmp (nat_lit 28)], (some (nat_lit 26)), none⟩])
 (.cond (.tmp (nat_lit 26)) (.seq (.region [
  .ins ⟨(.p .mv), [.const (.int .i64 (.ofNat (nat_lit 0)))], (some (nat_lit 6)), none⟩,
  .ins ⟨(.p .mv), [.const (.int .i64 (.ofNat (nat_lit 0)))], (some (nat_lit 7)), none⟩])
 .ret)
 (.seq (.region [
  .ins ⟨(.p .mv), [.tmp (nat_lit 0)], (some (nat_lit 30)), none⟩,
  .ins ⟨(.p .nilck), [.tmp (nat_lit 30)], (some (nat_lit 31)), none⟩,
  .ins ⟨(.p (.fieldAddr (nat_lit 0))), [.tmp (nat_lit 31)], (some (nat_lit 32)), none⟩,
  .ins ⟨(.r (.load false (nat_lit 1))), [.tmp (nat_lit 32)], (some (nat_lit 33)), none⟩,
  .ins ⟨(.p (.bini .eql)), [.tmp (nat_lit 33), .const (.int .i64 (.ofNat (nat_lit 0)))], (some (nat_lit 34)), none⟩,
  .ins ⟨(.p .mv), [.tmp (nat_lit 34)], (some (nat_lit 35)), none⟩,
  .ins ⟨(.p .mv), [.tmp (nat_lit 1)], (some (nat_lit 36)), (some ((nat_lit 35), true))⟩,
  .ins ⟨(.p (.bini .neq)), [.tmp (nat_lit 36), .const (.int .i64 (.ofNat (nat_lit 1)))], (some (nat_lit 37)), (some ((nat_lit 35), true))⟩,
  .ins ⟨(.p .pick), [.tmp (nat_lit 35), .tmp (nat_lit 37), .const (.bool false)], (some (nat_lit 38)), none⟩,
  .ins ⟨(.p .mv), [.tmp (nat_lit 38)], (some (nat_lit 29)), none⟩])
 (.cond (.tmp (nat_lit 29)) (.seq (.region [
  .ins ⟨(.p .mv), [.const (.int .i64 (.ofNat (nat_lit 3)))], (some (nat_lit 6)), none⟩,
  .ins ⟨(.p .mv), [.const (.int .i64 (.ofNat (nat_lit 1)))], (some (nat_lit 7)), none⟩])
 .ret)
 (.seq (.region [
  .ins ⟨(.p .mv), [.tmp (nat_lit 1)], (some (nat_lit 40)), none⟩,
  .ins ⟨(.p (.bini .eql)), [.tmp (nat_lit 40), .const (.int .i64 (.ofNat (nat_lit 3)))], (some (nat_lit 41)), none⟩,
  .ins ⟨(.p .mv), [.tmp (nat_lit 41)], (some (nat_lit 39)), none⟩])
 (.cond (.tmp (nat_lit 39)) (.seq (.region [
  .ins ⟨(.p .mv), [.tmp (nat_lit 0)], (some (nat_lit 42)), none⟩,
  .ins ⟨(.c .value), [.const (.func (.func (nat_lit 217)) [] []), .tmp (nat_lit 42), .const (.int .i64 (.ofNat (nat_lit 2)))], (some (nat_lit 43)), none⟩])
 (.seq (.region [
  .ins ⟨(.p .mv), [.const (.int .i64 (.ofNat (nat_lit 0)))], (some (nat_lit 6)), none⟩,
  .ins ⟨(.p .mv), [.const (.int .i64 (.ofNat (nat_lit 0)))], (some (nat_lit 7)), none⟩])
 .ret))
 (.seq (.region [
  .ins ⟨(.p .mv), [.tmp (nat_lit 1)], (some (nat_lit 45)), none⟩,
  .ins ⟨(.p (.bini .eql)), [.tmp (nat_lit 45), .const (.int .i64 (.ofNat (nat_lit 4)))], (some (nat_lit 46)), none⟩,
  .ins ⟨(.p .mv), [.tmp (nat_lit 46)], (some (nat_lit 44)), none⟩])
 (.cond (.tmp (nat_lit 44)) (.seq (.region [
  .ins ⟨(.p .mv), [.const (.int .i64 (.ofNat (nat_lit 0)))], (some (nat_lit 6)), none⟩,
  .ins ⟨(.p .mv), [.const (.int .i64 (.ofNat (nat_lit 0)))], (some (nat_lit 7)), none⟩])
 .ret)
 (.seq (.region [
  .ins ⟨(.p .mv), [.tmp (nat_lit 0)], (some (nat_lit 48)), none⟩,
  .ins ⟨(.p .nilck), [.tmp (nat_lit 48)], (some (nat_lit 49)), none⟩,
  .ins ⟨(.p (.fieldAddr (nat_lit 0))), [.tmp (nat_lit 49)], (some (nat_lit 50)), none⟩,
  .ins ⟨(.r (.load false (nat_lit 1))), [.tmp (nat_lit 50)], (some (nat_lit 51)), none⟩,
  .ins ⟨(.p (.bini .eql)), [.tmp (nat_lit 51), .const (.int .i64 (.ofNat (nat_lit 3)))], (some (nat_lit 52)), none⟩,
  .ins ⟨(.p .mv), [.tmp (nat_lit 52)], (some (nat_lit 47)), none⟩])
 (.cond (.tmp (nat_lit 47)) (.seq (.region [
  .ins ⟨(.p .mv), [.const (.int .i64 (.ofNat (nat_lit 2)))], (some (nat_lit 6)), none⟩,
  .ins ⟨(.p .mv), [.const (.int .i64 (.ofNat (nat_lit 5)))], (some (nat_lit 7)), none⟩])
 .ret)
 .skip)))))))))))))))))
 (.seq (.block (nat_lit 1) (.seq (.region [
  .ins ⟨(.p .mv), [.tmp (nat_lit 0)], (some (nat_lit 54)), none⟩,
  .ins ⟨(.p .nilck), [.tmp (nat_lit 54)], (some (nat_lit 55)), none⟩,
  .ins ⟨(.p (.fieldAddr (nat_lit 0))), [.tmp (nat_lit 55)], (some (nat_lit 56)), none⟩,
  .ins ⟨(.r (.load false (nat_lit 1))), [.tmp (nat_lit 56)], (some (nat_lit 57)), none⟩,
  .ins ⟨(.p (.bini .eql)), [.tmp (nat_lit 57), .const (.int .i64 (.ofNat (nat_lit 0)))], (some (nat_lit 58)), none⟩,
  .ins ⟨(.p .mv), [.tmp (nat_lit 58)], (some (nat_lit 59)), none⟩,
  .ins ⟨(.p .mv), [.tmp (nat_lit 2)], (some (nat_lit 60)), (some ((nat_lit 59), true))⟩,
  .ins ⟨(.p (.un .not)), [.tmp (nat_lit 60)], (some (nat_lit 61)), (some ((nat_lit 59), true))⟩,
  .ins ⟨(.p .pick), [.tmp (nat_lit 59), .tmp (nat_lit 61), .const (.bool false)], (some (nat_lit 62)), none⟩,
  .ins ⟨(.p .mv), [.tmp (nat_lit 62)], (some (nat_lit 53)), none⟩])
 (.cond (.tmp (nat_lit 53)) (.region [
  .ins ⟨(.p .mv), [.tmp (nat_lit 0)], (some (nat_lit 63)), none⟩,
  .ins ⟨(.p .nilck), [.tmp (nat_lit 63)], (some (nat_lit 64)), none⟩,
  .ins ⟨(.p (.fieldAddr (nat_lit 0))), [.tmp (nat_lit 64)], (some (nat_lit 65)), none⟩,
  .ins ⟨(.l (.store (nat_lit 1))), [.tmp (nat_lit 65), .const (.int .i64 (.ofNat (nat_lit 1)))], none, none⟩])
 (.seq (.region [
  .ins ⟨(.p .mv), [.tmp (nat_lit 0)], (some (nat_lit 67)), none⟩,
  .ins ⟨(.p .nilck), [.tmp (nat_lit 67)], (some (nat_lit 68)), none⟩,
  .ins ⟨(.p (.fieldAddr (nat_lit 0))), [.tmp (nat_lit 68)], (some (nat_lit 69)), none⟩,
  .ins ⟨(.r (.load false (nat_lit 1))), [.tmp (nat_lit 69)], (some (nat_lit 70)), none⟩,
  .ins ⟨(.p (.bini .eql)), [.tmp (nat_lit 70), .const (.int .i64 (.ofNat (nat_lit 2)))], (some (nat_lit 71)), none⟩,
  .ins ⟨(.p .mv), [.tmp (nat_lit 71)], (some (nat_lit 72)), none⟩,
  .ins ⟨(.p .mv), [.tmp (nat_lit 2)], (some (nat_lit 73)), (some ((nat_lit 72), true))⟩,
  .ins ⟨(.p .pick), [.tmp (nat_lit 72), .tmp (nat_lit 73), .const (.bool false)], (some (nat_lit 74)), none⟩,
  .ins ⟨(.p .mv), [.tmp (nat_lit 74)], (some (nat_lit 66)), none⟩])
 (.cond (.tmp (nat_lit 66)) (.region [
  .ins ⟨(.p .mv), [.tmp (nat_lit 0)], (some (nat_lit 75)), none⟩,
  .ins ⟨(.c .value), [.const (.func (.func (nat_lit 217)) [] []), .tmp (nat_lit 75), .const (.int .i64 (.ofNat (nat_lit 1)))], (some (nat_lit 76)), none⟩])
 (.seq (.region [
  .ins ⟨(.p .mv), [.tmp (nat_lit 2)], (some (nat_lit 78)), none⟩,
  .ins ⟨(.p .mv), [.tmp (nat_lit 78)], (some (nat_lit 77)), none⟩])
 (.cond (.tmp (nat_lit 77)) (.region [
  .ins ⟨(.p .mv), [.tmp (nat_lit 0)], (some (nat_lit 79)), none⟩,
  .ins ⟨(.p .nilck), [.tmp (nat_lit 79)], (some (nat_lit 80)), none⟩,
  .ins ⟨(.p (.fieldAddr (nat_lit 0))), [.tmp (nat_lit 80)], (some (nat_lit 81)), none⟩,
  .ins ⟨(.l (.store (nat_lit 1))), [.tmp (nat_lit 81), .const (.int .i64 (.ofNat (nat_lit 3)))], none, none⟩])
 .skip)))))))
 (.seq (.region [
  .ins ⟨(.p .mv), [.const (.int .i64 (.ofNat (nat_lit 0)))], (some (nat_lit 6)), none⟩,
  .ins ⟨(.p .mv), [.const (.int .i64 (.ofNat (nat_lit 0)))], (some (nat_lit 7)), none⟩])
 .ret))))⟩

def c147 : Code' := .fn ⟨(nat_lit 21), [],
 (.seq (.region [
  .ins ⟨(.r (.load false (nat_lit 1))), [.tmp (nat_lit 1)], (some (nat_lit 6)), none⟩,
  .ins ⟨(.c .value), [.const (.func (.func (nat_lit 148)) [] []), .tmp (nat_lit 6)], (some (nat_lit 7)), none⟩,
  .ins ⟨(.p .mv), [.tmp (nat_lit 7)], (some (nat_lit 5)), none⟩,
  .ins ⟨(.p (.extract (nat_lit 0))), [.tmp (nat_lit 5)], (some (nat_lit 8)), none⟩,
  .ins ⟨(.p (.extract (nat_lit 1))), [.tmp (nat_lit 5)], (some (nat_lit 9)), none⟩,
  .ins ⟨(.a (.alloc [(.int .i64 (.ofNat (nat_lit 0))), (.int .i64 (.ofNat (nat_lit 0))), (.int .i64 (.ofNat (nat_lit 0))), (.slice none (nat_lit 0) (nat_lit 0) (nat_lit 0))])), [], (some (nat_lit 3)), none⟩,
  .ins ⟨(.l (.store (nat_lit 4))), [.tmp (nat_lit 3), .tmp (nat_lit 8)], none, none⟩,
  .ins ⟨(.p .mv), [.tmp (nat_lit 9)], (some (nat_lit 4)), none⟩])
 (.block (nat_lit 0) (.loop (.seq (.seq (.region [
  .ins ⟨(.p .mv), [.tmp (nat_lit 4)], (some (nat_lit 10)), none⟩])
 (.cond (.tmp (nat_lit 10)) .skip
 (.exit (nat_lit 0))))
 (.seq (.block (nat_lit 1) (.seq (.region [
  .ins ⟨(.p .mv), [.tmp (nat_lit 0)], (some (nat_lit 16)), none⟩,
  .ins ⟨(.r (.load true (nat_lit 4))), [.tmp (nat_lit 3)], (some (nat_lit 17)), none⟩,
  .ins ⟨(.c .value), [.tmp (nat_lit 16), .tmp (nat_lit 17)], (some (nat_lit 18)), none⟩,
  .ins ⟨(.p (.un .not)), [.tmp (nat_lit 18)], (some (nat_lit 19)), none⟩])
 (.cond (.tmp (nat_lit 19)) .ret
 .skip)))
 (.seq (.seq (.region [
  .ins ⟨(.r (.load true (nat_lit 4))), [.tmp (nat_lit 3)], (some (nat_lit 20)), none⟩])
 (.region [
  .ins ⟨(.a (.alloc [(.int .i64 (.ofNat (nat_lit 0))), (.int .i64 (.ofNat (nat_lit 0))), (.int .i64 (.ofNat (nat_lit 0))), (.slice none (nat_lit 0) (nat_lit 0) (nat_lit 0))])), [], (some (nat_lit 3)), none⟩,
  .ins ⟨(.l (.store (nat_lit 4))), [.tmp (nat_lit 3), .tmp (nat_lit 20)], none, none⟩]))
 (.region [
  .ins ⟨(.r (.load false (nat_lit 1))), [.tmp (nat_lit 1)], (some (nat_lit 12)), none⟩,
  .ins ⟨(.c .value), [.const (.func (.func (nat_lit 148)) [] []), .tmp (nat_lit 12)], (some (nat_lit 13)), none⟩,
  .ins ⟨(.p .mv), [.tmp (nat_lit 13)], (some (nat_lit 11)), none⟩,
  .ins ⟨(.p (.extract (nat_lit 0))), [.tmp (nat_lit 11)], (some (nat_lit 14)), none⟩,
  .ins ⟨(.p (.extract (nat_lit 1))), [.tmp (nat_lit 11)], (some (nat_lit 15)), none⟩,
  .ins ⟨(.l (.store (nat_lit 4))), [.tmp (nat_lit 3), .tmp (nat_lit 14)], none, none⟩,
  .ins ⟨(.p .mv), [.tmp (nat_lit 15)], (some (nat_lit 4)), none⟩])))))))⟩

def c148 : Code' := .fn ⟨(nat_lit 120), [.cell (nat_lit 2) true (nat_lit 4), .tmp (nat_lit 3)],
 (.seq (.region [
  .ins ⟨(.a (.alloc [(.int .i64 (.ofNat (nat_lit 0))), (.int .i64 (.ofNat (nat_lit 0))), (.int .i64 (.ofNat (nat_lit 0))), (.slice none (nat_lit 0) (nat_lit 0) (nat_lit 0))])), [], (some (nat_lit 2)), none⟩,
  .ins ⟨(.p .mv), [.const (.bool false)], (some (nat_lit 3)), none⟩])
 (.seq (.seq (.region [
  .ins ⟨(.p .mv), [.tmp (nat_lit 0)], (some (nat_lit 8)), none⟩,
  .ins ⟨(.p (.eqnil .ptr false)), [.tmp (nat_lit 8), .const (.ptr none)], (some (nat_lit 9)), none⟩,
  .ins ⟨(.p .mv), [.tmp (nat_lit 9)], (some (nat_lit 10)), none⟩,
  .ins ⟨(.p .mv), [.tmp (nat_lit 0)], (some (nat_lit 11)), (some ((nat_lit 10), false))⟩,
  .ins ⟨(.p .nilck), [.tmp (nat_lit 11)], (some (nat_lit 12)), (some ((nat_lit 10), false))⟩,
  .ins ⟨(.p (.fieldAddr (nat_lit 3))), [.tmp (nat_lit 12)], (some (nat_lit 13)), (some ((nat_lit 10), false))⟩,
  .ins ⟨(.r (.load false (nat_lit 1))), [.tmp (nat_lit 13)], (some (nat_lit 14)), (some ((nat_lit 10), false))⟩,
  .ins ⟨(.p (.bini .neq)), [.tmp (nat_lit 14), .const (.int .i64 (.ofNat (nat_lit 0)))], (some (nat_lit 15)), (some ((nat_lit 10), false))⟩,
  .ins ⟨(.p .pick), [.tmp (nat_lit 10), .const (.bool true), .tmp (nat_lit 15)], (some (nat_lit 16)), none⟩])
 (.cond (.tmp (nat_lit 16)) (.seq (.region [
  .ins ⟨(.p (.build [(.int .i64 (.ofNat (nat_lit 0))), (.int .i64 (.ofNat (nat_lit 0))), (.int .i64 (.ofNat (nat_lit 0))), (.slice none (nat_lit 0) (nat_lit 0) (nat_lit 0))] [])), [], (some (nat_lit 17)), none⟩,
  .ins ⟨(.l (.store (nat_lit 4))), [.tmp (nat_lit 2), .tmp (nat_lit 17)], none, none⟩,
  .ins ⟨(.p .mv), [.const (.bool false)], (some (nat_lit 3)), none⟩])
 .ret)
 .skip))
 (.seq (.seq (.region [
  .ins ⟨(.p .mv), [.tmp (nat_lit 0)], (some (nat_lit 18)), none⟩,
  .ins ⟨(.p .nilck), [.tmp (nat_lit 18)], (some (nat_lit 19)), none⟩,
  .ins ⟨(.p (.fieldAddr (nat_lit 0))), [.tmp (nat_lit 19)], (some (nat_lit 20)), none⟩,
  .ins ⟨(.r (.load false (nat_lit 1))), [.tmp (nat_lit 20)], (some (nat_lit 21)), none⟩])
 (.cond (.tmp (nat_lit 21)) (.seq (.region [
  .ins ⟨(.p .mv), [.tmp (nat_lit 0)], (some (nat_lit 22)), none⟩,
  .ins ⟨(.p .nilck), [.tmp (nat_lit 22)], (some (nat_lit 23)), none⟩,
  .ins ⟨(.p (.fieldAddr (nat_lit 2))), [.tmp (nat_lit 23)], (some (nat_lit 24)), none⟩,
  .ins ⟨(.r (.load false (nat_lit 1))), [.tmp (nat_lit 24)], (some (nat_lit 25)), none⟩,
  .ins ⟨(.p .lenSl), [.tmp (nat_lit 25)], (some (nat_lit 26)), none⟩,
  .ins ⟨(.p .min), [.tmp (nat_lit 26), .const (.int .i64 (.ofNat (nat_lit 24)))], (some (nat_lit 27)), none⟩,
  .ins ⟨(.p .mv), [.tmp (nat_lit 27)], (some (nat_lit 4)), none⟩])
 (.seq (.seq (.region [
  .ins ⟨(.p .mv), [.tmp (nat_lit 0)], (some (nat_lit 28)), none⟩,
  .ins ⟨(.p .nilck), [.tmp (nat_lit 28)], (some (nat_lit 29)), none⟩,
  .ins ⟨(.p (.fieldAddr (nat_lit 2))), [.tmp (nat_lit 29)], (some (nat_lit 30)), none⟩,
  .ins ⟨(.r (.load false (nat_lit 1))), [.tmp (nat_lit 30)], (some (nat_lit 31)), none⟩,
  .ins ⟨(.p .mv), [.tmp (nat_lit 4)], (some (nat_lit 32)), none⟩,
  .ins ⟨(.p (.slice (nat_lit 1) false true)), [.tmp (nat_lit 31), .tmp (nat_lit 32)], (some (nat_lit 33)), none⟩,
  .ins ⟨(.r .bytesToStr), [.tmp (nat_lit 33)], (some (nat_lit 34)), none⟩,
  .ins ⟨(.p .mv), [.tmp (nat_lit 4)], (some (nat_lit 35)), none⟩,
  .ins ⟨(.p (.sliceStr false true)), [.const (.str (bs [(nat_lit 80), (nat_lit 82), (nat_lit 73), (nat_lit 32), (nat_lit 42), (nat_lit 32), (nat_lit 72), (nat_lit 84), (nat_lit 84), (nat_lit 80), (nat_lit 47), (nat_lit 50), (nat_lit 46), (nat_lit 48), (nat_lit 13), (nat_lit 10), (nat_lit 13), (nat_lit 10), (nat_lit 83), (nat_lit 77), (nat_lit 13), (nat_lit 10), (nat_lit 13), (nat_lit 10)])), .tmp (nat_lit 35)], (some (nat_lit 36)), none⟩,
  .ins ⟨(.p (.bins .neq)), [.tmp (nat_lit 34), .tmp (nat_lit 36)], (some (nat_lit 37)), none⟩])
 (.cond (.tmp (nat_lit 37)) (.seq (.region [
  .ins ⟨(.p .mv), [.tmp (nat_lit 0)], (some (nat_lit 38)), none⟩,
  .ins ⟨(.c .value), [.const (.func (.func (nat_lit 219)) [] []), .tmp (nat_lit 38), .const (.int .i64 (.ofNat (nat_lit 1)))], (some (nat_lit 39)), none⟩,
  .ins ⟨(.p (.extract (nat_lit 0))), [.tmp (nat_lit 39)], (some (nat_lit 40)), none⟩,
  .ins ⟨(.p (.extract (nat_lit 1))), [.tmp (nat_lit 39)], (some (nat_lit 41)), none⟩,
  .ins ⟨(.l (.store (nat_lit 4))), [.tmp (nat_lit 2), .tmp (nat_lit 40)], none, none⟩,
  .ins ⟨(.p .mv), [.tmp (nat_lit 41)], (some (nat_lit 3)), none⟩])
 .ret)
 .skip))
 (.seq (.seq (.region [
  .ins ⟨(.p .mv), [.tmp (nat_lit 4)], (some (nat_lit 42)), none⟩,
  .ins ⟨(.p (.bini .lss)), [.tmp (nat_lit 42), .const (.int .i64 (.ofNat (nat_lit 24)))], (some (nat_lit 43)), none⟩])
 (.cond (.tmp (nat_lit 43)) (.seq (.region [
  .ins ⟨(.p (.build [(.int .i64 (.ofNat (nat_lit 0))), (.int .i64 (.ofNat (nat_lit 0))), (.int .i64 (.ofNat (nat_lit 0))), (.slice none (nat_lit 0) (nat_lit 0) (nat_lit 0))] [])), [], (some (nat_lit 44)), none⟩,
  .ins ⟨(.l (.store (nat_lit 4))), [.tmp (nat_lit 2), .tmp (nat_lit 44)], none, none⟩,
  .ins ⟨(.p .mv), [.const (.bool false)], (some (nat_lit 3)), none⟩])
 .ret)
 .skip))
 (.region [
  .ins ⟨(.p .mv), [.tmp (nat_lit 0)], (some (nat_lit 45)), none⟩,
  .ins ⟨(.p .mv), [.tmp (nat_lit 0)], (some (nat_lit 46)), none⟩,
  .ins ⟨(.p .mv), [.tmp (nat_lit 0)], (some (nat_lit 47)), none⟩,
  .ins ⟨(.p .nilck), [.tmp (nat_lit 47)], (some (nat_lit 48)), none⟩,
  .ins ⟨(.p (.fieldAddr (nat_lit 2))), [.tmp (nat_lit 48)], (some (nat_lit 49)), none⟩,
  .ins ⟨(.r (.load false (nat_lit 1))), [.tmp (nat_lit 49)], (some (nat_lit 50)), none⟩,
  .ins ⟨(.p .mv), [.tmp (nat_lit 4)], (some (nat_lit 51)), none⟩,
  .ins ⟨(.p (.slice (nat_lit 1) true false)), [.tmp (nat_lit 50), .tmp (nat_lit 51)], (some (nat_lit 52)), none⟩,
  .ins ⟨(.p .nilck), [.tmp (nat_lit 45)], (some (nat_lit 53)), none⟩,
  .ins ⟨(.p (.fieldAddr (nat_lit 0))), [.tmp (nat_lit 53)], (some (nat_lit 54)), none⟩,
  .ins ⟨(.l (.store (nat_lit 1))), [.tmp (nat_lit 54), .const (.bool false)], none, none⟩,
  .ins ⟨(.p .nilck), [.tmp (nat_lit 46)], (some (nat_lit 55)), none⟩,
  .ins ⟨(.p (.fieldAddr (nat_lit 2))), [.tmp (nat_lit 55)], (some (nat_lit 56)), none⟩,
  .ins ⟨(.l (.store (nat_lit 1))), [.tmp (nat_lit 56), .tmp (nat_lit 52)], none, none⟩]))))
 .skip))
 (.seq (.region [
  .ins ⟨(.p .mv), [.tmp (nat_lit 0)], (some (nat_lit 58)), none⟩,
  .ins ⟨(.p .nilck), [.tmp (nat_lit 58)], (some (nat_lit 59)), none⟩,
  .ins ⟨(.p (.fieldAddr (nat_lit 2))), [.tmp (nat_lit 59)], (some (nat_lit 60)), none⟩,
  .ins ⟨(.r (.load false (nat_lit 1))), [.tmp (nat_lit 60)], (some (nat_lit 61)), none⟩,
  .ins ⟨(.c .value), [.const (.func (.func (nat_lit 220)) [] []), .tmp (nat_lit 61)], (some (nat_lit 62)), none⟩,
  .ins ⟨(.p .mv), [.tmp (nat_lit 62)], (some (nat_lit 57)), none⟩,
  .ins ⟨(.p (.extract (nat_lit 0))), [.tmp (nat_lit 57)], (some (nat_lit 63)), none⟩,
  .ins ⟨(.p (.extract (nat_lit 1))), [.tmp (nat_lit 57)], (some (nat_lit 64)), none⟩,
  .ins ⟨(.p (.extract (nat_lit 2))), [.tmp (nat_lit 57)], (some (nat_lit 65)), none⟩,
  .ins ⟨(.a (.alloc [(.int .i64 (.ofNat (nat_lit 0))), (.int .i64 (.ofNat (nat_lit 0))), (.int .i64 (.ofNat (nat_lit 0))), (.slice none (nat_lit 0) (nat_lit 0) (nat_lit 0))])), [], (some (nat_lit 5)), none⟩,
  .ins ⟨(.l (.store (nat_lit 4))), [.tmp (nat_lit 5), .tmp (nat_lit 63)], none, none⟩,
  .ins ⟨(.p .mv), [.tmp (nat_lit 64)], (some (nat_lit 6)), none⟩,
  .ins ⟨(.p .mv), [.tmp (nat_lit 65)], (some (nat_lit 7)), none⟩])
 (.seq (.block (nat_lit 0) (.seq (.region [
  .ins ⟨(.p .mv), [.tmp (nat_lit 7)], (some (nat_lit 67)), none⟩,
  .ins ⟨(.p (.bini .neq)), [.tmp (nat_lit 67), .const (.int .i64 (.ofNat (nat_lit 0)))], (some (nat_lit 68)), none⟩,
  .ins ⟨(.p .mv), [.tmp (nat_lit 68)], (some (nat_lit 66)), none⟩])
 (.cond (.tmp (nat_lit 66)) (.seq (.region [
  .ins ⟨(.p (.build [(.int .i64 (.ofNat (nat_lit 0))), (.int .i64 (.ofNat (nat_lit 0))), (.int .i64 (.ofNat (nat_lit 0))), (.slice none (nat_lit 0) (nat_lit 0) (nat_lit 0))] [])), [], (some (nat_lit 69)), none⟩,
  .ins ⟨(.l (.store (nat_lit 4))), [.tmp (nat_lit 2), .tmp (nat_lit 69)], none, none⟩,
  .ins ⟨(.p .mv), [.const (.bool false)], (some (nat_lit 3)), none⟩])
 .ret)
 (.seq (.region [
  .ins ⟨(.p .mv), [.tmp (nat_lit 6)], (some (nat_lit 71)), none⟩,
  .ins ⟨(.p .mv), [.tmp (nat_lit 0)], (some (nat_lit 72)), none⟩,
  .ins ⟨(.p .nilck), [.tmp (nat_lit 72)], (some (nat_lit 73)), none⟩,
  .ins ⟨(.p (.fieldAddr (nat_lit 1))), [.tmp (nat_lit 73)], (some (nat_lit 74)), none⟩,
  .ins ⟨(.r (.load false (nat_lit 1))), [.tmp (nat_lit 74)], (some (nat_lit 75)), none⟩,
  .ins ⟨(.p (.bini .gtr)), [.tmp (nat_lit 71), .tmp (nat_lit 75)], (some (nat_lit 76)), none⟩,
  .ins ⟨(.p .mv), [.tmp (nat_lit 76)], (some (nat_lit 70)), none⟩])
 (.cond (.tmp (nat_lit 70)) (.seq (.region [
  .ins ⟨(.p .mv), [.tmp (nat_lit 0)], (some (nat_lit 77)), none⟩,
  .ins ⟨(.c .value), [.const (.func (.func (nat_lit 219)) [] []), .tmp (nat_lit 77), .const (.int .i64 (.ofNat (nat_lit 6)))], (some (nat_lit 78)), none⟩,
  .ins ⟨(.p (.extract (nat_lit 0))), [.tmp (nat_lit 78)], (some (nat_lit 79)), none⟩,
  .ins ⟨(.p (.extract (nat_lit 1))), [.tmp (nat_lit 78)], (some (nat_lit 80)), none⟩,
  .ins ⟨(.l (.store (nat_lit 4))), [.tmp (nat_lit 2), .tmp (nat_lit 79)], none, none⟩,
  .ins ⟨(.p .mv), [.tmp (nat_lit 80)], (some (nat_lit 3)), none⟩])
 .ret)
 (.seq (.region [
  .ins ⟨(.p .mv), [.tmp (nat_lit 0)], (some (nat_lit 82)), none⟩,
  .ins ⟨(.p .nilck), [.tmp (nat_lit 82)], (some (nat_lit 83)), none⟩,
  .ins ⟨(.p (.fieldAddr (nat_lit 2))), [.tmp (nat_lit 83)], (some (nat_lit 84)), none⟩,
  .ins ⟨(.r (.load false (nat_lit 1))), [.tmp (nat_lit 84)], (some (nat_lit 85)), none⟩,
  .ins ⟨(.p .lenSl), [.tmp (nat_lit 85)], (some (nat_lit 86)), none⟩,
  .ins ⟨(.p .mv), [.tmp (nat_lit 6)], (some (nat_lit 87)), none⟩,
  .ins ⟨(.p (.bini .add)), [.const (.int .i64 (.ofNat (nat_lit 9))), .tmp (nat_lit 87)], (some (nat_lit 88)), none⟩,
  .ins ⟨(.p (.bini .lss)), [.tmp (nat_lit 86), .tmp (nat_lit 88)], (some (nat_lit 89)), none⟩,
  .ins ⟨(.p .mv), [.tmp (nat_lit 89)], (some (nat_lit 81)), none⟩])
 (.cond (.tmp (nat_lit 81)) (.seq (.region [
  .ins ⟨(.p (.build [(.int .i64 (.ofNat (nat_lit 0))), (.int .i64 (.ofNat (nat_lit 0))), (.int .i64 (.ofNat (nat_lit 0))), (.slice none (nat_lit 0) (nat_lit 0) (nat_lit 0))] [])), [], (some (nat_lit 90)), none⟩,
  .ins ⟨(.l (.store (nat_lit 4))), [.tmp (nat_lit 2), .tmp (nat_lit 90)], none, none⟩,
  .ins ⟨(.p .mv), [.const (.bool false)], (some (nat_lit 3)), none⟩])
 .ret)
 .skip)))))))
 (.seq (.region [
  .ins ⟨(.p .mv), [.tmp (nat_lit 0)], (some (nat_lit 91)), none⟩,
  .ins ⟨(.p .nilck), [.tmp (nat_lit 91)], (some (nat_lit 92)), none⟩,
  .ins ⟨(.p (.fieldAddr (nat_lit 2))), [.tmp (nat_lit 92)], (some (nat_lit 93)), none⟩,
  .ins ⟨(.r (.load false (nat_lit 1))), [.tmp (nat_lit 93)], (some (nat_lit 94)), none⟩,
  .ins ⟨(.p .mv), [.tmp (nat_lit 6)], (some (nat_lit 95)), none⟩,
  .ins ⟨(.p (.bini .add)), [.const (.int .i64 (.ofNat (nat_lit 9))), .tmp (nat_lit 95)], (some (nat_lit 96)), none⟩,
  .ins ⟨(.p (.slice (nat_lit 1) true true)), [.tmp (nat_lit 94), .const (.int .i64 (.ofNat (nat_lit 9))), .tmp (nat_lit 96)], (some (nat_lit 97)), none⟩,
  .ins ⟨(.c .value), [.const (.func (.func (nat_lit 45)) [] []), .tmp (nat_lit 97)], (some (nat_lit 98)), none⟩,
  .ins ⟨(.p (.fieldAddr (nat_lit 3))), [.tmp (nat_lit 5)], (some (nat_lit 99)), none⟩,
  .ins ⟨(.l (.store (nat_lit 1))), [.tmp (nat_lit 99), .tmp (nat_lit 98)], none, none⟩])
 (.seq (.region [
  .ins ⟨(.p .mv), [.tmp (nat_lit 0)], (some (nat_lit 100)), none⟩,
  .ins ⟨(.p .mv), [.tmp (nat_lit 0)], (some (nat_lit 101)), none⟩,
  .ins ⟨(.p .nilck), [.tmp (nat_lit 101)], (some (nat_lit 102)), none⟩,
  .ins ⟨(.p (.fieldAddr (nat_lit 2))), [.tmp (nat_lit 102)], (some (nat_lit 103)), none⟩,
  .ins ⟨(.r (.load false (nat_lit 1))), [.tmp (nat_lit 103)], (some (nat_lit 104)), none⟩,
  .ins ⟨(.p .mv), [.tmp (nat_lit 6)], (some (nat_lit 105)), none⟩,
  .ins ⟨(.p (.bini .add)), [.const (.int .i64 (.ofNat (nat_lit 9))), .tmp (nat_lit 105)], (some (nat_lit 106)), none⟩,
  .ins ⟨(.p (.slice (nat_lit 1) true false)), [.tmp (nat_lit 104), .tmp (nat_lit 106)], (some (nat_lit 107)), none⟩,
  .ins ⟨(.p .nilck), [.tmp (nat_lit 100)], (some (nat_lit 108)), none⟩,
  .ins ⟨(.p (.fieldAddr (nat_lit 2))), [.tmp (nat_lit 108)], (some (nat_lit 109)), none⟩,
  .ins ⟨(.l (.store (nat_lit 1))), [.tmp (nat_lit 109), .tmp (nat_lit 107)], none, none⟩])
 (.seq (.seq (.region [
  .ins ⟨(.p .mv), [.tmp (nat_lit 0)], (some (nat_lit 110)), none⟩,
  .ins ⟨(.p .nilck), [.tmp (nat_lit 110)], (some (nat_lit 111)), none⟩,
  .ins ⟨(.p (.fieldAddr (nat_lit 2))), [.tmp (nat_lit 111)], (some (nat_lit 112)), none⟩,
  .ins ⟨(.r (.load false (nat_lit 1))), [.tmp (nat_lit 112)], (some (nat_lit 113)), none⟩,
  .ins ⟨(.p .lenSl), [.tmp (nat_lit 113)], (some (nat_lit 114)), none⟩,
  .ins ⟨(.p (.bini .eql)), [.tmp (nat_lit 114), .const (.int .i64 (.ofNat (nat_lit 0)))], (some (nat_lit 115)), none⟩])
 (.cond (.tmp (nat_lit 115)) (.region [
  .ins ⟨(.p .mv), [.tmp (nat_lit 0)], (some (nat_lit 116)), none⟩,
  .ins ⟨(.p .nilck), [.tmp (nat_lit 116)], (some (nat_lit 117)), none⟩,
  .ins ⟨(.p (.fieldAddr (nat_lit 2))), [.tmp (nat_lit 117)], (some (nat_lit 118)), none⟩,
  .ins ⟨(.l (.store (nat_lit 1))), [.tmp (nat_lit 118), .const (.slice none (nat_lit 0) (nat_lit 0) (nat_lit 0))], none, none⟩])
 .skip))
 (.seq (.region [
  .ins ⟨(.r (.load true (nat_lit 4))), [.tmp (nat_lit 5)], (some (nat_lit 119)), none⟩,
  .ins ⟨(.l (.store (nat_lit 4))), [.tmp (nat_lit 2), .tmp (nat_lit 119)], none, none⟩,
  .ins ⟨(.p .mv), [.const (.bool true)], (some (nat_lit 3)), none⟩])
 .ret)))))))))⟩

def c149 : Code' := .fn ⟨(nat_lit 14), [.tmp (nat_lit 2), .tmp (nat_lit 3)],
 (.seq (.region [
  .ins ⟨(.p .mv), [.const (.int .i64 (.ofNat (nat_lit 0)))], (some (nat_lit 2)), none⟩,
  .ins ⟨(.p .mv), [.const (.bool false)], (some (nat_lit 3)), none⟩])
 (.seq (.seq (.region [
  .ins ⟨(.p .mv), [.tmp (nat_lit 0)], (some (nat_lit 4)), none⟩,
  .ins ⟨(.p (.eqnil .ptr false)), [.tmp (nat_lit 4), .const (.ptr none)], (some (nat_lit 5)), none⟩])
 (.cond (.tmp (nat_lit 5)) (.seq (.region [
  .ins ⟨(.p .mv), [.const (.int .i64 (.ofNat (nat_lit 0)))], (some (nat_lit 2)), none⟩,
  .ins ⟨(.p .mv), [.const (.bool false)], (some (nat_lit 3)), none⟩])
 .ret)
 .skip))
 (.seq (.region [
  .ins ⟨(.p .mv), [.tmp (nat_lit 0)], (some (nat_lit 6)), none⟩,
  .ins ⟨(.p .nilck), [.tmp (nat_lit 6)], (some (nat_lit 7)), none⟩,
  .ins ⟨(.p (.fieldAddr (nat_lit 0))), [.tmp (nat_lit 7)], (some (nat_lit 8)), none⟩,
  .ins ⟨(.r (.load false (nat_lit 1))), [.tmp (nat_lit 8)], (some (nat_lit 9)), none⟩,
  .ins ⟨(.p .mv), [.tmp (nat_lit 0)], (some (nat_lit 10)), none⟩,
  .ins ⟨(.p .nilck), [.tmp (nat_lit 10)], (some (nat_lit 11)), none⟩,
  .ins ⟨(.p (.fieldAddr (nat_lit 1))), [.tmp (nat_lit 11)], (some (nat_lit 12)), none⟩,
  .ins ⟨(.r (.load false (nat_lit 1))), [.tmp (nat_lit 12)], (some (nat_lit 13)), none⟩,
  .ins ⟨(.p .mv), [.tmp (nat_lit 9)], (some (nat_lit 2)), none⟩,
  .ins ⟨(.p .mv), [.tmp (nat_lit 13)], (some (nat_lit 3)), none⟩])
 .ret)))⟩

def c150 : Code' := .fn ⟨(nat_lit 129), [.cell (nat_lit 2) true (nat_lit 11), .tmp (nat_lit 3)],
 (.seq (.region [
  .ins ⟨(.a .box), [.tmp (nat_lit 0)], (some (nat_lit 1)), none⟩,
  .ins ⟨(.a (.alloc [(.slice none (nat_lit 0) (nat_lit 0) (nat_lit 0)), (.int .i64 (.ofNat (nat_lit 0))), (.bool false), (.bool false), (.int .i64 (.ofNat (nat_lit 0))), (.int .i64 (.ofNat (nat_lit 0))), (.int .i64 (.ofNat (nat_lit 0))), (.int .i64 (.ofNat (nat_lit 0))), (.int .i64 (.ofNat (nat_lit 0))), (.slice none (nat_lit 0) (nat_lit 0) (nat_lit 0)), (.int .i64 (.ofNat (nat_lit 0)))])), [], (some (nat_lit 2)), none⟩,
  .ins ⟨(.p .mv), [.const (.int .i64 (.ofNat (nat_lit 0)))], (some (nat_lit 3)), none⟩])
 (.seq (.seq (.region [
  .ins ⟨(.p (.fieldAddr (nat_lit 0))), [.tmp (nat_lit 1)], (some (nat_lit 8)), none⟩,
  .ins ⟨(.r (.load false (nat_lit 1))), [.tmp (nat_lit 8)], (some (nat_lit 9)), none⟩,
  .ins ⟨(.c .value), [.const (.func (.func (nat_lit 221)) [] []), .tmp (nat_lit 9)], (some (nat_lit 10)), none⟩,
  .ins ⟨(.p .mv), [.tmp (nat_lit 10)], (some (nat_lit 4)), none⟩])
 (.seq (.region [
  .ins ⟨(.p .mv), [.tmp (nat_lit 4)], (some (nat_lit 11)), none⟩,
  .ins ⟨(.p (.bini .eql)), [.tmp (nat_lit 11), .const (.int .i64 (.ofNat (nat_lit 1)))], (some (nat_lit 12)), none⟩,
  .ins ⟨(.p .mv), [.tmp (nat_lit 12)], (some (nat_lit 13)), none⟩,
  .ins ⟨(.p (.fieldAddr (nat_lit 2))), [.tmp (nat_lit 1)], (some (nat_lit 14)), (some ((nat_lit 13), true))⟩,
  .ins ⟨(.r (.load false (nat_lit 1))), [.tmp (nat_lit 14)], (some (nat_lit 15)), (some ((nat_lit 13), true))⟩,
  .ins ⟨(.p (.bini .eql)), [.tmp (nat_lit 15), .const (.int .i64 (.ofNat (nat_lit 0)))], (some (nat_lit 16)), (some ((nat_lit 13), true))⟩,
  .ins ⟨(.p .pick), [.tmp (nat_lit 13), .tmp (nat_lit 16), .const (.bool false)], (some (nat_lit 17)), none⟩,
  .ins ⟨(.p .mv), [.tmp (nat_lit 17)], (some (nat_lit 18)), none⟩,
  .ins ⟨(.p .mv), [.tmp (nat_lit 4)], (some (nat_lit 19)), (some ((nat_lit 18), false))⟩,
  .ins ⟨(.p (.bini .eql)), [.tmp (nat_lit 19), .const (.int .i64 (.ofNat (nat_lit 0)))], (some (nat_lit 20)), (some ((nat_lit 18), false))⟩,
  .ins ⟨(.p .mv), [.tmp (nat_lit 20)], (some (nat_lit 21)), (some ((nat_lit 18), false))⟩,
  .ins ⟨(.p (.fieldAddr (nat_lit 2))), [.tmp (nat_lit 1)], (some (nat_lit 22)), (some ((nat_lit 21), true))⟩,
  .ins ⟨(.r (.load false (nat_lit 1))), [.tmp (nat_lit 22)], (some (nat_lit 23)), (some ((nat_lit 21), true))⟩,
  .ins ⟨(.p (.bini .neq)), [.tmp (nat_lit 23), .const (.int .i64 (.ofNat (nat_lit 0)))], (some (nat_lit 24)), (some ((nat_lit 21), true))⟩,
  .ins ⟨(.p .pick), [.tmp (nat_lit 21), .tmp (nat_lit 24), .const (.bool false)], (some (nat_lit 25)), (some ((nat_lit 18), false))⟩,
  .ins ⟨(.p .pick), [.tmp (nat_lit 18), .const (.bool true), .tmp (nat_lit 25)], (some (nat_lit 26)), none⟩])
 (.cond (.tmp (nat_lit 26)) (.seq (.region [
  .ins ⟨(.p (.build [(.slice none (nat_lit 0) (nat_lit 0) (nat_lit 0)), (.int .i64 (.ofNat (nat_lit 0))), (.bool false), (.bool false), (.int .i64 (.ofNat (nat_lit 0))), (.int .i64 (.ofNat (nat_lit 0))), (.int .i64 (.ofNat (nat_lit 0))), (.int .i64 (.ofNat (nat_lit 0))), (.int .i64 (.ofNat (nat_lit 0))), (.slice none (nat_lit 0) (nat_lit 0) (nat_lit 0)), (.int .i64 (.ofNat (nat_lit 0)))] [])), [], (some (nat_lit 27)), none⟩,
  .ins ⟨(.l (.store (nat_lit 11))), [.tmp (nat_lit 2), .tmp (nat_lit 27)], none, none⟩,
  .ins ⟨(.p .mv), [.const (.int .i64 (.ofNat (nat_lit 1)))], (some (nat_lit 3)), none⟩])
 .ret)
 .skip)))
 (.seq (.region [
  .ins ⟨(.a (.alloc [(.slice none (nat_lit 0) (nat_lit 0) (nat_lit 0)), (.int .i64 (.ofNat (nat_lit 0))), (.bool false), (.bool false), (.int .i64 (.ofNat (nat_lit 0))), (.int .i64 (.ofNat (nat_lit 0))), (.int .i64 (.ofNat (nat_lit 0))), (.int .i64 (.ofNat (nat_lit 0))), (.int .i64 (.ofNat (nat_lit 0))), (.slice none (nat_lit 0) (nat_lit 0) (nat_lit 0)), (.int .i64 (.ofNat (nat_lit 0)))])), [], (some (nat_lit 5)), none⟩])
 (.seq (.region [
  .ins ⟨(.r (.load true (nat_lit 4))), [.tmp (nat_lit 1)], (some (nat_lit 29)), none⟩,
  .ins ⟨(.c .value), [.const (.func (.func (nat_lit 222)) [] []), .tmp (nat_lit 29), .tmp (nat_lit 5)], (some (nat_lit 30)), none⟩,
  .ins ⟨(.p .mv), [.tmp (nat_lit 30)], (some (nat_lit 28)), none⟩,
  .ins ⟨(.p (.extract (nat_lit 0))), [.tmp (nat_lit 28)], (some (nat_lit 31)), none⟩,
  .ins ⟨(.p (.extract (nat_lit 1))), [.tmp (nat_lit 28)], (some (nat_lit 32)), none⟩,
  .ins ⟨(.p .mv), [.tmp (nat_lit 31)], (some (nat_lit 6)), none⟩,
  .ins ⟨(.p .mv), [.tmp (nat_lit 32)], (some (nat_lit 7)), none⟩])
 (.seq (.seq (.region [
  .ins ⟨(.p .mv), [.tmp (nat_lit 7)], (some (nat_lit 33)), none⟩,
  .ins ⟨(.p (.bini .eql)), [.tmp (nat_lit 33), .const (.int .i64 (.ofNat (nat_lit 0)))], (some (nat_lit 34)), none⟩,
  .ins ⟨(.p .mv), [.tmp (nat_lit 34)], (some (nat_lit 35)), none⟩,
  .ins ⟨(.r (.load true (nat_lit 4))), [.tmp (nat_lit 1)], (some (nat_lit 36)), (some ((nat_lit 35), true))⟩,
  .ins ⟨(.p .mv), [.tmp (nat_lit 6)], (some (nat_lit 37)), (some ((nat_lit 35), true))⟩,
  .ins ⟨(.p .lenSl), [.tmp (nat_lit 37)], (some (nat_lit 38)), (some ((nat_lit 35), true))⟩,
  .ins ⟨(.c .value), [.const (.func (.func (nat_lit 223)) [] []), .tmp (nat_lit 36), .tmp (nat_lit 38)], (some (nat_lit 39)), (some ((nat_lit 35), true))⟩,
  .ins ⟨(.p (.un .not)), [.tmp (nat_lit 39)], (some (nat_lit 40)), (some ((nat_lit 35), true))⟩,
  .ins ⟨(.p .pick), [.tmp (nat_lit 35), .tmp (nat_lit 40), .const (.bool false)], (some (nat_lit 41)), none⟩])
 (.cond (.tmp (nat_lit 41)) (.region [
  .ins ⟨(.p .mv), [.const (.int .i64 (.ofNat (nat_lit 6)))], (some (nat_lit 7)), none⟩])
 .skip))
 (.seq (.seq (.region [
  .ins ⟨(.p .mv), [.tmp (nat_lit 7)], (some (nat_lit 42)), none⟩,
  .ins ⟨(.p (.bini .neq)), [.tmp (nat_lit 42), .const (.int .i64 (.ofNat (nat_lit 0)))], (some (nat_lit 43)), none⟩])
 (.cond (.tmp (nat_lit 43)) (.seq (.region [
  .ins ⟨(.p (.build [(.slice none (nat_lit 0) (nat_lit 0) (nat_lit 0)), (.int .i64 (.ofNat (nat_lit 0))), (.bool false), (.bool false), (.int .i64 (.ofNat (nat_lit 0))), (.int .i64 (.ofNat (nat_lit 0))), (.int .i64 (.ofNat (nat_lit 0))), (.int .i64 (.ofNat (nat_lit 0))), (.int .i64 (.ofNat (nat_lit 0))), (.slice none (nat_lit 0) (nat_lit 0) (nat_lit 0)), (.int .i64 (.ofNat (nat_lit 0)))] [])), [], (some (nat_lit 44)), none⟩,
  .ins ⟨(.p .mv), [.tmp (nat_lit 7)], (some (nat_lit 45)), none⟩,
  .ins ⟨(.l (.store (nat_lit 11))), [.tmp (nat_lit 2), .tmp (nat_lit 44)], none, none⟩,
  .ins ⟨(.p .mv), [.tmp (nat_lit 45)], (some (nat_lit 3)), none⟩])
 .ret)
 .skip))
 (.seq (.seq (.region [
  .ins ⟨(.p (.fieldAddr (nat_lit 0))), [.tmp (nat_lit 1)], (some (nat_lit 46)), none⟩,
  .ins ⟨(.r (.load false (nat_lit 1))), [.tmp (nat_lit 46)], (some (nat_lit 47)), none⟩])
 (.block (nat_lit 0) (.seq (.seq (.region [
  .ins ⟨(.p (.bini .eql)), [.tmp (nat_lit 47), .const (.int .i64 (.ofNat (nat_lit 0)))], (some (nat_lit 49)), none⟩,
  .ins ⟨(.p .mv), [.tmp (nat_lit 49)], (some (nat_lit 48)), none⟩])
 (.cond (.tmp (nat_lit 48)) .skip
 (.seq (.region [
  .ins ⟨(.p (.bini .eql)), [.tmp (nat_lit 47), .const (.int .i64 (.ofNat (nat_lit 6)))], (some (nat_lit 50)), none⟩,
  .ins ⟨(.p .mv), [.tmp (nat_lit 50)], (some (nat_lit 48)), none⟩])
 (.cond (.tmp (nat_lit 48)) .skip
 (.region [
  .ins ⟨(.p (.bini .eql)), [.tmp (nat_lit 47), .const (.int .i64 (.ofNat (nat_lit 9)))], (some (nat_lit 51)), none⟩,
  .ins ⟨(.p .mv), [.tmp (nat_lit 51)], (some (nat_lit 48)), none⟩])))))
 (.cond (.tmp (nat_lit 48)) (.region [
  .ins ⟨(.p .mv), [.tmp (nat_lit 6)], (some (nat_lit 52)), none⟩,
  .ins ⟨(.c .value), [.const (.func (.func (nat_lit 45)) [] []), .tmp (nat_lit 52)], (some (nat_lit 53)), none⟩,
  .ins ⟨(.p (.fieldAddr (nat_lit 0))), [.tmp (nat_lit 5)], (some (nat_lit 54)), none⟩,
  .ins ⟨(.l (.store (nat_lit 1))), [.tmp (nat_lit 54), .tmp (nat_lit 53)], none, none⟩])
 (.seq (.region [
  .ins ⟨(.p (.bini .eql)), [.tmp (nat_lit 47), .const (.int .i64 (.ofNat (nat_lit 1)))], (some (nat_lit 56)), none⟩,
  .ins ⟨(.p .mv), [.tmp (nat_lit 56)], (some (nat_lit 55)), none⟩])
 (.cond (.tmp (nat_lit 55)) (.seq (.seq (.region [
  .ins ⟨(.p (.fieldAddr (nat_lit 1))), [.tmp (nat_lit 1)], (some (nat_lit 57)), none⟩,
  .ins ⟨(.r (.load false (nat_lit 1))), [.tmp (nat_lit 57)], (some (nat_lit 58)), none⟩,
  .ins ⟨(.p (.bini .and)), [.tmp (nat_lit 58), .const (.int .i64 (.ofNat (nat_lit 32)))], (some (nat_lit 59)), none⟩,
  .ins ⟨(.p (.bini .neq)), [.tmp (nat_lit 59), .const (.int .i64 (.ofNat (nat_lit 0)))], (some (nat_lit 60)), none⟩])
 (.cond (.tmp (nat_lit 60)) (.seq (.region [
  .ins ⟨(.p .mv), [.tmp (nat_lit 6)], (some (nat_lit 61)), none⟩,
  .ins ⟨(.c .value), [.const (.func (.func (nat_lit 224)) [] []), .tmp (nat_lit 61), .tmp (nat_lit 5)], (some (nat_lit 62)), none⟩])
 (.region [
  .ins ⟨(.p .mv), [.tmp (nat_lit 6)], (some (nat_lit 63)), none⟩,
  .ins ⟨(.p (.slice (nat_lit 1) true false)), [.tmp (nat_lit 63), .const (.int .i64 (.ofNat (nat_lit 5)))], (some (nat_lit 64)), none⟩,
  .ins ⟨(.p .mv), [.tmp (nat_lit 64)], (some (nat_lit 6)), none⟩]))
 .skip))
 (.region [
  .ins ⟨(.p .mv), [.tmp (nat_lit 6)], (some (nat_lit 65)), none⟩,
  .ins ⟨(.c .value), [.const (.func (.func (nat_lit 45)) [] []), .tmp (nat_lit 65)], (some (nat_lit 66)), none⟩,
  .ins ⟨(.p (.fieldAddr (nat_lit 0))), [.tmp (nat_lit 5)], (some (nat_lit 67)), none⟩,
  .ins ⟨(.l (.store (nat_lit 1))), [.tmp (nat_lit 67), .tmp (nat_lit 66)], none, none⟩]))
 (.seq (.region [
  .ins ⟨(.p (.bini .eql)), [.tmp (nat_lit 47), .const (.int .i64 (.ofNat (nat_lit 2)))], (some (nat_lit 69)), none⟩,
  .ins ⟨(.p .mv), [.tmp (nat_lit 69)], (some (nat_lit 68)), none⟩])
 (.cond (.tmp (nat_lit 68)) (.region [
  .ins ⟨(.p .mv), [.tmp (nat_lit 6)], (some (nat_lit 70)), none⟩,
  .ins ⟨(.c .value), [.const (.func (.func (nat_lit 224)) [] []), .tmp (nat_lit 70), .tmp (nat_lit 5)], (some (nat_lit 71)), none⟩])
 (.seq (.region [
  .ins ⟨(.p (.bini .eql)), [.tmp (nat_lit 47), .const (.int .i64 (.ofNat (nat_lit 3)))], (some (nat_lit 73)), none⟩,
  .ins ⟨(.p .mv), [.tmp (nat_lit 73)], (some (nat_lit 72)), none⟩])
 (.cond (.tmp (nat_lit 72)) (.region [
  .ins ⟨(.p .mv), [.tmp (nat_lit 6)], (some (nat_lit 74)), none⟩,
  .ins ⟨(.c .value), [.const (.func (.func (nat_lit 225)) [] []), .tmp (nat_lit 74)], (some (nat_lit 75)), none⟩,
  .ins ⟨(.p (.fieldAddr (nat_lit 6))), [.tmp (nat_lit 5)], (some (nat_lit 76)), none⟩,
  .ins ⟨(.l (.store (nat_lit 1))), [.tmp (nat_lit 76), .tmp (nat_lit 75)], none, none⟩])
 (.seq (.region [
  .ins ⟨(.p (.bini .eql)), [.tmp (nat_lit 47), .const (.int .i64 (.ofNat (nat_lit 4)))], (some (nat_lit 78)), none⟩,
  .ins ⟨(.p .mv), [.tmp (nat_lit 78)], (some (nat_lit 77)), none⟩])
 (.cond (.tmp (nat_lit 77)) (.block (nat_lit 1) (.loop (.seq (.seq (.region [
  .ins ⟨(.p .mv), [.tmp (nat_lit 6)], (some (nat_lit 79)), none⟩,
  .ins ⟨(.p .lenSl), [.tmp (nat_lit 79)], (some (nat_lit 80)), none⟩,
  .ins ⟨(.p (.bini .gtr)), [.tmp (nat_lit 80), .const (.int .i64 (.ofNat (nat_lit 0)))], (some (nat_lit 81)), none⟩])
 (.cond (.tmp (nat_lit 81)) .skip
 (.exit (nat_lit 1))))
 (.seq (.block (nat_lit 2) (.region [
  .ins ⟨(.p (.fieldAddr (nat_lit 9))), [.tmp (nat_lit 5)], (some (nat_lit 84)), none⟩,
  .ins ⟨(.r (.load false (nat_lit 1))), [.tmp (nat_lit 84)], (some (nat_lit 85)), none⟩,
  .ins ⟨(.p .mv), [.tmp (nat_lit 6)], (some (nat_lit 86)), none⟩,
  .ins ⟨(.p (.slice (nat_lit 1) false true)), [.tmp (nat_lit 86), .const (.int .i64 (.ofNat (nat_lit 2)))], (some (nat_lit 87)), none⟩,
  .ins ⟨(.p .mv), [.tmp (nat_lit 6)], (some (nat_lit 89)), none⟩,
  .ins ⟨(.p (.slice (nat_lit 1) true true)), [.tmp (nat_lit 89), .const (.int .i64 (.ofNat (nat_lit 2))), .const (.int .i64 (.ofNat (nat_lit 6)))], (some (nat_lit 90)), none⟩,
  .ins ⟨(.c .value), [.const (.func (.func (nat_lit 225)) [] []), .tmp (nat_lit 87)], (some (nat_lit 88)), none⟩,
  .again ⟨(.r (.load false (nat_lit 1))), [.tmp (nat_lit 84)], (some (nat_lit 85)), none⟩,
  .ins ⟨(.c .value), [.const (.func (.func (nat_lit 225)) [] []), .tmp (nat_lit 90)], (some (nat_lit 91)), none⟩,
  .ins ⟨(.p (.build [(.int .i64 (.ofNat (nat_lit 0))), (.int .i64 (.ofNat (nat_lit 0)))] [((nat_lit 0), (nat_lit 1)), ((nat_lit 1), (nat_lit 1))])), [.tmp (nat_lit 88), .tmp (nat_lit 91)], (some (nat_lit 92)), none⟩,
  .ins ⟨(.a (.buildSlice [(.int .i64 (.ofNat (nat_lit 0))), (.int .i64 (.ofNat (nat_lit 0)))] (nat_lit 1) [((nat_lit 0), (nat_lit 2))])), [.tmp (nat_lit 92)], (some (nat_lit 93)), none⟩,
  .again ⟨(.r (.load false (nat_lit 1))), [.tmp (nat_lit 84)], (some (nat_lit 85)), none⟩,
  .ins ⟨(.l (.append [(.int .i64 (.ofNat (nat_lit 0))), (.int .i64 (.ofNat (nat_lit 0)))] (nat_lit 2) (nat_lit 16))), [.tmp (nat_lit 85), .tmp (nat_lit 93)], (some (nat_lit 94)), none⟩,
  .ins ⟨(.p (.fieldAddr (nat_lit 9))), [.tmp (nat_lit 5)], (some (nat_lit 95)), none⟩,
  .ins ⟨(.l (.store (nat_lit 1))), [.tmp (nat_lit 95), .tmp (nat_lit 94)], none, none⟩]))
 (.region [
  .ins ⟨(.p .mv), [.tmp (nat_lit 6)], (some (nat_lit 82)), none⟩,
  .ins ⟨(.p (.slice (nat_lit 1) true false)), [.tmp (nat_lit 82), .const (.int .i64 (.ofNat (nat_lit 6)))], (some (nat_lit 83)), none⟩,
  .ins ⟨(.p .mv), [.tmp (nat_lit 83)], (some (nat_lit 6)), none⟩])))))
 (.seq (.region [
  .ins ⟨(.p (.bini .eql)), [.tmp (nat_lit 47), .const (.int .i64 (.ofNat (nat_lit 5)))], (some (nat_lit 97)), none⟩,
  .ins ⟨(.p .mv), [.tmp (nat_lit 97)], (some (nat_lit 96)), none⟩])
 (.cond (.tmp (nat_lit 96)) (.region [
  .ins ⟨(.p .mv), [.tmp (nat_lit 6)], (some (nat_lit 98)), none⟩,
  .ins ⟨(.p (.slice (nat_lit 1) false true)), [.tmp (nat_lit 98), .const (.int .i64 (.ofNat (nat_lit 4)))], (some (nat_lit 99)), none⟩,
  .ins ⟨(.p .mv), [.tmp (nat_lit 6)], (some (nat_lit 102)), none⟩,
  .ins ⟨(.p (.slice (nat_lit 1) true false)), [.tmp (nat_lit 102), .const (.int .i64 (.ofNat (nat_lit 4)))], (some (nat_lit 103)), none⟩,
  .ins ⟨(.c .value), [.const (.func (.func (nat_lit 225)) [] []), .tmp (nat_lit 99)], (some (nat_lit 100)), none⟩,
  .ins ⟨(.p (.bini .and)), [.tmp (nat_lit 100), .const (.int .i64 (.ofNat (nat_lit 2147483647)))], (some (nat_lit 101)), none⟩,
  .ins ⟨(.c .value), [.const (.func (.func (nat_lit 45)) [] []), .tmp (nat_lit 103)], (some (nat_lit 104)), none⟩,
  .ins ⟨(.p (.fieldAddr (nat_lit 10))), [.tmp (nat_lit 5)], (some (nat_lit 105)), none⟩,
  .ins ⟨(.l (.store (nat_lit 1))), [.tmp (nat_lit 105), .tmp (nat_lit 101)], none, none⟩,
  .ins ⟨(.p (.fieldAddr (nat_lit 0))), [.tmp (nat_lit 5)], (some (nat_lit 106)), none⟩,
  .ins ⟨(.l (.store (nat_lit 1))), [.tmp (nat_lit 106), .tmp (nat_lit 104)], none, none⟩])
 (.seq (.region [
  .ins ⟨(.p (.bini .eql)), [.tmp (nat_lit 47), .const (.int .i64 (.ofNat (nat_lit 7)))], (some (nat_lit 108)), none⟩,
  .ins ⟨(.p .mv), [.tmp (nat_lit 108)], (some (nat_lit 107)), none⟩])
 (.cond (.tmp (nat_lit 107)) (.region [
  .ins ⟨(.p .mv), [.tmp (nat_lit 6)], (some (nat_lit 109)), none⟩,
  .ins ⟨(.p (.slice (nat_lit 1) false true)), [.tmp (nat_lit 109), .const (.int .i64 (.ofNat (nat_lit 4)))], (some (nat_lit 110)), none⟩,
  .ins ⟨(.p .mv), [.tmp (nat_lit 6)], (some (nat_lit 113)), none⟩,
  .ins ⟨(.p (.slice (nat_lit 1) true true)), [.tmp (nat_lit 113), .const (.int .i64 (.ofNat (nat_lit 4))), .const (.int .i64 (.ofNat (nat_lit 8)))], (some (nat_lit 114)), none⟩,
  .ins ⟨(.p .mv), [.tmp (nat_lit 6)], (some (nat_lit 116)), none⟩,
  .ins ⟨(.p (.slice (nat_lit 1) true false)), [.tmp (nat_lit 116), .const (.int .i64 (.ofNat (nat_lit 8)))], (some (nat_lit 117)), none⟩,
  .ins ⟨(.c .value), [.const (.func (.func (nat_lit 225)) [] []), .tmp (nat_lit 110)], (some (nat_lit 111)), none⟩,
  .ins ⟨(.p (.bini .and)), [.tmp (nat_lit 111), .const (.int .i64 (.ofNat (nat_lit 2147483647)))], (some (nat_lit 112)), none⟩,
  .ins ⟨(.c .value), [.const (.func (.func (nat_lit 225)) [] []), .tmp (nat_lit 114)], (some (nat_lit 115)), none⟩,
  .ins ⟨(.c .value), [.const (.func (.func (nat_lit 45)) [] []), .tmp (nat_lit 117)], (some (nat_lit 118)), none⟩,
  .ins ⟨(.p (.fieldAddr (nat_lit 7))), [.tmp (nat_lit 5)], (some (nat_lit 119)), none⟩,
  .ins ⟨(.l (.store (nat_lit 1))), [.tmp (nat_lit 119), .tmp (nat_lit 112)], none, none⟩,
  .ins ⟨(.p (.fieldAddr (nat_lit 6))), [.tmp (nat_lit 5)], (some (nat_lit 120)), none⟩,
  .ins ⟨(.l (.store (nat_lit 1))), [.tmp (nat_lit 120), .tmp (nat_lit 115)], none, none⟩,
  .ins ⟨(.p (.fieldAddr (nat_lit 0))), [.tmp (nat_lit 5)], (some (nat_lit 121)), none⟩,
  .ins ⟨(.l (.store (nat_lit 1))), [.tmp (nat_lit 121), .tmp (nat_lit 118)], none, none⟩])
 (.seq (.region [
  .ins ⟨(.p (.bini .eql)), [.tmp (nat_lit 47), .const (.int .i64 (.ofNat (nat_lit 8)))], (some (nat_lit 123)), none⟩,
  .ins ⟨(.p .mv), [.tmp (nat_lit 123)], (some (nat_lit 122)), none⟩])
 (.cond (.tmp (nat_lit 122)) (.region [
  .ins ⟨(.p .mv), [.tmp (nat_lit 6)], (some (nat_lit 124)), none⟩,
  .ins ⟨(.c .value), [.const (.func (.func (nat_lit 225)) [] []), .tmp (nat_lit 124)], (some (nat_lit 125)), none⟩,
  .ins ⟨(.p (.bini .and)), [.tmp (nat_lit 125), .const (.int .i64 (.ofNat (nat_lit 2147483647)))], (some (nat_lit 126)), none⟩,
  .ins ⟨(.p (.fieldAddr (nat_lit 8))), [.tmp (nat_lit 5)], (some (nat_lit 127)), none⟩,
  .ins ⟨(.l (.store (nat_lit 1))), [.tmp (nat_lit 127), .tmp (nat_lit 126)], none, none⟩])
 .skip))))))))))))))))))
 (.seq (.region [
  .ins ⟨(.r (.load true (nat_lit 11))), [.tmp (nat_lit 5)], (some (nat_lit 128)), none⟩,
  .ins ⟨(.l (.store (nat_lit 11))), [.tmp (nat_lit 2), .tmp (nat_lit 128)], none, none⟩,
  .ins ⟨(.p .mv), [.const (.int .i64 (.ofNat (nat_lit 0)))], (some (nat_lit 3)), none⟩])
 .ret))))))))⟩

def c152 : Code' := .fn ⟨(nat_lit 14), [],
 (.seq (.region [
  .ins ⟨(.a .box), [.tmp (nat_lit 1)], (some (nat_lit 3)), none⟩])
 (.region [
  .ins ⟨(.p .mv), [.tmp (nat_lit 0)], (some (nat_lit 4)), none⟩,
  .ins ⟨(.p .mv), [.tmp (nat_lit 0)], (some (nat_lit 5)), none⟩,
  .ins ⟨(.p .nilck), [.tmp (nat_lit 5)], (some (nat_lit 6)), none⟩,
  .ins ⟨(.p (.fieldAddr (nat_lit 23))), [.tmp (nat_lit 6)], (some (nat_lit 7)), none⟩,
  .ins ⟨(.r (.load false (nat_lit 1))), [.tmp (nat_lit 7)], (some (nat_lit 8)), none⟩,
  .ins ⟨(.r (.load true (nat_lit 7))), [.tmp (nat_lit 3)], (some (nat_lit 9)), none⟩,
  .ins ⟨(.a (.buildSlice [(.int .i64 (.ofNat (nat_lit 0))), (.int .i64 (.ofNat (nat_lit 0))), (.slice none (nat_lit 0) (nat_lit 0) (nat_lit 0)), (.slice none (nat_lit 0) (nat_lit 0) (nat_lit 0)), (.bool false), (.int .i64 (.ofNat (nat_lit 0))), (.int .i64 (.ofNat (nat_lit 0)))] (nat_lit 1) [((nat_lit 0), (nat_lit 7))])), [.tmp (nat_lit 9)], (some (nat_lit 10)), none⟩,
  .ins ⟨(.l (.append [(.int .i64 (.ofNat (nat_lit 0))), (.int .i64 (.ofNat (nat_lit 0))), (.slice none (nat_lit 0) (nat_lit 0) (nat_lit 0)), (.slice none (nat_lit 0) (nat_lit 0) (nat_lit 0)), (.bool false), (.int .i64 (.ofNat (nat_lit 0))), (.int .i64 (.ofNat (nat_lit 0)))] (nat_lit 7) (nat_lit 88))), [.tmp (nat_lit 8), .tmp (nat_lit 10)], (some (nat_lit 11)), none⟩,
  .ins ⟨(.p .nilck), [.tmp (nat_lit 4)], (some (nat_lit 12)), none⟩,
  .ins ⟨(.p (.fieldAddr (nat_lit 23))), [.tmp (nat_lit 12)], (some (nat_lit 13)), none⟩,
  .ins ⟨(.l (.store (nat_lit 1))), [.tmp (nat_lit 13), .tmp (nat_lit 11)], none, none⟩]))⟩

def c153 : Code' := .fn ⟨(nat_lit 43), [.tmp (nat_lit 4), .tmp (nat_lit 5)],
 (.seq (.region [
  .ins ⟨(.p .mv), [.const (.int .i64 (.ofNat (nat_lit 0)))], (some (nat_lit 4)), none⟩,
  .ins ⟨(.p .mv), [.const (.int .i64 (.ofNat (nat_lit 0)))], (some (nat_lit 5)), none⟩])
 (.seq (.seq (.region [
  .ins ⟨(.p .mv), [.tmp (nat_lit 0)], (some (nat_lit 9)), none⟩,
  .ins ⟨(.p (.eqnil .ptr false)), [.tmp (nat_lit 9), .const (.ptr none)], (some (nat_lit 10)), none⟩,
  .ins ⟨(.p .mv), [.tmp (nat_lit 10)], (some (nat_lit 11)), none⟩,
  .ins ⟨(.p .mv), [.tmp (nat_lit 1)], (some (nat_lit 12)), (some ((nat_lit 11), false))⟩,
  .ins ⟨(.p (.bini .lss)), [.tmp (nat_lit 12), .const (.int .i64 (.ofNat (nat_lit 1)))], (some (nat_lit 13)), (some ((nat_lit 11), false))⟩,
  .ins ⟨(.p .pick), [.tmp (nat_lit 11), .const (.bool true), .tmp (nat_lit 13)], (some (nat_lit 14)), none⟩,
  .ins ⟨(.p .mv), [.tmp (nat_lit 14)], (some (nat_lit 15)), none⟩,
  .ins ⟨(.p .mv), [.tmp (nat_lit 1)], (some (nat_lit 16)), (some ((nat_lit 15), false))⟩,
  .ins ⟨(.p .mv), [.tmp (nat_lit 0)], (some (nat_lit 17)), (some ((nat_lit 15), false))⟩,
  .ins ⟨(.p .nilck), [.tmp (nat_lit 17)], (some (nat_lit 18)), (some ((nat_lit 15), false))⟩,
  .ins ⟨(.p (.fieldAddr (nat_lit 2))), [.tmp (nat_lit 18)], (some (nat_lit 19)), (some ((nat_lit 15), false))⟩,
  .ins ⟨(.r (.load false (nat_lit 1))), [.tmp (nat_lit 19)], (some (nat_lit 20)), (some ((nat_lit 15), false))⟩,
  .ins ⟨(.p (.bini .gtr)), [.tmp (nat_lit 16), .tmp (nat_lit 20)], (some (nat_lit 21)), (some ((nat_lit 15), false))⟩,
  .ins ⟨(.p .pick), [.tmp (nat_lit 15), .const (.bool true), .tmp (nat_lit 21)], (some (nat_lit 22)), none⟩])
 (.cond (.tmp (nat_lit 22)) (.seq (.region [
  .ins ⟨(.p .mv), [.const (.int .i64 (.ofNat (nat_lit 0)))], (some (nat_lit 4)), none⟩,
  .ins ⟨(.p .mv), [.const (.int .i64 (.ofNat (nat_lit 0)))], (some (nat_lit 5)), none⟩])
 .ret)
 .skip))
 (.seq (.seq (.region [
  .ins ⟨(.p .mv), [.tmp (nat_lit 0)], (some (nat_lit 24)), none⟩,
  .ins ⟨(.p .mv), [.tmp (nat_lit 1)], (some (nat_lit 25)), none⟩,
  .ins ⟨(.c .value), [.const (.func (.func (nat_lit 185)) [] []), .tmp (nat_lit 24), .tmp (nat_lit 25)], (some (nat_lit 26)), none⟩,
  .ins ⟨(.p .mv), [.tmp (nat_lit 26)], (some (nat_lit 23)), none⟩,
  .ins ⟨(.p (.extract (nat_lit 0))), [.tmp (nat_lit 23)], (some (nat_lit 27)), none⟩,
  .ins ⟨(.p (.extract (nat_lit 1))), [.tmp (nat_lit 23)], (some (nat_lit 28)), none⟩,
  .ins ⟨(.p .mv), [.tmp (nat_lit 27)], (some (nat_lit 6)), none⟩,
  .ins ⟨(.p .mv), [.tmp (nat_lit 28)], (some (nat_lit 7)), none⟩])
 (.seq (.region [
  .ins ⟨(.p .mv), [.tmp (nat_lit 7)], (some (nat_lit 29)), none⟩])
 (.cond (.tmp (nat_lit 29)) (.seq (.region [
  .ins ⟨(.p .mv), [.const (.int .i64 (.ofNat (nat_lit 1)))], (some (nat_lit 4)), none⟩,
  .ins ⟨(.p .mv), [.const (.int .i64 (.ofNat (nat_lit 0)))], (some (nat_lit 5)), none⟩])
 .ret)
 .skip)))
 (.seq (.seq (.region [
  .ins ⟨(.p .mv), [.tmp (nat_lit 0)], (some (nat_lit 30)), none⟩,
  .ins ⟨(.p .mv), [.tmp (nat_lit 1)], (some (nat_lit 31)), none⟩,
  .ins ⟨(.c .value), [.const (.func (.func (nat_lit 226)) [] []), .tmp (nat_lit 30), .tmp (nat_lit 31)], (some (nat_lit 32)), none⟩,
  .ins ⟨(.p .mv), [.tmp (nat_lit 32)], (some (nat_lit 8)), none⟩])
 (.seq (.region [
  .ins ⟨(.p .mv), [.tmp (nat_lit 8)], (some (nat_lit 33)), none⟩,
  .ins ⟨(.p (.bini .geq)), [.tmp (nat_lit 33), .const (.int .i64 (.ofNat (nat_lit 0)))], (some (nat_lit 34)), none⟩])
 (.cond (.tmp (nat_lit 34)) (.seq (.region [
  .ins ⟨(.p .mv), [.tmp (nat_lit 0)], (some (nat_lit 35)), none⟩,
  .ins ⟨(.p .nilck), [.tmp (nat_lit 35)], (some (nat_lit 36)), none⟩,
  .ins ⟨(.p (.fieldAddr (nat_lit 1))), [.tmp (nat_lit 36)], (some (nat_lit 37)), none⟩,
  .ins ⟨(.r (.load false (nat_lit 1))), [.tmp (nat_lit 37)], (some (nat_lit 38)), none⟩,
  .ins ⟨(.p .mv), [.tmp (nat_lit 8)], (some (nat_lit 39)), none⟩,
  .ins ⟨(.p (.indexAddr (nat_lit 2))), [.tmp (nat_lit 38), .tmp (nat_lit 39)], (some (nat_lit 40)), none⟩,
  .ins ⟨(.p (.fieldAddr (nat_lit 1))), [.tmp (nat_lit 40)], (some (nat_lit 41)), none⟩,
  .ins ⟨(.r (.load false (nat_lit 1))), [.tmp (nat_lit 41)], (some (nat_lit 42)), none⟩,
  .ins ⟨(.p .mv), [.const (.int .i64 (.ofNat (nat_lit 2)))], (some (nat_lit 4)), none⟩,
  .ins ⟨(.p .mv), [.tmp (nat_lit 42)], (some (nat_lit 5)), none⟩])
 .ret)
 .skip)))
 (.seq (.region [
  .ins ⟨(.p .mv), [.const (.int .i64 (.ofNat (nat_lit 3)))], (some (nat_lit 4)), none⟩,
  .ins ⟨(.p .mv), [.const (.int .i64 (.ofNat (nat_lit 0)))], (some (nat_lit 5)), none⟩])
 .ret)))))⟩

def c154 : Code' := .fn ⟨(nat_lit 118), [],
 (.seq (.region [
  .ins ⟨(.a .box), [.tmp (nat_lit 1)], (some (nat_lit 5)), none⟩,
  .ins ⟨(.a .box), [.tmp (nat_lit 2)], (some (nat_lit 6)), none⟩])
 (.seq (.seq (.region [
  .ins ⟨(.p .mv), [.tmp (nat_lit 3)], (some (nat_lit 15)), none⟩,
  .ins ⟨(.p .mv), [.tmp (nat_lit 15)], (some (nat_lit 16)), none⟩,
  .ins ⟨(.p .mv), [.tmp (nat_lit 0)], (some (nat_lit 17)), (some ((nat_lit 16), true))⟩,
  .ins ⟨(.p .nilck), [.tmp (nat_lit 17)], (some (nat_lit 18)), (some ((nat_lit 16), true))⟩,
  .ins ⟨(.p (.fieldAddr (nat_lit 0))), [.tmp (nat_lit 18)], (some (nat_lit 19)), (some ((nat_lit 16), true))⟩,
  .ins ⟨(.r (.load false (nat_lit 1))), [.tmp (nat_lit 19)], (some (nat_lit 20)), (some ((nat_lit 16), true))⟩,
  .ins ⟨(.p (.bini .eql)), [.tmp (nat_lit 20), .const (.int .i64 (.ofNat (nat_lit 1)))], (some (nat_lit 21)), (some ((nat_lit 16), true))⟩,
  .ins ⟨(.p .pick), [.tmp (nat_lit 16), .tmp (nat_lit 21), .const (.bool false)], (some (nat_lit 22)), none⟩])
 (.cond (.tmp (nat_lit 22)) (.seq (.region [
  .ins ⟨(.p .mv), [.tmp (nat_lit 0)], (some (nat_lit 23)), none⟩,
  .ins ⟨(.c .value), [.const (.func (.func (nat_lit 87)) [] []), .tmp (nat_lit 23), .const (.int .i64 (.ofNat (nat_lit 1)))], (some (nat_lit 24)), none⟩])
 .ret)
 .skip))
 (.seq (.region [
  .ins ⟨(.p (.fieldAddr (nat_lit 1))), [.tmp (nat_lit 5)], (some (nat_lit 25)), none⟩,
  .ins ⟨(.r (.load false (nat_lit 1))), [.tmp (nat_lit 25)], (some (nat_lit 26)), none⟩,
  .ins ⟨(.p (.bini .and)), [.tmp (nat_lit 26), .const (.int .i64 (.ofNat (nat_lit 4)))], (some (nat_lit 27)), none⟩,
  .ins ⟨(.p (.bini .neq)), [.tmp (nat_lit 27), .const (.int .i64 (.ofNat (nat_lit 0)))], (some (nat_lit 28)), none⟩,
  .ins ⟨(.p .mv), [.tmp (nat_lit 28)], (some (nat_lit 8)), none⟩])
 (.seq (.region [
  .ins ⟨(.p .mv), [.const (.slice none (nat_lit 0) (nat_lit 0) (nat_lit 0))], (some (nat_lit 9)), none⟩])
 (.seq (.region [
  .ins ⟨(.p .mv), [.const (.bool false)], (some (nat_lit 10)), none⟩])
 (.seq (.region [
  .ins ⟨(.p .mv), [.const (.int .i64 (.ofNat (nat_lit 0)))], (some (nat_lit 11)), none⟩])
 (.seq (.seq (.region [
  .ins ⟨(.p (.fieldAddr (nat_lit 0))), [.tmp (nat_lit 5)], (some (nat_lit 29)), none⟩,
  .ins ⟨(.r (.load false (nat_lit 1))), [.tmp (nat_lit 29)], (some (nat_lit 30)), none⟩,
  .ins ⟨(.p (.bini .eql)), [.tmp (nat_lit 30), .const (.int .i64 (.ofNat (nat_lit 1)))], (some (nat_lit 31)), none⟩])
 (.cond (.tmp (nat_lit 31)) (.region [
  .ins ⟨(.p .mv), [.tmp (nat_lit 0)], (some (nat_lit 33)), none⟩,
  .ins ⟨(.p .nilck), [.tmp (nat_lit 33)], (some (nat_lit 34)), none⟩,
  .ins ⟨(.p (.fieldAddr (nat_lit 12))), [.tmp (nat_lit 34)], (some (nat_lit 35)), none⟩,
  .ins ⟨(.r (.load false (nat_lit 1))), [.tmp (nat_lit 35)], (some (nat_lit 36)), none⟩,
  .ins ⟨(.p (.fieldAddr (nat_lit 2))), [.tmp (nat_lit 5)], (some (nat_lit 37)), none⟩,
  .ins ⟨(.r (.load false (nat_lit 1))), [.tmp (nat_lit 37)], (some (nat_lit 38)), none⟩,
  .ins ⟨(.p (.fieldAddr (nat_lit 1))), [.tmp (nat_lit 5)], (some (nat_lit 39)), none⟩,
  .ins ⟨(.r (.load false (nat_lit 1))), [.tmp (nat_lit 39)], (some (nat_lit 40)), none⟩,
  .ins ⟨(.p (.bini .and)), [.tmp (nat_lit 40), .const (.int .i64 (.ofNat (nat_lit 1)))], (some (nat_lit 41)), none⟩,
  .ins ⟨(.p (.bini .neq)), [.tmp (nat_lit 41), .const (.int .i64 (.ofNat (nat_lit 0)))], (some (nat_lit 42)), none⟩,
  .ins ⟨(.p (.fieldAddr (nat_lit 0))), [.tmp (nat_lit 6)], (some (nat_lit 43)), none⟩,
  .ins ⟨(.r (.load false (nat_lit 1))), [.tmp (nat_lit 43)], (some (nat_lit 44)), none⟩,
  .ins ⟨(.p .mv), [.tmp (nat_lit 8)], (some (nat_lit 45)), none⟩,
  .ins ⟨(.c .value), [.const (.func (.func (nat_lit 227)) [] []), .tmp (nat_lit 36), .tmp (nat_lit 38), .tmp (nat_lit 42), .tmp (nat_lit 44), .tmp (nat_lit 45)], (some (nat_lit 46)), none⟩,
  .ins ⟨(.p .mv), [.tmp (nat_lit 46)], (some (nat_lit 32)), none⟩,
  .ins ⟨(.p (.extract (nat_lit 0))), [.tmp (nat_lit 32)], (some (nat_lit 47)), none⟩,
  .ins ⟨(.p (.extract (nat_lit 1))), [.tmp (nat_lit 32)], (some (nat_lit 48)), none⟩,
  .ins ⟨(.p (.extract (nat_lit 2))), [.tmp (nat_lit 32)], (some (nat_lit 49)), none⟩,
  .ins ⟨(.p .mv), [.tmp (nat_lit 47)], (some (nat_lit 9)), none⟩,
  .ins ⟨(.p .mv), [.tmp (nat_lit 48)], (some (nat_lit 10)), none⟩,
  .ins ⟨(.p .mv), [.tmp (nat_lit 49)], (some (nat_lit 11)), none⟩])
 (.region [
  .ins ⟨(.p .mv), [.tmp (nat_lit 0)], (some (nat_lit 51)), none⟩,
  .ins ⟨(.p .nilck), [.tmp (nat_lit 51)], (some (nat_lit 52)), none⟩,
  .ins ⟨(.p (.fieldAddr (nat_lit 12))), [.tmp (nat_lit 52)], (some (nat_lit 53)), none⟩,
  .ins ⟨(.r (.load false (nat_lit 1))), [.tmp (nat_lit 53)], (some (nat_lit 54)), none⟩,
  .ins ⟨(.p (.fieldAddr (nat_lit 2))), [.tmp (nat_lit 5)], (some (nat_lit 55)), none⟩,
  .ins ⟨(.r (.load false (nat_lit 1))), [.tmp (nat_lit 55)], (some (nat_lit 56)), none⟩,
  .ins ⟨(.p (.fieldAddr (nat_lit 0))), [.tmp (nat_lit 6)], (some (nat_lit 57)), none⟩,
  .ins ⟨(.r (.load false (nat_lit 1))), [.tmp (nat_lit 57)], (some (nat_lit 58)), none⟩,
  .ins ⟨(.p .mv), [.tmp (nat_lit 8)], (some (nat_lit 59)), none⟩,
  .ins ⟨(.c .value), [.const (.func (.func (nat_lit 228)) [] []), .tmp (nat_lit 54), .tmp (nat_lit 56), .tmp (nat_lit 58), .tmp (nat_lit 59)], (some (nat_lit 60)), none⟩,
  .ins ⟨(.p .mv), [.tmp (nat_lit 60)], (some (nat_lit 50)), none⟩,
  .ins ⟨(.p (.extract (nat_lit 0))), [.tmp (nat_lit 50)], (some (nat_lit 61)), none⟩,
  .ins ⟨(.p (.extract (nat_lit 1))), [.tmp (nat_lit 50)], (some (nat_lit 62)), none⟩,
  .ins ⟨(.p (.extract (nat_lit 2))), [.tmp (nat_lit 50)], (some (nat_lit 63)), none⟩,
  .ins ⟨(.p .mv), [.tmp (nat_lit 61)], (some (nat_lit 9)), none⟩,
  .ins ⟨(.p .mv), [.tmp (nat_lit 62)], (some (nat_lit 10)), none⟩,
  .ins ⟨(.p .mv), [.tmp (nat_lit 63)], (some (nat_lit 11)), none⟩])))
 (.seq (.block (nat_lit 0) (.seq (.region [
  .ins ⟨(.p .mv), [.tmp (nat_lit 11)], (some (nat_lit 65)), none⟩,
  .ins ⟨(.p (.bini .neq)), [.tmp (nat_lit 65), .const (.int .i64 (.ofNat (nat_lit 0)))], (some (nat_lit 66)), none⟩,
  .ins ⟨(.p .mv), [.tmp (nat_lit 66)], (some (nat_lit 64)), none⟩])
 (.cond (.tmp (nat_lit 64)) (.seq (.region [
  .ins ⟨(.p .mv), [.tmp (nat_lit 0)], (some (nat_lit 67)), none⟩,
  .ins ⟨(.p .mv), [.tmp (nat_lit 11)], (some (nat_lit 68)), none⟩,
  .ins ⟨(.c .value), [.const (.func (.func (nat_lit 87)) [] []), .tmp (nat_lit 67), .tmp (nat_lit 68)], (some (nat_lit 69)), none⟩])
 .ret)
 (.seq (.region [
  .ins ⟨(.p .mv), [.tmp (nat_lit 10)], (some (nat_lit 71)), none⟩,
  .ins ⟨(.p (.un .not)), [.tmp (nat_lit 71)], (some (nat_lit 72)), none⟩,
  .ins ⟨(.p .mv), [.tmp (nat_lit 72)], (some (nat_lit 70)), none⟩])
 (.cond (.tmp (nat_lit 70)) .ret
 .skip)))))
 (.seq (.region [
  .ins ⟨(.p .mv), [.tmp (nat_lit 0)], (some (nat_lit 74)), none⟩,
  .ins ⟨(.p .nilck), [.tmp (nat_lit 74)], (some (nat_lit 75)), none⟩,
  .ins ⟨(.p (.fieldAddr (nat_lit 8))), [.tmp (nat_lit 75)], (some (nat_lit 76)), none⟩,
  .ins ⟨(.r (.load false (nat_lit 1))), [.tmp (nat_lit 76)], (some (nat_lit 77)), none⟩,
  .ins ⟨(.p .mv), [.tmp (nat_lit 9)], (some (nat_lit 78)), none⟩,
  .ins ⟨(.p .mv), [.tmp (nat_lit 0)], (some (nat_lit 79)), none⟩,
  .ins ⟨(.p .nilck), [.tmp (nat_lit 79)], (some (nat_lit 80)), none⟩,
  .ins ⟨(.p (.fieldAddr (nat_lit 1))), [.tmp (nat_lit 80)], (some (nat_lit 81)), none⟩,
  .ins ⟨(.r (.load false (nat_lit 1))), [.tmp (nat_lit 81)], (some (nat_lit 82)), none⟩,
  .ins ⟨(.c .value), [.const (.func (.func (nat_lit 171)) [] []), .tmp (nat_lit 82)], (some (nat_lit 83)), none⟩,
  .ins ⟨(.p (.field (nat_lit 4) (nat_lit 1) false)), [.tmp (nat_lit 83)], (some (nat_lit 84)), none⟩,
  .again ⟨(.r (.load false (nat_lit 1))), [.tmp (nat_lit 76)], (some (nat_lit 77)), none⟩,
  .ins ⟨(.c .value), [.const (.func (.func (nat_lit 229)) [] []), .tmp (nat_lit 77), .tmp (nat_lit 78), .tmp (nat_lit 84)], (some (nat_lit 85)), none⟩,
  .ins ⟨(.p .mv), [.tmp (nat_lit 85)], (some (nat_lit 73)), none⟩,
  .ins ⟨(.p (.extract (nat_lit 0))), [.tmp (nat_lit 73)], (some (nat_lit 86)), none⟩,
  .ins ⟨(.p (.extract (nat_lit 1))), [.tmp (nat_lit 73)], (some (nat_lit 87)), none⟩,
  .ins ⟨(.p (.extract (nat_lit 2))), [.tmp (nat_lit 73)], (some (nat_lit 88)), none⟩,
  .ins ⟨(.p .mv), [.tmp (nat_lit 86)], (some (nat_lit 12)), none⟩,
  .ins ⟨(.p .mv), [.tmp (nat_lit 87)], (some (nat_lit 13)), none⟩,
  .ins ⟨(.p .mv), [.tmp (nat_lit 88)], (some (nat_lit 14)), none⟩])
 (.block (nat_lit 1) (.seq (.region [
  .ins ⟨(.p .mv), [.tmp (nat_lit 14)], (some (nat_lit 101)), none⟩,
  .ins ⟨(.p (.bini .neq)), [.tmp (nat_lit 101), .const (.int .i64 (.ofNat (nat_lit 0)))], (some (nat_lit 102)), none⟩,
  .ins ⟨(.p .mv), [.tmp (nat_lit 102)], (some (nat_lit 100)), none⟩])
 (.cond (.tmp (nat_lit 100)) (.region [
  .ins ⟨(.p .mv), [.tmp (nat_lit 0)], (some (nat_lit 103)), none⟩,
  .ins ⟨(.c .value), [.const (.func (.func (nat_lit 87)) [] []), .tmp (nat_lit 103), .const (.int .i64 (.ofNat (nat_lit 9)))], (some (nat_lit 104)), none⟩])
 (.seq (.region [
  .ins ⟨(.p .mv), [.tmp (nat_lit 3)], (some (nat_lit 106)), none⟩,
  .ins ⟨(.p .mv), [.tmp (nat_lit 106)], (some (nat_lit 105)), none⟩])
 (.cond (.tmp (nat_lit 105)) (.region [
  .ins ⟨(.p .mv), [.tmp (nat_lit 0)], (some (nat_lit 107)), none⟩,
  .ins ⟨(.p (.fieldAddr (nat_lit 2))), [.tmp (nat_lit 5)], (some (nat_lit 108)), none⟩,
  .ins ⟨(.r (.load false (nat_lit 1))), [.tmp (nat_lit 108)], (some (nat_lit 109)), none⟩,
  .ins ⟨(.p .mv), [.tmp (nat_lit 12)], (some (nat_lit 110)), none⟩,
  .ins ⟨(.p .mv), [.tmp (nat_lit 13)], (some (nat_lit 111)), none⟩,
  .ins ⟨(.p .mv), [.tmp (nat_lit 0)], (some (nat_lit 112)), none⟩,
  .ins ⟨(.p .nilck), [.tmp (nat_lit 112)], (some (nat_lit 113)), none⟩,
  .ins ⟨(.p (.fieldAddr (nat_lit 12))), [.tmp (nat_lit 113)], (some (nat_lit 114)), none⟩,
  .ins ⟨(.r (.load false (nat_lit 1))), [.tmp (nat_lit 114)], (some (nat_lit 115)), none⟩,
  .ins ⟨(.c .value), [.const (.func (.func (nat_lit 231)) [] []), .tmp (nat_lit 115)], (some (nat_lit 116)), none⟩,
  .again ⟨(.r (.load false (nat_lit 1))), [.tmp (nat_lit 108)], (some (nat_lit 109)), none⟩,
  .ins ⟨(.c .value), [.const (.func (.func (nat_lit 230)) [] []), .tmp (nat_lit 107), .tmp (nat_lit 109), .tmp (nat_lit 110), .tmp (nat_lit 111), .tmp (nat_lit 116)], (some (nat_lit 117)), none⟩])
 (.region [
  .ins ⟨(.p .mv), [.tmp (nat_lit 0)], (some (nat_lit 89)), none⟩,
  .ins ⟨(.p (.fieldAddr (nat_lit 2))), [.tmp (nat_lit 5)], (some (nat_lit 90)), none⟩,
  .ins ⟨(.r (.load false (nat_lit 1))), [.tmp (nat_lit 90)], (some (nat_lit 91)), none⟩,
  .ins ⟨(.p .mv), [.tmp (nat_lit 12)], (some (nat_lit 92)), none⟩,
  .ins ⟨(.p .mv), [.tmp (nat_lit 13)], (some (nat_lit 93)), none⟩,
  .ins ⟨(.p .mv), [.tmp (nat_lit 0)], (some (nat_lit 94)), none⟩,
  .ins ⟨(.p .nilck), [.tmp (nat_lit 94)], (some (nat_lit 95)), none⟩,
  .ins ⟨(.p (.fieldAddr (nat_lit 12))), [.tmp (nat_lit 95)], (some (nat_lit 96)), none⟩,
  .ins ⟨(.r (.load false (nat_lit 1))), [.tmp (nat_lit 96)], (some (nat_lit 97)), none⟩,
  .ins ⟨(.c .value), [.const (.func (.func (nat_lit 231)) [] []), .tmp (nat_lit 97)], (some (nat_lit 98)), none⟩,
  .again ⟨(.r (.load false (nat_lit 1))), [.tmp (nat_lit 90)], (some (nat_lit 91)), none⟩,
  .ins ⟨(.c .value), [.const (.func (.func (nat_lit 232)) [] []), .tmp (nat_lit 89), .tmp (nat_lit 91), .tmp (nat_lit 92), .tmp (nat_lit 93), .tmp (nat_lit 98)], (some (nat_lit 99)), none⟩])))))))))))))))⟩

def c157 : Code' := .fn ⟨(nat_lit 117), [],
 (.seq (.region [
  .ins ⟨(.a .box), [.tmp (nat_lit 0)], (some (nat_lit 3)), none⟩,
  .ins ⟨(.a .box), [.tmp (nat_lit 1)], (some (nat_lit 4)), none⟩,
  .ins ⟨(.a .box), [.tmp (nat_lit 2)], (some (nat_lit 5)), none⟩])
 (.seq (.seq (.region [
  .ins ⟨(.p (.fieldAddr (nat_lit 1))), [.tmp (nat_lit 4)], (some (nat_lit 15)), none⟩,
  .ins ⟨(.r (.load false (nat_lit 1))), [.tmp (nat_lit 15)], (some (nat_lit 16)), none⟩,
  .ins ⟨(.p (.bini .and)), [.tmp (nat_lit 16), .const (.int .i64 (.ofNat (nat_lit 1)))], (some (nat_lit 17)), none⟩,
  .ins ⟨(.p (.bini .neq)), [.tmp (nat_lit 17), .const (.int .i64 (.ofNat (nat_lit 0)))], (some (nat_lit 18)), none⟩])
 (.cond (.tmp (nat_lit 18)) (.seq (.region [
  .ins ⟨(.r (.load false (nat_lit 1))), [.tmp (nat_lit 3)], (some (nat_lit 19)), none⟩,
  .ins ⟨(.p .nilck), [.tmp (nat_lit 19)], (some (nat_lit 20)), none⟩,
  .ins ⟨(.p (.fieldAddr (nat_lit 1))), [.tmp (nat_lit 20)], (some (nat_lit 21)), none⟩,
  .ins ⟨(.r (.load false (nat_lit 1))), [.tmp (nat_lit 21)], (some (nat_lit 22)), none⟩,
  .ins ⟨(.c .value), [.const (.func (.func (nat_lit 171)) [] []), .tmp (nat_lit 22)], (some (nat_lit 23)), none⟩,
  .ins ⟨(.p (.field (nat_lit 2) (nat_lit 1) false)), [.tmp (nat_lit 23)], (some (nat_lit 24)), none⟩,
  .ins ⟨(.a (.alloc [(.int .i64 (.ofNat (nat_lit 0)))])), [], (some (nat_lit 6)), none⟩,
  .ins ⟨(.l (.store (nat_lit 1))), [.tmp (nat_lit 6), .tmp (nat_lit 24)], none, none⟩])
 (.seq (.seq (.region [
  .ins ⟨(.r (.load false (nat_lit 1))), [.tmp (nat_lit 3)], (some (nat_lit 25)), none⟩,
  .ins ⟨(.p .nilck), [.tmp (nat_lit 25)], (some (nat_lit 26)), none⟩,
  .ins ⟨(.p (.fieldAddr (nat_lit 1))), [.tmp (nat_lit 26)], (some (nat_lit 27)), none⟩,
  .ins ⟨(.r (.load false (nat_lit 1))), [.tmp (nat_lit 27)], (some (nat_lit 28)), none⟩,
  .ins ⟨(.c .value), [.const (.func (.func (nat_lit 237)) [] []), .tmp (nat_lit 28)], (some (nat_lit 29)), none⟩,
  .ins ⟨(.p (.un .not)), [.tmp (nat_lit 29)], (some (nat_lit 30)), none⟩])
 (.cond (.tmp (nat_lit 30)) (.seq (.region [
  .ins ⟨(.r (.load false (nat_lit 1))), [.tmp (nat_lit 3)], (some (nat_lit 31)), none⟩,
  .ins ⟨(.c .value), [.const (.func (.func (nat_lit 87)) [] []), .tmp (nat_lit 31), .const (.int .i64 (.ofNat (nat_lit 1)))], (some (nat_lit 32)), none⟩])
 .ret)
 .skip))
 (.seq (.region [
  .ins ⟨(.r (.load false (nat_lit 1))), [.tmp (nat_lit 3)], (some (nat_lit 33)), none⟩,
  .ins ⟨(.c .value), [.const (.func (.func (nat_lit 143)) [] []), .tmp (nat_lit 33)], (some (nat_lit 34)), none⟩,
  .ins ⟨(.a (.alloc [(.int .i64 (.ofNat (nat_lit 0))), (.int .i64 (.ofNat (nat_lit 0))), (.int .i64 (.ofNat (nat_lit 0))), (.int .i64 (.ofNat (nat_lit 0))), (.int .i64 (.ofNat (nat_lit 0)))])), [], (some (nat_lit 7)), none⟩,
  .ins ⟨(.l (.store (nat_lit 5))), [.tmp (nat_lit 7), .tmp (nat_lit 34)], none, none⟩])
 (.seq (.seq (.region [
  .ins ⟨(.r (.load false (nat_lit 1))), [.tmp (nat_lit 3)], (some (nat_lit 35)), none⟩,
  .ins ⟨(.p .nilck), [.tmp (nat_lit 35)], (some (nat_lit 36)), none⟩,
  .ins ⟨(.p (.fieldAddr (nat_lit 13))), [.tmp (nat_lit 36)], (some (nat_lit 37)), none⟩,
  .ins ⟨(.r (.load false (nat_lit 1))), [.tmp (nat_lit 37)], (some (nat_lit 38)), none⟩,
  .ins ⟨(.c .value), [.const (.func (.func (nat_lit 161)) [] []), .tmp (nat_lit 38)], (some (nat_lit 39)), none⟩])
 (.block (nat_lit 0) (.rangeFunc (.tmp (nat_lit 39)) [(nat_lit 40), (nat_lit 41)] (.region [
  .ins ⟨(.p .mv), [.tmp (nat_lit 41)], (some (nat_lit 9)), none⟩])
 (.block (nat_lit 1) (.region [
  .ins ⟨(.p .mv), [.tmp (nat_lit 9)], (some (nat_lit 42)), none⟩,
  .ins ⟨(.p .nilck), [.tmp (nat_lit 42)], (some (nat_lit 43)), none⟩,
  .ins ⟨(.p (.fieldAddr (nat_lit 1))), [.tmp (nat_lit 43)], (some (nat_lit 44)), none⟩,
  .ins ⟨(.r (.load false (nat_lit 1))), [.tmp (nat_lit 44)], (some (nat_lit 45)), none⟩,
  .ins ⟨(.p (.fieldAddr (nat_lit 2))), [.tmp (nat_lit 7)], (some (nat_lit 46)), none⟩,
  .ins ⟨(.r (.load false (nat_lit 1))), [.tmp (nat_lit 46)], (some (nat_lit 47)), none⟩,
  .ins ⟨(.r (.load false (nat_lit 1))), [.tmp (nat_lit 6)], (some (nat_lit 48)), none⟩,
  .ins ⟨(.p (.bini .sub)), [.tmp (nat_lit 47), .tmp (nat_lit 48)], (some (nat_lit 49)), none⟩,
  .ins ⟨(.c .value), [.const (.func (.func (nat_lit 238)) [] []), .tmp (nat_lit 45), .tmp (nat_lit 49)], (some (nat_lit 50)), none⟩])))))
 (.seq (.region [
  .ins ⟨(.r (.load false (nat_lit 1))), [.tmp (nat_lit 3)], (some (nat_lit 51)), none⟩,
  .ins ⟨(.p (.build [(.int .i64 (.ofNat (nat_lit 0))), (.int .i64 (.ofNat (nat_lit 0))), (.slice none (nat_lit 0) (nat_lit 0) (nat_lit 0)), (.slice none (nat_lit 0) (nat_lit 0) (nat_lit 0)), (.bool false), (.int .i64 (.ofNat (nat_lit 0))), (.int .i64 (.ofNat (nat_lit 0)))] [((nat_lit 0), (nat_lit 1))])), [.const (.int .i64 (.ofNat (nat_lit 8)))], (some (nat_lit 52)), none⟩,
  .ins ⟨(.c .value), [.const (.func (.func (nat_lit 152)) [] []), .tmp (nat_lit 51), .tmp (nat_lit 52)], (some (nat_lit 53)), none⟩])
 .ret)))))
 .skip))
 (.seq (.region [
  .ins ⟨(.r (.load false (nat_lit 1))), [.tmp (nat_lit 3)], (some (nat_lit 55)), none⟩,
  .ins ⟨(.p .nilck), [.tmp (nat_lit 55)], (some (nat_lit 56)), none⟩,
  .ins ⟨(.p (.fieldAddr (nat_lit 0))), [.tmp (nat_lit 56)], (some (nat_lit 57)), none⟩,
  .ins ⟨(.r (.load false (nat_lit 1))), [.tmp (nat_lit 57)], (some (nat_lit 58)), none⟩,
  .ins ⟨(.r (.load false (nat_lit 1))), [.tmp (nat_lit 3)], (some (nat_lit 59)), none⟩,
  .ins ⟨(.p .nilck), [.tmp (nat_lit 59)], (some (nat_lit 60)), none⟩,
  .ins ⟨(.p (.fieldAddr (nat_lit 2))), [.tmp (nat_lit 60)], (some (nat_lit 61)), none⟩,
  .ins ⟨(.r (.load true (nat_lit 5))), [.tmp (nat_lit 61)], (some (nat_lit 62)), none⟩,
  .ins ⟨(.p (.fieldAddr (nat_lit 9))), [.tmp (nat_lit 5)], (some (nat_lit 63)), none⟩,
  .ins ⟨(.r (.load false (nat_lit 1))), [.tmp (nat_lit 63)], (some (nat_lit 64)), none⟩,
  .ins ⟨(.a (.alloc [(.int .i64 (.ofNat (nat_lit 0))), (.int .i64 (.ofNat (nat_lit 0))), (.int .i64 (.ofNat (nat_lit 0))), (.int .i64 (.ofNat (nat_lit 0))), (.int .i64 (.ofNat (nat_lit 0)))])), [], (some (nat_lit 10)), none⟩,
  .ins ⟨(.c .value), [.const (.func (.func (nat_lit 141)) [] []), .tmp (nat_lit 58), .tmp (nat_lit 62), .tmp (nat_lit 64)], (some (nat_lit 65)), none⟩,
  .ins ⟨(.p .mv), [.tmp (nat_lit 65)], (some (nat_lit 54)), none⟩,
  .ins ⟨(.p (.extract (nat_lit 0))), [.tmp (nat_lit 54)], (some (nat_lit 66)), none⟩,
  .ins ⟨(.p (.extract (nat_lit 1))), [.tmp (nat_lit 54)], (some (nat_lit 67)), none⟩,
  .ins ⟨(.l (.store (nat_lit 5))), [.tmp (nat_lit 10), .tmp (nat_lit 66)], none, none⟩,
  .ins ⟨(.p .mv), [.tmp (nat_lit 67)], (some (nat_lit 11)), none⟩])
 (.seq (.seq (.region [
  .ins ⟨(.p .mv), [.tmp (nat_lit 11)], (some (nat_lit 68)), none⟩,
  .ins ⟨(.p (.bini .neq)), [.tmp (nat_lit 68), .const (.int .i64 (.ofNat (nat_lit 0)))], (some (nat_lit 69)), none⟩])
 (.cond (.tmp (nat_lit 69)) (.seq (.region [
  .ins ⟨(.r (.load false (nat_lit 1))), [.tmp (nat_lit 3)], (some (nat_lit 70)), none⟩,
  .ins ⟨(.p .mv), [.tmp (nat_lit 11)], (some (nat_lit 71)), none⟩,
  .ins ⟨(.c .value), [.const (.func (.func (nat_lit 87)) [] []), .tmp (nat_lit 70), .tmp (nat_lit 71)], (some (nat_lit 72)), none⟩])
 .ret)
 .skip))
 (.seq (.region [
  .ins ⟨(.p (.fieldAddr (nat_lit 2))), [.tmp (nat_lit 10)], (some (nat_lit 73)), none⟩,
  .ins ⟨(.r (.load false (nat_lit 1))), [.tmp (nat_lit 73)], (some (nat_lit 74)), none⟩,
  .ins ⟨(.r (.load false (nat_lit 1))), [.tmp (nat_lit 3)], (some (nat_lit 75)), none⟩,
  .ins ⟨(.p .nilck), [.tmp (nat_lit 75)], (some (nat_lit 76)), none⟩,
  .ins ⟨(.p (.fieldAddr (nat_lit 2))), [.tmp (nat_lit 76)], (some (nat_lit 77)), none⟩,
  .ins ⟨(.p (.fieldAddr (nat_lit 2))), [.tmp (nat_lit 77)], (some (nat_lit 78)), none⟩,
  .ins ⟨(.r (.load false (nat_lit 1))), [.tmp (nat_lit 78)], (some (nat_lit 79)), none⟩,
  .ins ⟨(.p (.bini .sub)), [.tmp (nat_lit 74), .tmp (nat_lit 79)], (some (nat_lit 80)), none⟩,
  .ins ⟨(.a (.alloc [(.int .i64 (.ofNat (nat_lit 0)))])), [], (some (nat_lit 12)), none⟩,
  .ins ⟨(.l (.store (nat_lit 1))), [.tmp (nat_lit 12), .tmp (nat_lit 80)], none, none⟩])
 (.seq (.region [
  .ins ⟨(.r (.load false (nat_lit 1))), [.tmp (nat_lit 3)], (some (nat_lit 81)), none⟩,
  .ins ⟨(.r (.load false (nat_lit 1))), [.tmp (nat_lit 3)], (some (nat_lit 82)), none⟩,
  .ins ⟨(.r (.load true (nat_lit 5))), [.tmp (nat_lit 10)], (some (nat_lit 83)), none⟩,
  .ins ⟨(.p .nilck), [.tmp (nat_lit 81)], (some (nat_lit 84)), none⟩,
  .ins ⟨(.p (.fieldAddr (nat_lit 2))), [.tmp (nat_lit 84)], (some (nat_lit 85)), none⟩,
  .ins ⟨(.l (.store (nat_lit 5))), [.tmp (nat_lit 85), .tmp (nat_lit 83)], none, none⟩,
  .ins ⟨(.p .nilck), [.tmp (nat_lit 82)], (some (nat_lit 86)), none⟩,
  .ins ⟨(.p (.fieldAddr (nat_lit 18))), [.tmp (nat_lit 86)], (some (nat_lit 87)), none⟩,
  .again ⟨(.r (.load false (nat_lit 1))), [.tmp (nat_lit 3)], (some (nat_lit 82)), none⟩,
  .ins ⟨(.l (.store (nat_lit 1))), [.tmp (nat_lit 87), .const (.bool true)], none, none⟩])
 (.seq (.seq (.region [
  .ins ⟨(.r (.load false (nat_lit 1))), [.tmp (nat_lit 3)], (some (nat_lit 88)), none⟩,
  .ins ⟨(.p .nilck), [.tmp (nat_lit 88)], (some (nat_lit 89)), none⟩,
  .ins ⟨(.p (.fieldAddr (nat_lit 13))), [.tmp (nat_lit 89)], (some (nat_lit 90)), none⟩,
  .ins ⟨(.r (.load false (nat_lit 1))), [.tmp (nat_lit 90)], (some (nat_lit 91)), none⟩,
  .ins ⟨(.c .value), [.const (.func (.func (nat_lit 161)) [] []), .tmp (nat_lit 91)], (some (nat_lit 92)), none⟩])
 (.block (nat_lit 2) (.rangeFunc (.tmp (nat_lit 92)) [(nat_lit 93), (nat_lit 94)] (.region [
  .ins ⟨(.p .mv), [.tmp (nat_lit 94)], (some (nat_lit 14)), none⟩])
 (.block (nat_lit 3) (.seq (.region [
  .ins ⟨(.p .mv), [.tmp (nat_lit 14)], (some (nat_lit 95)), none⟩,
  .ins ⟨(.p .nilck), [.tmp (nat_lit 95)], (some (nat_lit 96)), none⟩,
  .ins ⟨(.p (.fieldAddr (nat_lit 2))), [.tmp (nat_lit 96)], (some (nat_lit 97)), none⟩,
  .ins ⟨(.r (.load false (nat_lit 1))), [.tmp (nat_lit 97)], (some (nat_lit 98)), none⟩,
  .ins ⟨(.r (.load false (nat_lit 1))), [.tmp (nat_lit 12)], (some (nat_lit 99)), none⟩,
  .ins ⟨(.c .value), [.const (.func (.func (nat_lit 239)) [] []), .tmp (nat_lit 98), .tmp (nat_lit 99)], (some (nat_lit 100)), none⟩,
  .ins ⟨(.p (.bini .eql)), [.tmp (nat_lit 100), .const (.int .i64 (.ofNat (nat_lit 10)))], (some (nat_lit 101)), none⟩])
 (.cond (.tmp (nat_lit 101)) (.seq (.region [
  .ins ⟨(.r (.load false (nat_lit 1))), [.tmp (nat_lit 3)], (some (nat_lit 102)), none⟩,
  .ins ⟨(.c .value), [.const (.func (.func (nat_lit 87)) [] []), .tmp (nat_lit 102), .const (.int .i64 (.ofNat (nat_lit 3)))], (some (nat_lit 103)), none⟩])
 .ret)
 .skip))))))
 (.seq (.region [
  .ins ⟨(.r (.load false (nat_lit 1))), [.tmp (nat_lit 3)], (some (nat_lit 104)), none⟩,
  .ins ⟨(.p .nilck), [.tmp (nat_lit 104)], (some (nat_lit 105)), none⟩,
  .ins ⟨(.p (.fieldAddr (nat_lit 9))), [.tmp (nat_lit 105)], (some (nat_lit 106)), none⟩,
  .ins ⟨(.r (.load false (nat_lit 1))), [.tmp (nat_lit 106)], (some (nat_lit 107)), none⟩,
  .ins ⟨(.p (.fieldAddr (nat_lit 0))), [.tmp (nat_lit 10)], (some (nat_lit 108)), none⟩,
  .ins ⟨(.r (.load false (nat_lit 1))), [.tmp (nat_lit 108)], (some (nat_lit 109)), none⟩,
  .ins ⟨(.c .value), [.const (.func (.func (nat_lit 144)) [] []), .tmp (nat_lit 107), .tmp (nat_lit 109)], (some (nat_lit 110)), none⟩])
 (.seq (.region [
  .ins ⟨(.r (.load false (nat_lit 1))), [.tmp (nat_lit 3)], (some (nat_lit 111)), none⟩,
  .ins ⟨(.p (.build [(.slice none (nat_lit 0) (nat_lit 0) (nat_lit 0)), (.int .i64 (.ofNat (nat_lit 0))), (.bool false), (.bool false), (.int .i64 (.ofNat (nat_lit 0))), (.int .i64 (.ofNat (nat_lit 0))), (.int .i64 (.ofNat (nat_lit 0))), (.int .i64 (.ofNat (nat_lit 0))), (.int .i64 (.ofNat (nat_lit 0))), (.slice none (nat_lit 0) (nat_lit 0) (nat_lit 0)), (.int .i64 (.ofNat (nat_lit 0)))] [])), [], (some (nat_lit 112)), none⟩,
  .ins ⟨(.c .value), [.const (.func (.func (nat_lit 158)) [] []), .tmp (nat_lit 111), .const (.int .i64 (.ofNat (nat_lit 4))), .const (.int .i64 (.ofNat (nat_lit 1))), .const (.int .i64 (.ofNat (nat_lit 0))), .tmp (nat_lit 112)], (some (nat_lit 113)), none⟩])
 (.cond (.tmp (nat_lit 113)) (.region [
  .ins ⟨(.r (.load false (nat_lit 1))), [.tmp (nat_lit 3)], (some (nat_lit 114)), none⟩,
  .ins ⟨(.p (.build [(.int .i64 (.ofNat (nat_lit 0))), (.int .i64 (.ofNat (nat_lit 0))), (.slice none (nat_lit 0) (nat_lit 0) (nat_lit 0)), (.slice none (nat_lit 0) (nat_lit 0) (nat_lit 0)), (.bool false), (.int .i64 (.ofNat (nat_lit 0))), (.int .i64 (.ofNat (nat_lit 0)))] [((nat_lit 0), (nat_lit 1))])), [.const (.int .i64 (.ofNat (nat_lit 9)))], (some (nat_lit 115)), none⟩,
  .ins ⟨(.c .value), [.const (.func (.func (nat_lit 152)) [] []), .tmp (nat_lit 114), .tmp (nat_lit 115)], (some (nat_lit 116)), none⟩])
 .skip))))))))))⟩

def c158 : Code' := .fn ⟨(nat_lit 25), [.tmp (nat_lit 10)],
 (.seq (.region [
  .ins ⟨(.a .box), [.tmp (nat_lit 4)], (some (nat_lit 9)), none⟩,
  .ins ⟨(.p .mv), [.const (.bool false)], (some (nat_lit 10)), none⟩])
 (.seq (.seq (.region [
  .ins ⟨(.p .mv), [.tmp (nat_lit 0)], (some (nat_lit 11)), none⟩,
  .ins ⟨(.p .nilck), [.tmp (nat_lit 11)], (some (nat_lit 12)), none⟩,
  .ins ⟨(.p (.fieldAddr (nat_lit 14))), [.tmp (nat_lit 12)], (some (nat_lit 13)), none⟩,
  .ins ⟨(.r (.load false (nat_lit 1))), [.tmp (nat_lit 13)], (some (nat_lit 14)), none⟩,
  .ins ⟨(.p .lenSl), [.tmp (nat_lit 14)], (some (nat_lit 15)), none⟩,
  .ins ⟨(.p (.bini .gtr)), [.tmp (nat_lit 15), .const (.int .i64 (.ofNat (nat_lit 1048576)))], (some (nat_lit 16)), none⟩])
 (.cond (.tmp (nat_lit 16)) (.seq (.region [
  .ins ⟨(.p .mv), [.tmp (nat_lit 0)], (some (nat_lit 17)), none⟩,
  .ins ⟨(.c .value), [.const (.func (.func (nat_lit 87)) [] []), .tmp (nat_lit 17), .const (.int .i64 (.ofNat (nat_lit 11)))], (some (nat_lit 18)), none⟩])
 (.seq (.region [
  .ins ⟨(.p .mv), [.const (.bool false)], (some (nat_lit 10)), none⟩])
 .ret))
 .skip))
 (.seq (.region [
  .ins ⟨(.p .mv), [.tmp (nat_lit 0)], (some (nat_lit 19)), none⟩,
  .ins ⟨(.p .mv), [.tmp (nat_lit 1)], (some (nat_lit 20)), none⟩,
  .ins ⟨(.p .mv), [.tmp (nat_lit 2)], (some (nat_lit 21)), none⟩,
  .ins ⟨(.p .mv), [.tmp (nat_lit 3)], (some (nat_lit 22)), none⟩,
  .ins ⟨(.r (.load true (nat_lit 11))), [.tmp (nat_lit 9)], (some (nat_lit 23)), none⟩,
  .ins ⟨(.c .value), [.const (.func (.func (nat_lit 118)) [] []), .tmp (nat_lit 19), .tmp (nat_lit 20), .tmp (nat_lit 21), .tmp (nat_lit 22), .tmp (nat_lit 23)], (some (nat_lit 24)), none⟩])
 (.seq (.region [
  .ins ⟨(.p .mv), [.const (.bool true)], (some (nat_lit 10)), none⟩])
 .ret))))⟩

def c161 : Code' := .fn ⟨(nat_lit 4), [.tmp (nat_lit 2)],
 (.seq (.region [
  .ins ⟨(.a .box), [.tmp (nat_lit 0)], (some (nat_lit 1)), none⟩,
  .ins ⟨(.p .mv), [.const .nilFunc], (some (nat_lit 2)), none⟩])
 (.seq (.region [
  .ins ⟨(.p (.mkfunc (.func (nat_lit 242)) (nat_lit 0))), [.tmp (nat_lit 1)], (some (nat_lit 3)), none⟩,
  .ins ⟨(.p .mv), [.tmp (nat_lit 3)], (some (nat_lit 2)), none⟩])
 .ret))⟩

def c162 : Code' := .fn ⟨(nat_lit 9), [.tmp (nat_lit 2)],
 (.seq (.region [
  .ins ⟨(.p .mv), [.const (.int .i64 (.ofNat (nat_lit 0)))], (some (nat_lit 2)), none⟩])
 (.seq (.seq (.region [
  .ins ⟨(.p .mv), [.tmp (nat_lit 0)], (some (nat_lit 3)), none⟩,
  .ins ⟨(.p (.eqnil .ptr false)), [.tmp (nat_lit 3), .const (.ptr none)], (some (nat_lit 4)), none⟩])
 (.cond (.tmp (nat_lit 4)) (.seq (.region [
  .ins ⟨(.p .mv), [.const (.int .i64 (.ofNat (nat_lit 4)))], (some (nat_lit 2)), none⟩])
 .ret)
 .skip))
 (.seq (.region [
  .ins ⟨(.p .mv), [.tmp (nat_lit 0)], (some (nat_lit 5)), none⟩,
  .ins ⟨(.p .nilck), [.tmp (nat_lit 5)], (some (nat_lit 6)), none⟩,
  .ins ⟨(.p (.fieldAddr (nat_lit 0))), [.tmp (nat_lit 6)], (some (nat_lit 7)), none⟩,
  .ins ⟨(.r (.load false (nat_lit 1))), [.tmp (nat_lit 7)], (some (nat_lit 8)), none⟩,
  .ins ⟨(.p .mv), [.tmp (nat_lit 8)], (some (nat_lit 2)), none⟩])
 .ret)))⟩

def c164 : Code' := .fn ⟨(nat_lit 10), [.tmp (nat_lit 2)],
 (.seq (.region [
  .ins ⟨(.p .mv), [.const (.int .i64 (.ofNat (nat_lit 0)))], (some (nat_lit 2)), none⟩])
 (.seq (.seq (.region [
  .ins ⟨(.p .mv), [.tmp (nat_lit 0)], (some (nat_lit 3)), none⟩,
  .ins ⟨(.p (.eqnil .ptr false)), [.tmp (nat_lit 3), .const (.ptr none)], (some (nat_lit 4)), none⟩])
 (.cond (.tmp (nat_lit 4)) (.seq (.region [
  .ins ⟨(.p .mv), [.const (.int .i64 (.ofNat (nat_lit 0)))], (some (nat_lit 2)), none⟩])
 .ret)
 .skip))
 (.seq (.region [
  .ins ⟨(.p .mv), [.tmp (nat_lit 0)], (some (nat_lit 5)), none⟩,
  .ins ⟨(.p .nilck), [.tmp (nat_lit 5)], (some (nat_lit 6)), none⟩,
  .ins ⟨(.p (.fieldAddr (nat_lit 0))), [.tmp (nat_lit 6)], (some (nat_lit 7)), none⟩,
  .ins ⟨(.r (.load false (nat_lit 1))), [.tmp (nat_lit 7)], (some (nat_lit 8)), none⟩,
  .ins ⟨(.p .lenSl), [.tmp (nat_lit 8)], (some (nat_lit 9)), none⟩,
  .ins ⟨(.p .mv), [.tmp (nat_lit 9)], (some (nat_lit 2)), none⟩])
 .ret)))⟩

def c166 : Code' := .fn ⟨(nat_lit 61), [.tmp (nat_lit 2), .tmp (nat_lit 3)],
 (.seq (.region [
  .ins ⟨(.p .mv), [.const (.map none)], (some (nat_lit 2)), none⟩,
  .ins ⟨(.p .mv), [.const (.bool false)], (some (nat_lit 3)), none⟩])
 (.seq (.region [
  .ins ⟨(.a .makeMap), [], (some (nat_lit 10)), none⟩,
  .ins ⟨(.p .mv), [.tmp (nat_lit 10)], (some (nat_lit 4)), none⟩])
 (.seq (.region [
  .ins ⟨(.p .mv), [.const (.bool false)], (some (nat_lit 5)), none⟩])
 (.seq (.seq (.region [
  .ins ⟨(.p .mv), [.tmp (nat_lit 0)], (some (nat_lit 11)), none⟩,
  .ins ⟨(.p .lenSl), [.tmp (nat_lit 11)], (some (nat_lit 12)), none⟩,
  .ins ⟨(.p .mv), [.const (.int .i64 (.ofNat (nat_lit 0)))], (some (nat_lit 13)), none⟩])
 (.block (nat_lit 0) (.loop (.seq (.region [
  .ins ⟨(.p (.bini .lss)), [.tmp (nat_lit 13), .tmp (nat_lit 12)], (some (nat_lit 14)), none⟩])
 (.seq (.cond (.tmp (nat_lit 14)) .skip
 (.exit (nat_lit 0)))
 (.seq (.block (nat_lit 1) (.seq (.region [
  .ins ⟨(.p (.indexAddr (nat_lit 3))), [.tmp (nat_lit 11), .tmp (nat_lit 13)], (some (nat_lit 15)), none⟩,
  .ins ⟨(.r (.load true (nat_lit 3))), [.tmp (nat_lit 15)], (some (nat_lit 16)), none⟩,
  .ins ⟨(.a (.alloc [(.str (bs [])), (.str (bs [])), (.bool false)])), [], (some (nat_lit 7)), none⟩,
  .ins ⟨(.l (.store (nat_lit 3))), [.tmp (nat_lit 7), .tmp (nat_lit 16)], none, none⟩])
 (.seq (.seq (.region [
  .ins ⟨(.p (.fieldAddr (nat_lit 1))), [.tmp (nat_lit 7)], (some (nat_lit 17)), none⟩,
  .ins ⟨(.r (.load false (nat_lit 1))), [.tmp (nat_lit 17)], (some (nat_lit 18)), none⟩,
  .ins ⟨(.c .value), [.const (.func (.func (nat_lit 210)) [] []), .tmp (nat_lit 18)], (some (nat_lit 19)), none⟩,
  .ins ⟨(.p (.un .not)), [.tmp (nat_lit 19)], (some (nat_lit 20)), none⟩])
 (.cond (.tmp (nat_lit 20)) (.seq (.region [
  .ins ⟨(.p .mv), [.const (.map none)], (some (nat_lit 2)), none⟩,
  .ins ⟨(.p .mv), [.const (.bool false)], (some (nat_lit 3)), none⟩])
 .ret)
 .skip))
 (.seq (.seq (.region [
  .ins ⟨(.p (.fieldAddr (nat_lit 0))), [.tmp (nat_lit 7)], (some (nat_lit 21)), none⟩,
  .ins ⟨(.r (.load false (nat_lit 1))), [.tmp (nat_lit 21)], (some (nat_lit 22)), none⟩,
  .ins ⟨(.c .value), [.const (.func (.func (nat_lit 167)) [] []), .tmp (nat_lit 22), .const (.str (bs [(nat_lit 58)]))], (some (nat_lit 23)), none⟩])
 (.cond (.tmp (nat_lit 23)) (.seq (.seq (.region [
  .ins ⟨(.p .mv), [.tmp (nat_lit 4)], (some (nat_lit 25)), none⟩,
  .ins ⟨(.p (.fieldAddr (nat_lit 0))), [.tmp (nat_lit 7)], (some (nat_lit 26)), none⟩,
  .ins ⟨(.r (.load false (nat_lit 1))), [.tmp (nat_lit 26)], (some (nat_lit 27)), none⟩,
  .ins ⟨(.r (.lookup (.str (bs [])) true)), [.tmp (nat_lit 25), .tmp (nat_lit 27)], (some (nat_lit 28)), none⟩,
  .ins ⟨(.p .mv), [.tmp (nat_lit 28)], (some (nat_lit 24)), none⟩,
  .ins ⟨(.p (.extract (nat_lit 0))), [.tmp (nat_lit 24)], (some (nat_lit 29)), none⟩,
  .ins ⟨(.p (.extract (nat_lit 1))), [.tmp (nat_lit 24)], (some (nat_lit 30)), none⟩,
  .ins ⟨(.p .mv), [.tmp (nat_lit 29)], (some (nat_lit 8)), none⟩,
  .ins ⟨(.p .mv), [.tmp (nat_lit 30)], (some (nat_lit 9)), none⟩])
 (.seq (.region [
  .ins ⟨(.p .mv), [.tmp (nat_lit 9)], (some (nat_lit 31)), none⟩,
  .ins ⟨(.p .mv), [.tmp (nat_lit 31)], (some (nat_lit 32)), none⟩,
  .ins ⟨(.p .mv), [.tmp (nat_lit 5)], (some (nat_lit 33)), (some ((nat_lit 32), false))⟩,
  .ins ⟨(.p .pick), [.tmp (nat_lit 32), .const (.bool true), .tmp (nat_lit 33)], (some (nat_lit 34)), none⟩])
 (.cond (.tmp (nat_lit 34)) (.seq (.region [
  .ins ⟨(.p .mv), [.const (.map none)], (some (nat_lit 2)), none⟩,
  .ins ⟨(.p .mv), [.const (.bool false)], (some (nat_lit 3)), none⟩])
 .ret)
 .skip)))
 (.seq (.region [
  .ins ⟨(.p .mv), [.tmp (nat_lit 4)], (some (nat_lit 35)), none⟩,
  .ins ⟨(.p (.fieldAddr (nat_lit 0))), [.tmp (nat_lit 7)], (some (nat_lit 36)), none⟩,
  .ins ⟨(.r (.load false (nat_lit 1))), [.tmp (nat_lit 36)], (some (nat_lit 37)), none⟩,
  .ins ⟨(.p (.fieldAddr (nat_lit 1))), [.tmp (nat_lit 7)], (some (nat_lit 38)), none⟩,
  .ins ⟨(.r (.load false (nat_lit 1))), [.tmp (nat_lit 38)], (some (nat_lit 39)), none⟩,
  .ins ⟨(.l .mapUpdate), [.tmp (nat_lit 35), .tmp (nat_lit 37), .tmp (nat_lit 39)], none, none⟩])
 (.exit (nat_lit 1))))
 .skip))
 (.seq (.region [
  .ins ⟨(.p .mv), [.const (.bool true)], (some (nat_lit 5)), none⟩])
 (.seq (.region [
  .ins ⟨(.p (.fieldAddr (nat_lit 0))), [.tmp (nat_lit 7)], (some (nat_lit 40)), none⟩,
  .ins ⟨(.r (.load false (nat_lit 1))), [.tmp (nat_lit 40)], (some (nat_lit 41)), none⟩,
  .ins ⟨(.c .value), [.const (.func (.func (nat_lit 209)) [] []), .tmp (nat_lit 41)], (some (nat_lit 42)), none⟩,
  .ins ⟨(.p (.un .not)), [.tmp (nat_lit 42)], (some (nat_lit 43)), none⟩,
  .ins ⟨(.p .mv), [.tmp (nat_lit 43)], (some (nat_lit 44)), none⟩,
  .ins ⟨(.p (.fieldAddr (nat_lit 0))), [.tmp (nat_lit 7)], (some (nat_lit 45)), (some ((nat_lit 44), false))⟩,
  .ins ⟨(.r (.load false (nat_lit 1))), [.tmp (nat_lit 45)], (some (nat_lit 46)), (some ((nat_lit 44), false))⟩,
  .ins ⟨(.c .value), [.const (.func (.func (nat_lit 245)) [] []), .tmp (nat_lit 46)], (some (nat_lit 47)), (some ((nat_lit 44), false))⟩,
  .ins ⟨(.p .pick), [.tmp (nat_lit 44), .const (.bool true), .tmp (nat_lit 47)], (some (nat_lit 48)), none⟩,
  .ins ⟨(.p .mv), [.tmp (nat_lit 48)], (some (nat_lit 49)), none⟩,
  .ins ⟨(.p (.fieldAddr (nat_lit 0))), [.tmp (nat_lit 7)], (some (nat_lit 50)), (some ((nat_lit 49), false))⟩,
  .ins ⟨(.r (.load false (nat_lit 1))), [.tmp (nat_lit 50)], (some (nat_lit 51)), (some ((nat_lit 49), false))⟩,
  .ins ⟨(.p (.bins .eql)), [.tmp (nat_lit 51), .const (.str (bs [(nat_lit 116), (nat_lit 101)]))], (some (nat_lit 52)), (some ((nat_lit 49), false))⟩,
  .ins ⟨(.p .mv), [.tmp (nat_lit 52)], (some (nat_lit 53)), (some ((nat_lit 49), false))⟩,
  .ins ⟨(.p (.fieldAddr (nat_lit 1))), [.tmp (nat_lit 7)], (some (nat_lit 54)), (some ((nat_lit 53), true))⟩,
  .ins ⟨(.r (.load false (nat_lit 1))), [.tmp (nat_lit 54)], (some (nat_lit 55)), (some ((nat_lit 53), true))⟩,
  .ins ⟨(.p (.bins .neq)), [.tmp (nat_lit 55), .const (.str (bs [(nat_lit 116), (nat_lit 114), (nat_lit 97), (nat_lit 105), (nat_lit 108), (nat_lit 101), (nat_lit 114), (nat_lit 115)]))], (some (nat_lit 56)), (some ((nat_lit 53), true))⟩,
  .ins ⟨(.p .pick), [.tmp (nat_lit 53), .tmp (nat_lit 56), .const (.bool false)], (some (nat_lit 57)), (some ((nat_lit 49), false))⟩,
  .ins ⟨(.p .pick), [.tmp (nat_lit 49), .const (.bool true), .tmp (nat_lit 57)], (some (nat_lit 58)), none⟩])
 (.cond (.tmp (nat_lit 58)) (.seq (.region [
  .ins ⟨(.p .mv), [.const (.map none)], (some (nat_lit 2)), none⟩,
  .ins ⟨(.p .mv), [.const (.bool false)], (some (nat_lit 3)), none⟩])
 .ret)
 .skip)))))))
 (.region [
  .ins ⟨(.p (.bini .add)), [.tmp (nat_lit 13), .const (.int .i64 (.ofNat (nat_lit 1)))], (some (nat_lit 59)), none⟩,
  .ins ⟨(.p .mv), [.tmp (nat_lit 59)], (some (nat_lit 13)), none⟩])))))))
 (.seq (.region [
  .ins ⟨(.p .mv), [.tmp (nat_lit 4)], (some (nat_lit 60)), none⟩,
  .ins ⟨(.p .mv), [.tmp (nat_lit 60)], (some (nat_lit 2)), none⟩,
  .ins ⟨(.p .mv), [.const (.bool true)], (some (nat_lit 3)), none⟩])
 .ret)))))⟩

def c167 : Code' := .fn ⟨(nat_lit 8), [.tmp (nat_lit 4)],
 (.seq (.region [
  .ins ⟨(.p .mv), [.const (.bool false)], (some (nat_lit 4)), none⟩])
 (.seq (.region [
  .ins ⟨(.p .mv), [.tmp (nat_lit 0)], (some (nat_lit 5)), none⟩,
  .ins ⟨(.p .mv), [.tmp (nat_lit 1)], (some (nat_lit 6)), none⟩,
  .ins ⟨(.c .value), [.const (.func (.func (nat_lit 246)) [] []), .tmp (nat_lit 5), .tmp (nat_lit 6)], (some (nat_lit 7)), none⟩,
  .ins ⟨(.p .mv), [.tmp (nat_lit 7)], (some (nat_lit 4)), none⟩])
 .ret))⟩

def c168 : Code' := .fn ⟨(nat_lit 24), [.tmp (nat_lit 2)],
 (.seq (.region [
  .ins ⟨(.p .mv), [.const (.int .i64 (.ofNat (nat_lit 0)))], (some (nat_lit 2)), none⟩])
 (.seq (.region [
  .ins ⟨(.p .mv), [.const (.int .i64 (.ofNat (nat_lit 0)))], (some (nat_lit 3)), none⟩])
 (.seq (.seq (.region [
  .ins ⟨(.p .mv), [.tmp (nat_lit 0)], (some (nat_lit 6)), none⟩,
  .ins ⟨(.p .lenSl), [.tmp (nat_lit 6)], (some (nat_lit 7)), none⟩,
  .ins ⟨(.p .mv), [.const (.int .i64 (.ofNat (nat_lit 0)))], (some (nat_lit 8)), none⟩])
 (.block (nat_lit 0) (.loop (.seq (.region [
  .ins ⟨(.p (.bini .lss)), [.tmp (nat_lit 8), .tmp (nat_lit 7)], (some (nat_lit 9)), none⟩])
 (.seq (.cond (.tmp (nat_lit 9)) .skip
 (.exit (nat_lit 0)))
 (.seq (.block (nat_lit 1) (.seq (.region [
  .ins ⟨(.p (.indexAddr (nat_lit 3))), [.tmp (nat_lit 6), .tmp (nat_lit 8)], (some (nat_lit 10)), none⟩,
  .ins ⟨(.r (.load true (nat_lit 3))), [.tmp (nat_lit 10)], (some (nat_lit 11)), none⟩,
  .ins ⟨(.a (.alloc [(.str (bs [])), (.str (bs [])), (.bool false)])), [], (some (nat_lit 5)), none⟩,
  .ins ⟨(.l (.store (nat_lit 3))), [.tmp (nat_lit 5), .tmp (nat_lit 11)], none, none⟩])
 (.region [
  .ins ⟨(.p .mv), [.tmp (nat_lit 3)], (some (nat_lit 12)), none⟩,
  .ins ⟨(.p (.fieldAddr (nat_lit 0))), [.tmp (nat_lit 5)], (some (nat_lit 13)), none⟩,
  .ins ⟨(.r (.load false (nat_lit 1))), [.tmp (nat_lit 13)], (some (nat_lit 14)), none⟩,
  .ins ⟨(.p .lenStr), [.tmp (nat_lit 14)], (some (nat_lit 15)), none⟩,
  .ins ⟨(.p (.fieldAddr (nat_lit 1))), [.tmp (nat_lit 5)], (some (nat_lit 16)), none⟩,
  .ins ⟨(.r (.load false (nat_lit 1))), [.tmp (nat_lit 16)], (some (nat_lit 17)), none⟩,
  .ins ⟨(.p .lenStr), [.tmp (nat_lit 17)], (some (nat_lit 18)), none⟩,
  .ins ⟨(.p (.bini .add)), [.tmp (nat_lit 15), .tmp (nat_lit 18)], (some (nat_lit 19)), none⟩,
  .ins ⟨(.p (.bini .add)), [.tmp (nat_lit 19), .const (.int .i64 (.ofNat (nat_lit 32)))], (some (nat_lit 20)), none⟩,
  .ins ⟨(.p (.bini .add)), [.tmp (nat_lit 12), .tmp (nat_lit 20)], (some (nat_lit 21)), none⟩,
  .ins ⟨(.p .mv), [.tmp (nat_lit 21)], (some (nat_lit 3)), none⟩])))
 (.region [
  .ins ⟨(.p (.bini .add)), [.tmp (nat_lit 8), .const (.int .i64 (.ofNat (nat_lit 1)))], (some (nat_lit 22)), none⟩,
  .ins ⟨(.p .mv), [.tmp (nat_lit 22)], (some (nat_lit 8)), none⟩])))))))
 (.seq (.region [
  .ins ⟨(.p .mv), [.tmp (nat_lit 3)], (some (nat_lit 23)), none⟩,
  .ins ⟨(.p .mv), [.tmp (nat_lit 23)], (some (nat_lit 2)), none⟩])
 .ret))))⟩

def c169 : Code' := .fn ⟨(nat_lit 3), [.tmp (nat_lit 0)],
 (.seq (.region [
  .ins ⟨(.p .mv), [.const (.ptr none)], (some (nat_lit 0)), none⟩])
 (.seq (.region [
  .ins ⟨(.p (.build [(.int .i64 (.ofNat (nat_lit 0))), (.int .i64 (.ofNat (nat_lit 0)))] [])), [], (some (nat_lit 1)), none⟩,
  .ins ⟨(.a .box), [.tmp (nat_lit 1)], (some (nat_lit 2)), none⟩,
  .ins ⟨(.p .mv), [.tmp (nat_lit 2)], (some (nat_lit 0)), none⟩])
 .ret))⟩

def c170 : Code' := .fn ⟨(nat_lit 9), [.tmp (nat_lit 2)],
 (.seq (.region [
  .ins ⟨(.p .mv), [.const (.ptr none)], (some (nat_lit 2)), none⟩])
 (.seq (.region [
  .ins ⟨(.p .mv), [.tmp (nat_lit 0)], (some (nat_lit 3)), none⟩,
  .ins ⟨(.c .value), [.const (.func (.func (nat_lit 247)) [] []), .tmp (nat_lit 3), .const (.int .i64 (.ofNat (nat_lit 0))), .const (.int .i64 (.ofNat (nat_lit 2147483647)))], (some (nat_lit 4)), none⟩,
  .ins ⟨(.p .mv), [.tmp (nat_lit 4)], (some (nat_lit 0)), none⟩])
 (.seq (.region [
  .ins ⟨(.p .mv), [.tmp (nat_lit 0)], (some (nat_lit 5)), none⟩,
  .ins ⟨(.p .mv), [.tmp (nat_lit 0)], (some (nat_lit 6)), none⟩,
  .ins ⟨(.p (.build [(.int .i64 (.ofNat (nat_lit 0))), (.int .i64 (.ofNat (nat_lit 0))), (.int .i64 (.ofNat (nat_lit 0)))] [((nat_lit 0), (nat_lit 1)), ((nat_lit 1), (nat_lit 1)), ((nat_lit 2), (nat_lit 1))])), [.tmp (nat_lit 5), .tmp (nat_lit 6), .const (.int .i64 (.ofNat (nat_lit 0)))], (some (nat_lit 7)), none⟩,
  .ins ⟨(.a .box), [.tmp (nat_lit 7)], (some (nat_lit 8)), none⟩,
  .ins ⟨(.p .mv), [.tmp (nat_lit 8)], (some (nat_lit 2)), none⟩])
 .ret)))⟩

def c171 : Code' := .fn ⟨(nat_lit 10), [.cell (nat_lit 2) true (nat_lit 5)],
 (.seq (.region [
  .ins ⟨(.a (.alloc [(.int .i64 (.ofNat (nat_lit 0))), (.int .i64 (.ofNat (nat_lit 0))), (.int .i64 (.ofNat (nat_lit 0))), (.int .i64 (.ofNat (nat_lit 0))), (.int .i64 (.ofNat (nat_lit 0)))])), [], (some (nat_lit 2)), none⟩])
 (.seq (.seq (.region [
  .ins ⟨(.p .mv), [.tmp (nat_lit 0)], (some (nat_lit 3)), none⟩,
  .ins ⟨(.p (.eqnil .ptr false)), [.tmp (nat_lit 3), .const (.ptr none)], (some (nat_lit 4)), none⟩])
 (.cond (.tmp (nat_lit 4)) (.seq (.region [
  .ins ⟨(.c .value), [.const (.func (.func (nat_lit 188)) [] [])], (some (nat_lit 5)), none⟩,
  .ins ⟨(.l (.store (nat_lit 5))), [.tmp (nat_lit 2), .tmp (nat_lit 5)], none, none⟩])
 .ret)
 .skip))
 (.seq (.region [
  .ins ⟨(.p .mv), [.tmp (nat_lit 0)], (some (nat_lit 6)), none⟩,
  .ins ⟨(.p .nilck), [.tmp (nat_lit 6)], (some (nat_lit 7)), none⟩,
  .ins ⟨(.p (.fieldAddr (nat_lit 1))), [.tmp (nat_lit 7)], (some (nat_lit 8)), none⟩,
  .ins ⟨(.r (.load true (nat_lit 5))), [.tmp (nat_lit 8)], (some (nat_lit 9)), none⟩,
  .ins ⟨(.l (.store (nat_lit 5))), [.tmp (nat_lit 2), .tmp (nat_lit 9)], none, none⟩])
 .ret)))⟩

def c172 : Code' := .fn ⟨(nat_lit 7), [.tmp (nat_lit 2)],
 (.seq (.region [
  .ins ⟨(.p .mv), [.const (.ptr none)], (some (nat_lit 2)), none⟩])
 (.seq (.region [
  .ins ⟨(.p .mv), [.tmp (nat_lit 0)], (some (nat_lit 3)), none⟩,
  .ins ⟨(.c .value), [.const (.func (.func (nat_lit 247)) [] []), .tmp (nat_lit 3), .const (.int .i64 (.ofNat (nat_lit 0))), .const (.int .i64 (.ofNat (nat_lit 2147483647)))], (some (nat_lit 4)), none⟩,
  .ins ⟨(.p (.build [(.int .i64 (.ofNat (nat_lit 0)))] [((nat_lit 0), (nat_lit 1))])), [.tmp (nat_lit 4)], (some (nat_lit 5)), none⟩,
  .ins ⟨(.a .box), [.tmp (nat_lit 5)], (some (nat_lit 6)), none⟩,
  .ins ⟨(.p .mv), [.tmp (nat_lit 6)], (some (nat_lit 2)), none⟩])
 .ret))⟩

def c173 : Code' := .fn ⟨(nat_lit 23), [.tmp (nat_lit 4)],
 (.seq (.region [
  .ins ⟨(.p .mv), [.const (.int .i64 (.ofNat (nat_lit 0)))], (some (nat_lit 4)), none⟩])
 (.seq (.block (nat_lit 0) (.seq (.region [
  .ins ⟨(.p .mv), [.tmp (nat_lit 0)], (some (nat_lit 6)), none⟩,
  .ins ⟨(.p (.eqnil .ptr false)), [.tmp (nat_lit 6), .const (.ptr none)], (some (nat_lit 7)), none⟩,
  .ins ⟨(.p .mv), [.tmp (nat_lit 7)], (some (nat_lit 8)), none⟩,
  .ins ⟨(.p .mv), [.tmp (nat_lit 1)], (some (nat_lit 9)), (some ((nat_lit 8), false))⟩,
  .ins ⟨(.p (.bini .lss)), [.tmp (nat_lit 9), .const (.int .i64 (.ofNat (nat_lit 1)))], (some (nat_lit 10)), (some ((nat_lit 8), false))⟩,
  .ins ⟨(.p .pick), [.tmp (nat_lit 8), .const (.bool true), .tmp (nat_lit 10)], (some (nat_lit 11)), none⟩,
  .ins ⟨(.p .mv), [.tmp (nat_lit 11)], (some (nat_lit 12)), none⟩,
  .ins ⟨(.p .mv), [.tmp (nat_lit 1)], (some (nat_lit 13)), (some ((nat_lit 12), false))⟩,
  .ins ⟨(.p (.bini .gtr)), [.tmp (nat_lit 13), .const (.int .i64 (.ofNat (nat_lit 2147483647)))], (some (nat_lit 14)), (some ((nat_lit 12), false))⟩,
  .ins ⟨(.p .pick), [.tmp (nat_lit 12), .const (.bool true), .tmp (nat_lit 14)], (some (nat_lit 15)), none⟩,
  .ins ⟨(.p .mv), [.tmp (nat_lit 15)], (some (nat_lit 5)), none⟩])
 (.cond (.tmp (nat_lit 5)) (.seq (.region [
  .ins ⟨(.p .mv), [.const (.int .i64 (.ofNat (nat_lit 1)))], (some (nat_lit 4)), none⟩])
 .ret)
 (.seq (.region [
  .ins ⟨(.p .mv), [.tmp (nat_lit 1)], (some (nat_lit 17)), none⟩,
  .ins ⟨(.p .mv), [.tmp (nat_lit 0)], (some (nat_lit 18)), none⟩,
  .ins ⟨(.p .nilck), [.tmp (nat_lit 18)], (some (nat_lit 19)), none⟩,
  .ins ⟨(.p (.fieldAddr (nat_lit 2))), [.tmp (nat_lit 19)], (some (nat_lit 20)), none⟩,
  .ins ⟨(.r (.load false (nat_lit 1))), [.tmp (nat_lit 20)], (some (nat_lit 21)), none⟩,
  .ins ⟨(.p (.bini .leq)), [.tmp (nat_lit 17), .tmp (nat_lit 21)], (some (nat_lit 22)), none⟩,
  .ins ⟨(.p .mv), [.tmp (nat_lit 22)], (some (nat_lit 16)), none⟩])
 (.cond (.tmp (nat_lit 16)) (.seq (.region [
  .ins ⟨(.p .mv), [.const (.int .i64 (.ofNat (nat_lit 8)))], (some (nat_lit 4)), none⟩])
 .ret)
 .skip)))))
 (.seq (.region [
  .ins ⟨(.p .mv), [.const (.int .i64 (.ofNat (nat_lit 0)))], (some (nat_lit 4)), none⟩])
 .ret)))⟩

def c174 : Code' := .fn ⟨(nat_lit 114), [.tmp (nat_lit 4), .tmp (nat_lit 5)],
 (.seq (.region [
  .ins ⟨(.p .mv), [.const (.slice none (nat_lit 0) (nat_lit 0) (nat_lit 0))], (some (nat_lit 4)), none⟩,
  .ins ⟨(.p .mv), [.const (.int .i64 (.ofNat (nat_lit 0)))], (some (nat_lit 5)), none⟩])
 (.seq (.seq (.region [
  .ins ⟨(.p .mv), [.tmp (nat_lit 0)], (some (nat_lit 13)), none⟩,
  .ins ⟨(.p (.eqnil .ptr false)), [.tmp (nat_lit 13), .const (.ptr none)], (some (nat_lit 14)), none⟩])
 (.cond (.tmp (nat_lit 14)) (.seq (.region [
  .ins ⟨(.p .mv), [.const (.slice none (nat_lit 0) (nat_lit 0) (nat_lit 0))], (some (nat_lit 4)), none⟩,
  .ins ⟨(.p .mv), [.const (.int .i64 (.ofNat (nat_lit 1)))], (some (nat_lit 5)), none⟩])
 .ret)
 .skip))
 (.seq (.seq (.region [
  .ins ⟨(.p .mv), [.tmp (nat_lit 1)], (some (nat_lit 15)), none⟩,
  .ins ⟨(.p .lenSl), [.tmp (nat_lit 15)], (some (nat_lit 16)), none⟩,
  .ins ⟨(.p .mv), [.const (.int .i64 (.ofNat (nat_lit 0)))], (some (nat_lit 17)), none⟩])
 (.block (nat_lit 0) (.loop (.seq (.region [
  .ins ⟨(.p (.bini .lss)), [.tmp (nat_lit 17), .tmp (nat_lit 16)], (some (nat_lit 18)), none⟩])
 (.seq (.cond (.tmp (nat_lit 18)) .skip
 (.exit (nat_lit 0)))
 (.seq (.block (nat_lit 1) (.seq (.region [
  .ins ⟨(.p (.indexAddr (nat_lit 3))), [.tmp (nat_lit 15), .tmp (nat_lit 17)], (some (nat_lit 19)), none⟩,
  .ins ⟨(.r (.load true (nat_lit 3))), [.tmp (nat_lit 19)], (some (nat_lit 20)), none⟩,
  .ins ⟨(.a (.alloc [(.str (bs [])), (.str (bs [])), (.bool false)])), [], (some (nat_lit 7)), none⟩,
  .ins ⟨(.l (.store (nat_lit 3))), [.tmp (nat_lit 7), .tmp (nat_lit 20)], none, none⟩])
 (.seq (.region [
  .ins ⟨(.p (.fieldAddr (nat_lit 0))), [.tmp (nat_lit 7)], (some (nat_lit 21)), none⟩,
  .ins ⟨(.r (.load false (nat_lit 1))), [.tmp (nat_lit 21)], (some (nat_lit 22)), none⟩,
  .ins ⟨(.p .lenStr), [.tmp (nat_lit 22)], (some (nat_lit 23)), none⟩,
  .ins ⟨(.p (.bini .gtr)), [.tmp (nat_lit 23), .const (.int .i64 (.ofNat (nat_lit 65536)))], (some (nat_lit 24)), none⟩,
  .ins ⟨(.p .mv), [.tmp (nat_lit 24)], (some (nat_lit 25)), none⟩,
  .ins ⟨(.p (.fieldAddr (nat_lit 1))), [.tmp (nat_lit 7)], (some (nat_lit 26)), (some ((nat_lit 25), false))⟩,
  .ins ⟨(.r (.load false (nat_lit 1))), [.tmp (nat_lit 26)], (some (nat_lit 27)), (some ((nat_lit 25), false))⟩,
  .ins ⟨(.p .lenStr), [.tmp (nat_lit 27)], (some (nat_lit 28)), (some ((nat_lit 25), false))⟩,
  .ins ⟨(.p (.bini .gtr)), [.tmp (nat_lit 28), .const (.int .i64 (.ofNat (nat_lit 65536)))], (some (nat_lit 29)), (some ((nat_lit 25), false))⟩,
  .ins ⟨(.p .pick), [.tmp (nat_lit 25), .const (.bool true), .tmp (nat_lit 29)], (some (nat_lit 30)), none⟩])
 (.cond (.tmp (nat_lit 30)) (.seq (.region [
  .ins ⟨(.p .mv), [.const (.slice none (nat_lit 0) (nat_lit 0) (nat_lit 0))], (some (nat_lit 4)), none⟩,
  .ins ⟨(.p .mv), [.const (.int .i64 (.ofNat (nat_lit 5)))], (some (nat_lit 5)), none⟩])
 .ret)
 .skip))))
 (.region [
  .ins ⟨(.p (.bini .add)), [.tmp (nat_lit 17), .const (.int .i64 (.ofNat (nat_lit 1)))], (some (nat_lit 31)), none⟩,
  .ins ⟨(.p .mv), [.tmp (nat_lit 31)], (some (nat_lit 17)), none⟩])))))))
 (.seq (.seq (.region [
  .ins ⟨(.p .mv), [.tmp (nat_lit 1)], (some (nat_lit 32)), none⟩,
  .ins ⟨(.c .value), [.const (.func (.func (nat_lit 168)) [] []), .tmp (nat_lit 32)], (some (nat_lit 33)), none⟩,
  .ins ⟨(.p (.bini .gtr)), [.tmp (nat_lit 33), .const (.int .i64 (.ofNat (nat_lit 32768)))], (some (nat_lit 34)), none⟩])
 (.cond (.tmp (nat_lit 34)) (.seq (.region [
  .ins ⟨(.p .mv), [.const (.slice none (nat_lit 0) (nat_lit 0) (nat_lit 0))], (some (nat_lit 4)), none⟩,
  .ins ⟨(.p .mv), [.const (.int .i64 (.ofNat (nat_lit 2)))], (some (nat_lit 5)), none⟩])
 .ret)
 .skip))
 (.seq (.region [
  .ins ⟨(.p .mv), [.const (.slice none (nat_lit 0) (nat_lit 0) (nat_lit 0))], (some (nat_lit 8)), none⟩])
 (.seq (.seq (.region [
  .ins ⟨(.p .mv), [.tmp (nat_lit 0)], (some (nat_lit 35)), none⟩,
  .ins ⟨(.p .nilck), [.tmp (nat_lit 35)], (some (nat_lit 36)), none⟩,
  .ins ⟨(.p (.fieldAddr (nat_lit 2))), [.tmp (nat_lit 36)], (some (nat_lit 37)), none⟩,
  .ins ⟨(.r (.load false (nat_lit 1))), [.tmp (nat_lit 37)], (some (nat_lit 38)), none⟩,
  .ins ⟨(.p .mv), [.tmp (nat_lit 0)], (some (nat_lit 39)), none⟩,
  .ins ⟨(.p .nilck), [.tmp (nat_lit 39)], (some (nat_lit 40)), none⟩,
  .ins ⟨(.p (.fieldAddr (nat_lit 1))), [.tmp (nat_lit 40)], (some (nat_lit 41)), none⟩,
  .ins ⟨(.r (.load false (nat_lit 1))), [.tmp (nat_lit 41)], (some (nat_lit 42)), none⟩,
  .ins ⟨(.p (.bini .lss)), [.tmp (nat_lit 38), .tmp (nat_lit 42)], (some (nat_lit 43)), none⟩])
 (.cond (.tmp (nat_lit 43)) (.region [
  .ins ⟨(.p .mv), [.tmp (nat_lit 0)], (some (nat_lit 44)), none⟩,
  .ins ⟨(.p .mv), [.tmp (nat_lit 8)], (some (nat_lit 45)), none⟩,
  .ins ⟨(.p .mv), [.tmp (nat_lit 0)], (some (nat_lit 46)), none⟩,
  .ins ⟨(.p .nilck), [.tmp (nat_lit 46)], (some (nat_lit 47)), none⟩,
  .ins ⟨(.p (.fieldAddr (nat_lit 2))), [.tmp (nat_lit 47)], (some (nat_lit 48)), none⟩,
  .ins ⟨(.r (.load false (nat_lit 1))), [.tmp (nat_lit 48)], (some (nat_lit 49)), none⟩,
  .ins ⟨(.c .value), [.const (.func (.func (nat_lit 248)) [] []), .tmp (nat_lit 44), .tmp (nat_lit 45), .tmp (nat_lit 49)], (some (nat_lit 50)), none⟩,
  .ins ⟨(.p .mv), [.tmp (nat_lit 50)], (some (nat_lit 8)), none⟩])
 .skip))
 (.seq (.seq (.region [
  .ins ⟨(.p .mv), [.tmp (nat_lit 0)], (some (nat_lit 51)), none⟩,
  .ins ⟨(.p .nilck), [.tmp (nat_lit 51)], (some (nat_lit 52)), none⟩,
  .ins ⟨(.p (.fieldAddr (nat_lit 3))), [.tmp (nat_lit 52)], (some (nat_lit 53)), none⟩,
  .ins ⟨(.r (.load false (nat_lit 1))), [.tmp (nat_lit 53)], (some (nat_lit 54)), none⟩,
  .ins ⟨(.p .mv), [.tmp (nat_lit 0)], (some (nat_lit 55)), none⟩,
  .ins ⟨(.p .nilck), [.tmp (nat_lit 55)], (some (nat_lit 56)), none⟩,
  .ins ⟨(.p (.fieldAddr (nat_lit 1))), [.tmp (nat_lit 56)], (some (nat_lit 57)), none⟩,
  .ins ⟨(.r (.load false (nat_lit 1))), [.tmp (nat_lit 57)], (some (nat_lit 58)), none⟩,
  .ins ⟨(.p (.bini .neq)), [.tmp (nat_lit 54), .tmp (nat_lit 58)], (some (nat_lit 59)), none⟩])
 (.cond (.tmp (nat_lit 59)) (.region [
  .ins ⟨(.p .mv), [.tmp (nat_lit 0)], (some (nat_lit 60)), none⟩,
  .ins ⟨(.p .mv), [.tmp (nat_lit 8)], (some (nat_lit 61)), none⟩,
  .ins ⟨(.p .mv), [.tmp (nat_lit 0)], (some (nat_lit 62)), none⟩,
  .ins ⟨(.p .nilck), [.tmp (nat_lit 62)], (some (nat_lit 63)), none⟩,
  .ins ⟨(.p (.fieldAddr (nat_lit 3))), [.tmp (nat_lit 63)], (some (nat_lit 64)), none⟩,
  .ins ⟨(.r (.load false (nat_lit 1))), [.tmp (nat_lit 64)], (some (nat_lit 65)), none⟩,
  .ins ⟨(.c .value), [.const (.func (.func (nat_lit 248)) [] []), .tmp (nat_lit 60), .tmp (nat_lit 61), .tmp (nat_lit 65)], (some (nat_lit 66)), none⟩,
  .ins ⟨(.p .mv), [.tmp (nat_lit 66)], (some (nat_lit 8)), none⟩])
 .skip))
 (.seq (.region [
  .ins ⟨(.p .mv), [.tmp (nat_lit 0)], (some (nat_lit 67)), none⟩,
  .ins ⟨(.p .mv), [.tmp (nat_lit 0)], (some (nat_lit 68)), none⟩,
  .ins ⟨(.p .nilck), [.tmp (nat_lit 68)], (some (nat_lit 69)), none⟩,
  .ins ⟨(.p (.fieldAddr (nat_lit 1))), [.tmp (nat_lit 69)], (some (nat_lit 70)), none⟩,
  .ins ⟨(.r (.load false (nat_lit 1))), [.tmp (nat_lit 70)], (some (nat_lit 71)), none⟩,
  .ins ⟨(.p .nilck), [.tmp (nat_lit 67)], (some (nat_lit 72)), none⟩,
  .ins ⟨(.p (.fieldAddr (nat_lit 2))), [.tmp (nat_lit 72)], (some (nat_lit 73)), none⟩,
  .ins ⟨(.l (.store (nat_lit 1))), [.tmp (nat_lit 73), .tmp (nat_lit 71)], none, none⟩])
 (.seq (.seq (.region [
  .ins ⟨(.p .mv), [.tmp (nat_lit 1)], (some (nat_lit 74)), none⟩,
  .ins ⟨(.p .lenSl), [.tmp (nat_lit 74)], (some (nat_lit 75)), none⟩,
  .ins ⟨(.p .mv), [.const (.int .i64 (.ofNat (nat_lit 0)))], (some (nat_lit 76)), none⟩])
 (.block (nat_lit 2) (.loop (.seq (.region [
  .ins ⟨(.p (.bini .lss)), [.tmp (nat_lit 76), .tmp (nat_lit 75)], (some (nat_lit 77)), none⟩])
 (.seq (.cond (.tmp (nat_lit 77)) .skip
 (.exit (nat_lit 2)))
 (.seq (.block (nat_lit 3) (.seq (.region [
  .ins ⟨(.p (.indexAddr (nat_lit 3))), [.tmp (nat_lit 74), .tmp (nat_lit 76)], (some (nat_lit 78)), none⟩,
  .ins ⟨(.r (.load true (nat_lit 3))), [.tmp (nat_lit 78)], (some (nat_lit 79)), none⟩,
  .ins ⟨(.a (.alloc [(.str (bs [])), (.str (bs [])), (.bool false)])), [], (some (nat_lit 10)), none⟩,
  .ins ⟨(.l (.store (nat_lit 3))), [.tmp (nat_lit 10), .tmp (nat_lit 79)], none, none⟩])
 (.seq (.region [
  .ins ⟨(.p .mv), [.tmp (nat_lit 0)], (some (nat_lit 81)), none⟩,
  .ins ⟨(.r (.load true (nat_lit 3))), [.tmp (nat_lit 10)], (some (nat_lit 82)), none⟩,
  .ins ⟨(.c .value), [.const (.func (.func (nat_lit 249)) [] []), .tmp (nat_lit 81), .tmp (nat_lit 82)], (some (nat_lit 83)), none⟩,
  .ins ⟨(.p .mv), [.tmp (nat_lit 83)], (some (nat_lit 80)), none⟩,
  .ins ⟨(.p (.extract (nat_lit 0))), [.tmp (nat_lit 80)], (some (nat_lit 84)), none⟩,
  .ins ⟨(.p (.extract (nat_lit 1))), [.tmp (nat_lit 80)], (some (nat_lit 85)), none⟩,
  .ins ⟨(.p .mv), [.tmp (nat_lit 84)], (some (nat_lit 11)), none⟩,
  .ins ⟨(.p .mv), [.tmp (nat_lit 85)], (some (nat_lit 12)), none⟩])
 (.block (nat_lit 4) (.seq (.region [
  .ins ⟨(.p (.fieldAddr (nat_lit 2))), [.tmp (nat_lit 10)], (some (nat_lit 100)), none⟩,
  .ins ⟨(.r (.load false (nat_lit 1))), [.tmp (nat_lit 100)], (some (nat_lit 101)), none⟩,
  .ins ⟨(.p .mv), [.tmp (nat_lit 101)], (some (nat_lit 99)), none⟩])
 (.cond (.tmp (nat_lit 99)) (.region [
  .ins ⟨(.p .mv), [.tmp (nat_lit 8)], (some (nat_lit 102)), none⟩,
  .ins ⟨(.p .mv), [.tmp (nat_lit 12)], (some (nat_lit 103)), none⟩,
  .ins ⟨(.r (.load true (nat_lit 3))), [.tmp (nat_lit 10)], (some (nat_lit 104)), none⟩,
  .ins ⟨(.c .value), [.const (.func (.func (nat_lit 250)) [] []), .tmp (nat_lit 102), .const (.int .i64 (.ofNat (nat_lit 4))), .const (.int .i64 (.ofNat (nat_lit 16))), .tmp (nat_lit 103), .tmp (nat_lit 104)], (some (nat_lit 105)), none⟩,
  .ins ⟨(.p .mv), [.tmp (nat_lit 105)], (some (nat_lit 8)), none⟩])
 (.seq (.region [
  .ins ⟨(.p .mv), [.tmp (nat_lit 11)], (some (nat_lit 107)), none⟩,
  .ins ⟨(.p (.bini .gtr)), [.tmp (nat_lit 107), .const (.int .i64 (.ofNat (nat_lit 0)))], (some (nat_lit 108)), none⟩,
  .ins ⟨(.p .mv), [.tmp (nat_lit 108)], (some (nat_lit 106)), none⟩])
 (.cond (.tmp (nat_lit 106)) (.region [
  .ins ⟨(.p .mv), [.tmp (nat_lit 8)], (some (nat_lit 109)), none⟩,
  .ins ⟨(.p .mv), [.tmp (nat_lit 11)], (some (nat_lit 110)), none⟩,
  .ins ⟨(.c .value), [.const (.func (.func (nat_lit 251)) [] []), .tmp (nat_lit 109), .const (.int .i64 (.ofNat (nat_lit 7))), .const (.int .i64 (.ofNat (nat_lit 128))), .tmp (nat_lit 110)], (some (nat_lit 111)), none⟩,
  .ins ⟨(.p .mv), [.tmp (nat_lit 111)], (some (nat_lit 8)), none⟩])
 (.seq (.region [
  .ins ⟨(.p .mv), [.tmp (nat_lit 8)], (some (nat_lit 86)), none⟩,
  .ins ⟨(.p .mv), [.tmp (nat_lit 12)], (some (nat_lit 87)), none⟩,
  .ins ⟨(.r (.load true (nat_lit 3))), [.tmp (nat_lit 10)], (some (nat_lit 88)), none⟩,
  .ins ⟨(.c .value), [.const (.func (.func (nat_lit 250)) [] []), .tmp (nat_lit 86), .const (.int .i64 (.ofNat (nat_lit 6))), .const (.int .i64 (.ofNat (nat_lit 64))), .tmp (nat_lit 87), .tmp (nat_lit 88)], (some (nat_lit 89)), none⟩,
  .ins ⟨(.p .mv), [.tmp (nat_lit 89)], (some (nat_lit 8)), none⟩])
 (.region [
  .ins ⟨(.p .mv), [.tmp (nat_lit 0)], (some (nat_lit 90)), none⟩,
  .ins ⟨(.p .nilck), [.tmp (nat_lit 90)], (some (nat_lit 91)), none⟩,
  .ins ⟨(.p (.fieldAddr (nat_lit 0))), [.tmp (nat_lit 91)], (some (nat_lit 92)), none⟩,
  .ins ⟨(.r (.load false (nat_lit 1))), [.tmp (nat_lit 92)], (some (nat_lit 93)), none⟩,
  .ins ⟨(.p (.fieldAddr (nat_lit 0))), [.tmp (nat_lit 10)], (some (nat_lit 94)), none⟩,
  .ins ⟨(.r (.load false (nat_lit 1))), [.tmp (nat_lit 94)], (some (nat_lit 95)), none⟩,
  .ins ⟨(.p (.fieldAddr (nat_lit 1))), [.tmp (nat_lit 10)], (some (nat_lit 96)), none⟩,
  .ins ⟨(.r (.load false (nat_lit 1))), [.tmp (nat_lit 96)], (some (nat_lit 97)), none⟩,
  .ins ⟨(.c .value), [.const (.func (.func (nat_lit 252)) [] []), .tmp (nat_lit 93), .tmp (nat_lit 95), .tmp (nat_lit 97)], (some (nat_lit 98)), none⟩]))))))))))
 (.region [
  .ins ⟨(.p (.bini .add)), [.tmp (nat_lit 76), .const (.int .i64 (.ofNat (nat_lit 1)))], (some (nat_lit 112)), none⟩,
  .ins ⟨(.p .mv), [.tmp (nat_lit 112)], (some (nat_lit 76)), none⟩])))))))
 (.seq (.region [
  .ins ⟨(.p .mv), [.tmp (nat_lit 8)], (some (nat_lit 113)), none⟩,
  .ins ⟨(.p .mv), [.tmp (nat_lit 113)], (some (nat_lit 4)), none⟩,
  .ins ⟨(.p .mv), [.const (.int .i64 (.ofNat (nat_lit 0)))], (some (nat_lit 5)), none⟩])
 .ret))))))))))⟩

def c175 : Code' := .fn ⟨(nat_lit 12), [.tmp (nat_lit 8)],
 (.seq (.region [
  .ins ⟨(.a .box), [.tmp (nat_lit 0)], (some (nat_lit 4)), none⟩,
  .ins ⟨(.a .box), [.tmp (nat_lit 1)], (some (nat_lit 5)), none⟩,
  .ins ⟨(.a .box), [.tmp (nat_lit 2)], (some (nat_lit 6)), none⟩,
  .ins ⟨(.a .box), [.tmp (nat_lit 3)], (some (nat_lit 7)), none⟩,
  .ins ⟨(.p .mv), [.const .nilFunc], (some (nat_lit 8)), none⟩])
 (.seq (.region [
  .ins ⟨(.r (.load false (nat_lit 1))), [.tmp (nat_lit 7)], (some (nat_lit 9)), none⟩,
  .ins ⟨(.p .max), [.tmp (nat_lit 9), .const (.int .i64 (.ofNat (nat_lit 1)))], (some (nat_lit 10)), none⟩,
  .ins ⟨(.l (.store (nat_lit 1))), [.tmp (nat_lit 7), .tmp (nat_lit 10)], none, none⟩])
 (.seq (.region [
  .ins ⟨(.p (.mkfunc (.func (nat_lit 253)) (nat_lit 0))), [.tmp (nat_lit 4), .tmp (nat_lit 5), .tmp (nat_lit 6), .tmp (nat_lit 7)], (some (nat_lit 11)), none⟩,
  .ins ⟨(.p .mv), [.tmp (nat_lit 11)], (some (nat_lit 8)), none⟩])
 .ret)))⟩

def c176 : Code' := .fn ⟨(nat_lit 20), [],
 (.seq (.region [
  .ins ⟨(.a .box), [.tmp (nat_lit 1)], (some (nat_lit 3)), none⟩])
 (.seq (.region [
  .ins ⟨(.r (.load true (nat_lit 4))), [.tmp (nat_lit 3)], (some (nat_lit 7)), none⟩,
  .ins ⟨(.c .value), [.const (.func (.func (nat_lit 254)) [] []), .tmp (nat_lit 7)], (some (nat_lit 8)), none⟩,
  .ins ⟨(.p .mv), [.tmp (nat_lit 8)], (some (nat_lit 6)), none⟩,
  .ins ⟨(.p (.extract (nat_lit 0))), [.tmp (nat_lit 6)], (some (nat_lit 9)), none⟩,
  .ins ⟨(.p (.extract (nat_lit 1))), [.tmp (nat_lit 6)], (some (nat_lit 10)), none⟩,
  .ins ⟨(.p .mv), [.tmp (nat_lit 9)], (some (nat_lit 4)), none⟩,
  .ins ⟨(.p .mv), [.tmp (nat_lit 10)], (some (nat_lit 5)), none⟩])
 (.region [
  .ins ⟨(.p .mv), [.tmp (nat_lit 0)], (some (nat_lit 11)), none⟩,
  .ins ⟨(.p .mv), [.tmp (nat_lit 0)], (some (nat_lit 12)), none⟩,
  .ins ⟨(.p .nilck), [.tmp (nat_lit 12)], (some (nat_lit 13)), none⟩,
  .ins ⟨(.p (.fieldAddr (nat_lit 14))), [.tmp (nat_lit 13)], (some (nat_lit 14)), none⟩,
  .ins ⟨(.r (.load false (nat_lit 1))), [.tmp (nat_lit 14)], (some (nat_lit 15)), none⟩,
  .ins ⟨(.p .mv), [.tmp (nat_lit 4)], (some (nat_lit 16)), none⟩,
  .ins ⟨(.l (.append [(.int .u8 (.ofNat (nat_lit 0)))] (nat_lit 1) (nat_lit 1))), [.tmp (nat_lit 15), .tmp (nat_lit 16)], (some (nat_lit 17)), none⟩,
  .ins ⟨(.p .nilck), [.tmp (nat_lit 11)], (some (nat_lit 18)), none⟩,
  .ins ⟨(.p (.fieldAddr (nat_lit 14))), [.tmp (nat_lit 18)], (some (nat_lit 19)), none⟩,
  .ins ⟨(.l (.store (nat_lit 1))), [.tmp (nat_lit 19), .tmp (nat_lit 17)], none, none⟩])))⟩

def c177 : Code' := .fn ⟨(nat_lit 18), [],
 (.seq (.region [
  .ins ⟨(.p .mv), [.tmp (nat_lit 2)], (some (nat_lit 6)), none⟩,
  .ins ⟨(.p .nilck), [.tmp (nat_lit 6)], (some (nat_lit 7)), none⟩,
  .ins ⟨(.p (.fieldAddr (nat_lit 0))), [.tmp (nat_lit 7)], (some (nat_lit 8)), none⟩,
  .ins ⟨(.r (.load false (nat_lit 1))), [.tmp (nat_lit 8)], (some (nat_lit 9)), none⟩,
  .ins ⟨(.c .value), [.const (.func (.func (nat_lit 162)) [] []), .tmp (nat_lit 9)], (some (nat_lit 10)), none⟩,
  .ins ⟨(.p (.bini .eql)), [.tmp (nat_lit 10), .const (.int .i64 (.ofNat (nat_lit 4)))], (some (nat_lit 11)), none⟩])
 (.cond (.tmp (nat_lit 11)) (.region [
  .ins ⟨(.p .mv), [.tmp (nat_lit 0)], (some (nat_lit 12)), none⟩,
  .ins ⟨(.p .nilck), [.tmp (nat_lit 12)], (some (nat_lit 13)), none⟩,
  .ins ⟨(.p (.fieldAddr (nat_lit 13))), [.tmp (nat_lit 13)], (some (nat_lit 14)), none⟩,
  .ins ⟨(.r (.load false (nat_lit 1))), [.tmp (nat_lit 14)], (some (nat_lit 15)), none⟩,
  .ins ⟨(.p .mv), [.tmp (nat_lit 1)], (some (nat_lit 16)), none⟩,
  .ins ⟨(.c .value), [.const (.func (.func (nat_lit 119)) [] []), .tmp (nat_lit 15), .tmp (nat_lit 16), .const (.int .i64 (.ofNat (nat_lit 1)))], (some (nat_lit 17)), none⟩])
 .skip))⟩

def c178 : Code' := .fn ⟨(nat_lit 26), [.tmp (nat_lit 2)],
 (.seq (.region [
  .ins ⟨(.a .box), [.tmp (nat_lit 0)], (some (nat_lit 1)), none⟩,
  .ins ⟨(.p .mv), [.const (.int .i64 (.ofNat (nat_lit 0)))], (some (nat_lit 2)), none⟩])
 (.seq (.seq (.region [
  .ins ⟨(.p (.fieldAddr (nat_lit 0))), [.tmp (nat_lit 1)], (some (nat_lit 3)), none⟩,
  .ins ⟨(.r (.load false (nat_lit 1))), [.tmp (nat_lit 3)], (some (nat_lit 4)), none⟩,
  .ins ⟨(.c .value), [.const (.func (.func (nat_lit 255)) [] []), .tmp (nat_lit 4), .const (.int .i64 (.ofNat (nat_lit 0))), .const (.int .i64 (.ofNat (nat_lit 65536)))], (some (nat_lit 5)), none⟩,
  .ins ⟨(.p .mv), [.tmp (nat_lit 5)], (some (nat_lit 6)), none⟩,
  .ins ⟨(.p (.fieldAddr (nat_lit 1))), [.tmp (nat_lit 1)], (some (nat_lit 7)), (some ((nat_lit 6), true))⟩,
  .ins ⟨(.r (.load false (nat_lit 1))), [.tmp (nat_lit 7)], (some (nat_lit 8)), (some ((nat_lit 6), true))⟩,
  .ins ⟨(.c .value), [.const (.func (.func (nat_lit 255)) [] []), .tmp (nat_lit 8), .const (.int .i64 (.ofNat (nat_lit 0))), .const (.int .i64 (.ofNat (nat_lit 2147483647)))], (some (nat_lit 9)), (some ((nat_lit 6), true))⟩,
  .ins ⟨(.p .pick), [.tmp (nat_lit 6), .tmp (nat_lit 9), .const (.bool false)], (some (nat_lit 10)), none⟩,
  .ins ⟨(.p .mv), [.tmp (nat_lit 10)], (some (nat_lit 11)), none⟩,
  .ins ⟨(.p (.fieldAddr (nat_lit 2))), [.tmp (nat_lit 1)], (some (nat_lit 12)), (some ((nat_lit 11), true))⟩,
  .ins ⟨(.r (.load false (nat_lit 1))), [.tmp (nat_lit 12)], (some (nat_lit 13)), (some ((nat_lit 11), true))⟩,
  .ins ⟨(.c .value), [.const (.func (.func (nat_lit 255)) [] []), .tmp (nat_lit 13), .const (.int .i64 (.ofNat (nat_lit 0))), .const (.int .i64 (.ofNat (nat_lit 2147483647)))], (some (nat_lit 14)), (some ((nat_lit 11), true))⟩,
  .ins ⟨(.p .pick), [.tmp (nat_lit 11), .tmp (nat_lit 14), .const (.bool false)], (some (nat_lit 15)), none⟩,
  .ins ⟨(.p .mv), [.tmp (nat_lit 15)], (some (nat_lit 16)), none⟩,
  .ins ⟨(.p (.fieldAddr (nat_lit 3))), [.tmp (nat_lit 1)], (some (nat_lit 17)), (some ((nat_lit 16), true))⟩,
  .ins ⟨(.r (.load false (nat_lit 1))), [.tmp (nat_lit 17)], (some (nat_lit 18)), (some ((nat_lit 16), true))⟩,
  .ins ⟨(.c .value), [.const (.func (.func (nat_lit 255)) [] []), .tmp (nat_lit 18), .const (.int .i64 (.ofNat (nat_lit 16384))), .const (.int .i64 (.ofNat (nat_lit 16777215)))], (some (nat_lit 19)), (some ((nat_lit 16), true))⟩,
  .ins ⟨(.p .pick), [.tmp (nat_lit 16), .tmp (nat_lit 19), .const (.bool false)], (some (nat_lit 20)), none⟩,
  .ins ⟨(.p .mv), [.tmp (nat_lit 20)], (some (nat_lit 21)), none⟩,
  .ins ⟨(.p (.fieldAddr (nat_lit 4))), [.tmp (nat_lit 1)], (some (nat_lit 22)), (some ((nat_lit 21), true))⟩,
  .ins ⟨(.r (.load false (nat_lit 1))), [.tmp (nat_lit 22)], (some (nat_lit 23)), (some ((nat_lit 21), true))⟩,
  .ins ⟨(.c .value), [.const (.func (.func (nat_lit 255)) [] []), .tmp (nat_lit 23), .const (.int .i64 (.ofNat (nat_lit 0))), .const (.int .i64 (.ofNat (nat_lit 2147483647)))], (some (nat_lit 24)), (some ((nat_lit 21), true))⟩,
  .ins ⟨(.p .pick), [.tmp (nat_lit 21), .tmp (nat_lit 24), .const (.bool false)], (some (nat_lit 25)), none⟩])
 (.cond (.tmp (nat_lit 25)) (.seq (.region [
  .ins ⟨(.p .mv), [.const (.int .i64 (.ofNat (nat_lit 0)))], (some (nat_lit 2)), none⟩])
 .ret)
 .skip))
 (.seq (.region [
  .ins ⟨(.p .mv), [.const (.int .i64 (.ofNat (nat_lit 1)))], (some (nat_lit 2)), none⟩])
 .ret)))⟩

def c180 : Code' := .fn ⟨(nat_lit 90), [.cell (nat_lit 8) true (nat_lit 4), .tmp (nat_lit 9)],
 (.seq (.region [
  .ins ⟨(.a .box), [.tmp (nat_lit 3)], (some (nat_lit 7)), none⟩,
  .ins ⟨(.a (.alloc [(.int .i64 (.ofNat (nat_lit 0))), (.int .i64 (.ofNat (nat_lit 0))), (.int .i64 (.ofNat (nat_lit 0))), (.slice none (nat_lit 0) (nat_lit 0) (nat_lit 0))])), [], (some (nat_lit 8)), none⟩,
  .ins ⟨(.p .mv), [.const (.int .i64 (.ofNat (nat_lit 0)))], (some (nat_lit 9)), none⟩])
 (.seq (.region [
  .ins ⟨(.p .mv), [.tmp (nat_lit 0)], (some (nat_lit 13)), none⟩,
  .ins ⟨(.c .value), [.const (.func (.func (nat_lit 257)) [] []), .tmp (nat_lit 13)], (some (nat_lit 14)), none⟩,
  .ins ⟨(.p .mv), [.tmp (nat_lit 14)], (some (nat_lit 15)), none⟩,
  .ins ⟨(.p .mv), [.tmp (nat_lit 1)], (some (nat_lit 16)), (some ((nat_lit 15), true))⟩,
  .ins ⟨(.p (.bini .and)), [.tmp (nat_lit 16), .const (.int .i64 (.ofNat (nat_lit 8)))], (some (nat_lit 17)), (some ((nat_lit 15), true))⟩,
  .ins ⟨(.p (.bini .neq)), [.tmp (nat_lit 17), .const (.int .i64 (.ofNat (nat_lit 0)))], (some (nat_lit 18)), (some ((nat_lit 15), true))⟩,
  .ins ⟨(.p .pick), [.tmp (nat_lit 15), .tmp (nat_lit 18), .const (.bool false)], (some (nat_lit 19)), none⟩,
  .ins ⟨(.p .mv), [.tmp (nat_lit 19)], (some (nat_lit 10)), none⟩])
 (.seq (.seq (.region [
  .ins ⟨(.p .mv), [.tmp (nat_lit 0)], (some (nat_lit 20)), none⟩,
  .ins ⟨(.p (.bini .lss)), [.tmp (nat_lit 20), .const (.int .i64 (.ofNat (nat_lit 0)))], (some (nat_lit 21)), none⟩,
  .ins ⟨(.p .mv), [.tmp (nat_lit 21)], (some (nat_lit 22)), none⟩,
  .ins ⟨(.p .mv), [.tmp (nat_lit 0)], (some (nat_lit 23)), (some ((nat_lit 22), false))⟩,
  .ins ⟨(.p (.bini .gtr)), [.tmp (nat_lit 23), .const (.int .i64 (.ofNat (nat_lit 9)))], (some (nat_lit 24)), (some ((nat_lit 22), false))⟩,
  .ins ⟨(.p .pick), [.tmp (nat_lit 22), .const (.bool true), .tmp (nat_lit 24)], (some (nat_lit 25)), none⟩,
  .ins ⟨(.p .mv), [.tmp (nat_lit 25)], (some (nat_lit 26)), none⟩,
  .ins ⟨(.p .mv), [.tmp (nat_lit 1)], (some (nat_lit 27)), (some ((nat_lit 26), false))⟩,
  .ins ⟨(.p (.bini .lss)), [.tmp (nat_lit 27), .const (.int .i64 (.ofNat (nat_lit 0)))], (some (nat_lit 28)), (some ((nat_lit 26), false))⟩,
  .ins ⟨(.p .pick), [.tmp (nat_lit 26), .const (.bool true), .tmp (nat_lit 28)], (some (nat_lit 29)), none⟩,
  .ins ⟨(.p .mv), [.tmp (nat_lit 29)], (some (nat_lit 30)), none⟩,
  .ins ⟨(.p .mv), [.tmp (nat_lit 1)], (some (nat_lit 31)), (some ((nat_lit 30), false))⟩,
  .ins ⟨(.p (.bini .gtr)), [.tmp (nat_lit 31), .const (.int .i64 (.ofNat (nat_lit 255)))], (some (nat_lit 32)), (some ((nat_lit 30), false))⟩,
  .ins ⟨(.p .pick), [.tmp (nat_lit 30), .const (.bool true), .tmp (nat_lit 32)], (some (nat_lit 33)), none⟩,
  .ins ⟨(.p .mv), [.tmp (nat_lit 33)], (some (nat_lit 34)), none⟩,
  .ins ⟨(.p .mv), [.tmp (nat_lit 2)], (some (nat_lit 35)), (some ((nat_lit 34), false))⟩,
  .ins ⟨(.c .value), [.const (.func (.func (nat_lit 258)) [] []), .tmp (nat_lit 35)], (some (nat_lit 36)), (some ((nat_lit 34), false))⟩,
  .ins ⟨(.p (.un .not)), [.tmp (nat_lit 36)], (some (nat_lit 37)), (some ((nat_lit 34), false))⟩,
  .ins ⟨(.p .pick), [.tmp (nat_lit 34), .const (.bool true), .tmp (nat_lit 37)], (some (nat_lit 38)), none⟩,
  .ins ⟨(.p .mv), [.tmp (nat_lit 38)], (some (nat_lit 39)), none⟩,
  .ins ⟨(.p (.fieldAddr (nat_lit 1))), [.tmp (nat_lit 7)], (some (nat_lit 40)), (some ((nat_lit 39), false))⟩,
  .ins ⟨(.r (.load false (nat_lit 1))), [.tmp (nat_lit 40)], (some (nat_lit 41)), (some ((nat_lit 39), false))⟩,
  .ins ⟨(.p (.bini .lss)), [.tmp (nat_lit 41), .const (.int .i64 (.ofNat (nat_lit 0)))], (some (nat_lit 42)), (some ((nat_lit 39), false))⟩,
  .ins ⟨(.p .pick), [.tmp (nat_lit 39), .const (.bool true), .tmp (nat_lit 42)], (some (nat_lit 43)), none⟩,
  .ins ⟨(.p .mv), [.tmp (nat_lit 43)], (some (nat_lit 44)), none⟩,
  .ins ⟨(.p (.fieldAddr (nat_lit 1))), [.tmp (nat_lit 7)], (some (nat_lit 45)), (some ((nat_lit 44), false))⟩,
  .ins ⟨(.r (.load false (nat_lit 1))), [.tmp (nat_lit 45)], (some (nat_lit 46)), (some ((nat_lit 44), false))⟩,
  .ins ⟨(.p (.bini .gtr)), [.tmp (nat_lit 46), .const (.int .i64 (.ofNat (nat_lit 255)))], (some (nat_lit 47)), (some ((nat_lit 44), false))⟩,
  .ins ⟨(.p .pick), [.tmp (nat_lit 44), .const (.bool true), .tmp (nat_lit 47)], (some (nat_lit 48)), none⟩,
  .ins ⟨(.p .mv), [.tmp (nat_lit 48)], (some (nat_lit 49)), none⟩,
  .ins ⟨(.p (.fieldAddr (nat_lit 1))), [.tmp (nat_lit 7)], (some (nat_lit 50)), (some ((nat_lit 49), false))⟩,
  .ins ⟨(.r (.load false (nat_lit 1))), [.tmp (nat_lit 50)], (some (nat_lit 51)), (some ((nat_lit 49), false))⟩,
  .ins ⟨(.p (.bini .gtr)), [.tmp (nat_lit 51), .const (.int .i64 (.ofNat (nat_lit 0)))], (some (nat_lit 52)), (some ((nat_lit 49), false))⟩,
  .ins ⟨(.p .mv), [.tmp (nat_lit 52)], (some (nat_lit 53)), (some ((nat_lit 49), false))⟩,
  .ins ⟨(.p .mv), [.tmp (nat_lit 10)], (some (nat_lit 54)), (some ((nat_lit 53), true))⟩,
  .ins ⟨(.p (.un .not)), [.tmp (nat_lit 54)], (some (nat_lit 55)), (some ((nat_lit 53), true))⟩,
  .ins ⟨(.p .pick), [.tmp (nat_lit 53), .tmp (nat_lit 55), .const (.bool false)], (some (nat_lit 56)), (some ((nat_lit 49), false))⟩,
  .ins ⟨(.p .pick), [.tmp (nat_lit 49), .const (.bool true), .tmp (nat_lit 56)], (some (nat_lit 57)), none⟩])
 (.cond (.tmp (nat_lit 57)) (.seq (.region [
  .ins ⟨(.p (.build [(.int .i64 (.ofNat (nat_lit 0))), (.int .i64 (.ofNat (nat_lit 0))), (.int .i64 (.ofNat (nat_lit 0))), (.slice none (nat_lit 0) (nat_lit 0) (nat_lit 0))] [])), [], (some (nat_lit 58)), none⟩,
  .ins ⟨(.l (.store (nat_lit 4))), [.tmp (nat_lit 8), .tmp (nat_lit 58)], none, none⟩,
  .ins ⟨(.p .mv), [.const (.int .i64 (.ofNat (nat_lit 1)))], (some (nat_lit 9)), none⟩])
 .ret)
 .skip))
 (.seq (.region [
  .ins ⟨(.p .mv), [.const (.slice none (nat_lit 0) (nat_lit 0) (nat_lit 0))], (some (nat_lit 11)), none⟩])
 (.seq (.seq (.region [
  .ins ⟨(.p .mv), [.tmp (nat_lit 10)], (some (nat_lit 59)), none⟩])
 (.cond (.tmp (nat_lit 59)) (.region [
  .ins ⟨(.p .mv), [.tmp (nat_lit 11)], (some (nat_lit 60)), none⟩,
  .ins ⟨(.p (.fieldAddr (nat_lit 1))), [.tmp (nat_lit 7)], (some (nat_lit 61)), none⟩,
  .ins ⟨(.r (.load false (nat_lit 1))), [.tmp (nat_lit 61)], (some (nat_lit 62)), none⟩,
  .ins ⟨(.p (.convInt .u8)), [.tmp (nat_lit 62)], (some (nat_lit 63)), none⟩,
  .ins ⟨(.a (.buildSlice [(.int .u8 (.ofNat (nat_lit 0)))] (nat_lit 1) [((nat_lit 0), (nat_lit 1))])), [.tmp (nat_lit 63)], (some (nat_lit 64)), none⟩,
  .ins ⟨(.l (.append [(.int .u8 (.ofNat (nat_lit 0)))] (nat_lit 1) (nat_lit 1))), [.tmp (nat_lit 60), .tmp (nat_lit 64)], (some (nat_lit 65)), none⟩,
  .ins ⟨(.p .mv), [.tmp (nat_lit 65)], (some (nat_lit 11)), none⟩])
 .skip))
 (.seq (.region [
  .ins ⟨(.p .mv), [.tmp (nat_lit 11)], (some (nat_lit 67)), none⟩,
  .ins ⟨(.p .mv), [.tmp (nat_lit 0)], (some (nat_lit 68)), none⟩,
  .ins ⟨(.p .mv), [.tmp (nat_lit 1)], (some (nat_lit 69)), none⟩,
  .ins ⟨(.r (.load true (nat_lit 11))), [.tmp (nat_lit 7)], (some (nat_lit 70)), none⟩,
  .ins ⟨(.c .value), [.const (.func (.func (nat_lit 259)) [] []), .tmp (nat_lit 67), .tmp (nat_lit 68), .tmp (nat_lit 69), .tmp (nat_lit 70)], (some (nat_lit 71)), none⟩,
  .ins ⟨(.p .mv), [.tmp (nat_lit 71)], (some (nat_lit 66)), none⟩,
  .ins ⟨(.p (.extract (nat_lit 0))), [.tmp (nat_lit 66)], (some (nat_lit 72)), none⟩,
  .ins ⟨(.p (.extract (nat_lit 1))), [.tmp (nat_lit 66)], (some (nat_lit 73)), none⟩,
  .ins ⟨(.p .mv), [.tmp (nat_lit 72)], (some (nat_lit 11)), none⟩,
  .ins ⟨(.p .mv), [.tmp (nat_lit 73)], (some (nat_lit 12)), none⟩])
 (.seq (.seq (.region [
  .ins ⟨(.p .mv), [.tmp (nat_lit 12)], (some (nat_lit 74)), none⟩,
  .ins ⟨(.p (.un .not)), [.tmp (nat_lit 74)], (some (nat_lit 75)), none⟩])
 (.cond (.tmp (nat_lit 75)) (.seq (.region [
  .ins ⟨(.p (.build [(.int .i64 (.ofNat (nat_lit 0))), (.int .i64 (.ofNat (nat_lit 0))), (.int .i64 (.ofNat (nat_lit 0))), (.slice none (nat_lit 0) (nat_lit 0) (nat_lit 0))] [])), [], (some (nat_lit 76)), none⟩,
  .ins ⟨(.l (.store (nat_lit 4))), [.tmp (nat_lit 8), .tmp (nat_lit 76)], none, none⟩,
  .ins ⟨(.p .mv), [.const (.int .i64 (.ofNat (nat_lit 1)))], (some (nat_lit 9)), none⟩])
 .ret)
 .skip))
 (.seq (.region [
  .ins ⟨(.p .mv), [.tmp (nat_lit 11)], (some (nat_lit 77)), none⟩,
  .ins ⟨(.p (.fieldAddr (nat_lit 1))), [.tmp (nat_lit 7)], (some (nat_lit 78)), none⟩,
  .ins ⟨(.r (.load false (nat_lit 1))), [.tmp (nat_lit 78)], (some (nat_lit 79)), none⟩,
  .ins ⟨(.l (.appendZ [(.int .u8 (.ofNat (nat_lit 0)))] (nat_lit 1) (nat_lit 1))), [.tmp (nat_lit 77), .tmp (nat_lit 79)], (some (nat_lit 80)), none⟩,
  .ins ⟨(.p .mv), [.tmp (nat_lit 80)], (some (nat_lit 11)), none⟩])
 (.seq (.seq (.region [
  .ins ⟨(.p .mv), [.tmp (nat_lit 11)], (some (nat_lit 81)), none⟩,
  .ins ⟨(.p .lenSl), [.tmp (nat_lit 81)], (some (nat_lit 82)), none⟩,
  .ins ⟨(.p (.bini .gtr)), [.tmp (nat_lit 82), .const (.int .i64 (.ofNat (nat_lit 16777215)))], (some (nat_lit 83)), none⟩])
 (.cond (.tmp (nat_lit 83)) (.seq (.region [
  .ins ⟨(.p (.build [(.int .i64 (.ofNat (nat_lit 0))), (.int .i64 (.ofNat (nat_lit 0))), (.int .i64 (.ofNat (nat_lit 0))), (.slice none (nat_lit 0) (nat_lit 0) (nat_lit 0))] [])), [], (some (nat_lit 84)), none⟩,
  .ins ⟨(.l (.store (nat_lit 4))), [.tmp (nat_lit 8), .tmp (nat_lit 84)], none, none⟩,
  .ins ⟨(.p .mv), [.const (.int .i64 (.ofNat (nat_lit 2)))], (some (nat_lit 9)), none⟩])
 .ret)
 .skip))
 (.seq (.region [
  .ins ⟨(.p .mv), [.tmp (nat_lit 0)], (some (nat_lit 85)), none⟩,
  .ins ⟨(.p .mv), [.tmp (nat_lit 1)], (some (nat_lit 86)), none⟩,
  .ins ⟨(.p .mv), [.tmp (nat_lit 2)], (some (nat_lit 87)), none⟩,
  .ins ⟨(.p .mv), [.tmp (nat_lit 11)], (some (nat_lit 88)), none⟩,
  .ins ⟨(.p (.build [(.int .i64 (.ofNat (nat_lit 0))), (.int .i64 (.ofNat (nat_lit 0))), (.int .i64 (.ofNat (nat_lit 0))), (.slice none (nat_lit 0) (nat_lit 0) (nat_lit 0))] [((nat_lit 0), (nat_lit 1)), ((nat_lit 1), (nat_lit 1)), ((nat_lit 2), (nat_lit 1)), ((nat_lit 3), (nat_lit 1))])), [.tmp (nat_lit 85), .tmp (nat_lit 86), .tmp (nat_lit 87), .tmp (nat_lit 88)], (some (nat_lit 89)), none⟩,
  .ins ⟨(.l (.store (nat_lit 4))), [.tmp (nat_lit 8), .tmp (nat_lit 89)], none, none⟩,
  .ins ⟨(.p .mv), [.const (.int .i64 (.ofNat (nat_lit 0)))], (some (nat_lit 9)), none⟩])
 .ret))))))))))⟩

def c183 : Code' := .fn ⟨(nat_lit 29), [.tmp (nat_lit 4), .tmp (nat_lit 5)],
 (.seq (.region [
  .ins ⟨(.p .mv), [.const (.ptr none)], (some (nat_lit 4)), none⟩,
  .ins ⟨(.p .mv), [.const (.bool false)], (some (nat_lit 5)), none⟩])
 (.seq (.region [
  .ins ⟨(.p .mv), [.const (.ptr none)], (some (nat_lit 6)), none⟩])
 (.seq (.seq (.region [
  .ins ⟨(.p .mv), [.tmp (nat_lit 0)], (some (nat_lit 9)), none⟩,
  .ins ⟨(.p (.eqnil .ptr false)), [.tmp (nat_lit 9), .const (.ptr none)], (some (nat_lit 10)), none⟩])
 (.cond (.tmp (nat_lit 10)) (.seq (.region [
  .ins ⟨(.p .mv), [.tmp (nat_lit 6)], (some (nat_lit 11)), none⟩,
  .ins ⟨(.p .mv), [.tmp (nat_lit 11)], (some (nat_lit 4)), none⟩,
  .ins ⟨(.p .mv), [.const (.bool false)], (some (nat_lit 5)), none⟩])
 .ret)
 .skip))
 (.seq (.region [
  .ins ⟨(.p .mv), [.tmp (nat_lit 0)], (some (nat_lit 13)), none⟩,
  .ins ⟨(.p .mv), [.tmp (nat_lit 1)], (some (nat_lit 14)), none⟩,
  .ins ⟨(.c .value), [.const (.func (.func (nat_lit 185)) [] []), .tmp (nat_lit 13), .tmp (nat_lit 14)], (some (nat_lit 15)), none⟩,
  .ins ⟨(.p .mv), [.tmp (nat_lit 15)], (some (nat_lit 12)), none⟩,
  .ins ⟨(.p (.extract (nat_lit 0))), [.tmp (nat_lit 12)], (some (nat_lit 16)), none⟩,
  .ins ⟨(.p (.extract (nat_lit 1))), [.tmp (nat_lit 12)], (some (nat_lit 17)), none⟩,
  .ins ⟨(.p .mv), [.tmp (nat_lit 16)], (some (nat_lit 7)), none⟩,
  .ins ⟨(.p .mv), [.tmp (nat_lit 17)], (some (nat_lit 8)), none⟩])
 (.seq (.seq (.region [
  .ins ⟨(.p .mv), [.tmp (nat_lit 8)], (some (nat_lit 18)), none⟩,
  .ins ⟨(.p (.un .not)), [.tmp (nat_lit 18)], (some (nat_lit 19)), none⟩])
 (.cond (.tmp (nat_lit 19)) (.seq (.region [
  .ins ⟨(.p .mv), [.tmp (nat_lit 6)], (some (nat_lit 20)), none⟩,
  .ins ⟨(.p .mv), [.tmp (nat_lit 20)], (some (nat_lit 4)), none⟩,
  .ins ⟨(.p .mv), [.const (.bool false)], (some (nat_lit 5)), none⟩])
 .ret)
 .skip))
 (.seq (.region [
  .ins ⟨(.p .mv), [.tmp (nat_lit 0)], (some (nat_lit 21)), none⟩,
  .ins ⟨(.p .nilck), [.tmp (nat_lit 21)], (some (nat_lit 22)), none⟩,
  .ins ⟨(.p (.fieldAddr (nat_lit 0))), [.tmp (nat_lit 22)], (some (nat_lit 23)), none⟩,
  .ins ⟨(.r (.load false (nat_lit 1))), [.tmp (nat_lit 23)], (some (nat_lit 24)), none⟩,
  .ins ⟨(.p .mv), [.tmp (nat_lit 7)], (some (nat_lit 25)), none⟩,
  .ins ⟨(.p (.indexAddr (nat_lit 2))), [.tmp (nat_lit 24), .tmp (nat_lit 25)], (some (nat_lit 26)), none⟩,
  .ins ⟨(.p (.fieldAddr (nat_lit 1))), [.tmp (nat_lit 26)], (some (nat_lit 27)), none⟩,
  .ins ⟨(.r (.load false (nat_lit 1))), [.tmp (nat_lit 27)], (some (nat_lit 28)), none⟩,
  .ins ⟨(.p .mv), [.tmp (nat_lit 28)], (some (nat_lit 4)), none⟩,
  .ins ⟨(.p .mv), [.const (.bool true)], (some (nat_lit 5)), none⟩])
 .ret))))))⟩

def c184 : Code' := .fn ⟨(nat_lit 9), [.tmp (nat_lit 2)],
 (.seq (.region [
  .ins ⟨(.p .mv), [.const (.bool false)], (some (nat_lit 2)), none⟩])
 (.seq (.region [
  .ins ⟨(.p .mv), [.tmp (nat_lit 0)], (some (nat_lit 3)), none⟩,
  .ins ⟨(.p (.bini .geq)), [.tmp (nat_lit 3), .const (.int .i64 (.ofNat (nat_lit 1)))], (some (nat_lit 4)), none⟩,
  .ins ⟨(.p .mv), [.tmp (nat_lit 4)], (some (nat_lit 5)), none⟩,
  .ins ⟨(.p .mv), [.tmp (nat_lit 0)], (some (nat_lit 6)), (some ((nat_lit 5), true))⟩,
  .ins ⟨(.p (.bini .leq)), [.tmp (nat_lit 6), .const (.int .i64 (.ofNat (nat_lit 3)))], (some (nat_lit 7)), (some ((nat_lit 5), true))⟩,
  .ins ⟨(.p .pick), [.tmp (nat_lit 5), .tmp (nat_lit 7), .const (.bool false)], (some (nat_lit 8)), none⟩,
  .ins ⟨(.p .mv), [.tmp (nat_lit 8)], (some (nat_lit 2)), none⟩])
 .ret))⟩

def c185 : Code' := .fn ⟨(nat_lit 14), [.tmp (nat_lit 4), .tmp (nat_lit 5)],
 (.seq (.region [
  .ins ⟨(.p .mv), [.const (.int .i64 (.ofNat (nat_lit 0)))], (some (nat_lit 4)), none⟩,
  .ins ⟨(.p .mv), [.const (.bool false)], (some (nat_lit 5)), none⟩])
 (.seq (.region [
  .ins ⟨(.p .mv), [.tmp (nat_lit 0)], (some (nat_lit 6)), none⟩,
  .ins ⟨(.p .nilck), [.tmp (nat_lit 6)], (some (nat_lit 7)), none⟩,
  .ins ⟨(.p (.fieldAddr (nat_lit 0))), [.tmp (nat_lit 7)], (some (nat_lit 8)), none⟩,
  .ins ⟨(.r (.load false (nat_lit 1))), [.tmp (nat_lit 8)], (some (nat_lit 9)), none⟩,
  .ins ⟨(.p .mv), [.tmp (nat_lit 1)], (some (nat_lit 10)), none⟩,
  .ins ⟨(.c .value), [.const (.func (.func (nat_lit 263)) [] []), .tmp (nat_lit 9), .tmp (nat_lit 10), .const (.func (.func (nat_lit 264)) [] [])], (some (nat_lit 11)), none⟩,
  .ins ⟨(.p (.extract (nat_lit 0))), [.tmp (nat_lit 11)], (some (nat_lit 12)), none⟩,
  .ins ⟨(.p (.extract (nat_lit 1))), [.tmp (nat_lit 11)], (some (nat_lit 13)), none⟩,
  .ins ⟨(.p .mv), [.tmp (nat_lit 12)], (some (nat_lit 4)), none⟩,
  .ins ⟨(.p .mv), [.tmp (nat_lit 13)], (some (nat_lit 5)), none⟩])
 .ret))⟩

def c186 : Code' := .fn ⟨(nat_lit 33), [.tmp (nat_lit 6)],
 (.seq (.region [
  .ins ⟨(.p .mv), [.const (.slice none (nat_lit 0) (nat_lit 0) (nat_lit 0))], (some (nat_lit 6)), none⟩])
 (.seq (.region [
  .ins ⟨(.p .mv), [.tmp (nat_lit 0)], (some (nat_lit 8)), none⟩,
  .ins ⟨(.p .mv), [.tmp (nat_lit 1)], (some (nat_lit 9)), none⟩,
  .ins ⟨(.p .mv), [.tmp (nat_lit 2)], (some (nat_lit 10)), none⟩,
  .ins ⟨(.p .mv), [.tmp (nat_lit 0)], (some (nat_lit 11)), none⟩,
  .ins ⟨(.p .lenSl), [.tmp (nat_lit 11)], (some (nat_lit 12)), none⟩,
  .ins ⟨(.p (.slice3 (nat_lit 2) true)), [.tmp (nat_lit 8), .tmp (nat_lit 9), .tmp (nat_lit 10), .tmp (nat_lit 12)], (some (nat_lit 13)), none⟩])
 (.seq (.seq (.region [
  .ins ⟨(.p .mv), [.tmp (nat_lit 1)], (some (nat_lit 14)), none⟩,
  .ins ⟨(.p .mv), [.tmp (nat_lit 2)], (some (nat_lit 15)), none⟩,
  .ins ⟨(.p (.bini .eql)), [.tmp (nat_lit 14), .tmp (nat_lit 15)], (some (nat_lit 16)), none⟩])
 (.cond (.tmp (nat_lit 16)) (.seq (.region [
  .ins ⟨(.p .mv), [.tmp (nat_lit 0)], (some (nat_lit 17)), none⟩,
  .ins ⟨(.p .mv), [.tmp (nat_lit 17)], (some (nat_lit 6)), none⟩])
 .ret)
 .skip))
 (.seq (.region [
  .ins ⟨(.p .mv), [.tmp (nat_lit 0)], (some (nat_lit 18)), none⟩,
  .ins ⟨(.p .lenSl), [.tmp (nat_lit 18)], (some (nat_lit 19)), none⟩,
  .ins ⟨(.p .mv), [.tmp (nat_lit 19)], (some (nat_lit 7)), none⟩])
 (.seq (.region [
  .ins ⟨(.p .mv), [.tmp (nat_lit 0)], (some (nat_lit 20)), none⟩,
  .ins ⟨(.p .mv), [.tmp (nat_lit 1)], (some (nat_lit 21)), none⟩,
  .ins ⟨(.p (.slice (nat_lit 2) false true)), [.tmp (nat_lit 20), .tmp (nat_lit 21)], (some (nat_lit 22)), none⟩,
  .ins ⟨(.p .mv), [.tmp (nat_lit 0)], (some (nat_lit 23)), none⟩,
  .ins ⟨(.p .mv), [.tmp (nat_lit 2)], (some (nat_lit 24)), none⟩,
  .ins ⟨(.p (.slice (nat_lit 2) true false)), [.tmp (nat_lit 23), .tmp (nat_lit 24)], (some (nat_lit 25)), none⟩,
  .ins ⟨(.l (.append [(.int .i64 (.ofNat (nat_lit 0))), (.ptr none)] (nat_lit 2) (nat_lit 16))), [.tmp (nat_lit 22), .tmp (nat_lit 25)], (some (nat_lit 26)), none⟩,
  .ins ⟨(.p .mv), [.tmp (nat_lit 26)], (some (nat_lit 0)), none⟩])
 (.seq (.region [
  .ins ⟨(.p .mv), [.tmp (nat_lit 0)], (some (nat_lit 27)), none⟩,
  .ins ⟨(.p .mv), [.tmp (nat_lit 0)], (some (nat_lit 28)), none⟩,
  .ins ⟨(.p .lenSl), [.tmp (nat_lit 28)], (some (nat_lit 29)), none⟩,
  .ins ⟨(.p .mv), [.tmp (nat_lit 7)], (some (nat_lit 30)), none⟩,
  .ins ⟨(.p (.slice (nat_lit 2) true true)), [.tmp (nat_lit 27), .tmp (nat_lit 29), .tmp (nat_lit 30)], (some (nat_lit 31)), none⟩,
  .ins ⟨(.l (.clear [(.int .i64 (.ofNat (nat_lit 0))), (.ptr none)])), [.tmp (nat_lit 31)], none, none⟩])
 (.seq (.region [
  .ins ⟨(.p .mv), [.tmp (nat_lit 0)], (some (nat_lit 32)), none⟩,
  .ins ⟨(.p .mv), [.tmp (nat_lit 32)], (some (nat_lit 6)), none⟩])
 .ret)))))))⟩

end Go.Proofs.YtjjdminaacibeaaGreatDoor.Ev.PairLong
